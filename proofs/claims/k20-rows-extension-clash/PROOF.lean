import PyProof.Rows.All
import Wide.All
import OpenK.AllK
import Wide.FinOn
import HandS.ForMost
import HandS.Exc
import HandS.ExcOwn
import HandS.WordsExc
import HandS.TupAny
import HandS.TupLe
import HandS.Deep
import HandS.IsInst
import HandS.Rev
import HandS.Zip
import HandS.Flow
import HandS.Style
import HandS.TupMul
import HandS.SortInts
import KE.GoesEnum
import KE.GoesMore
import PyProof.ZipIter
import KE.KRevIter
import HandS.ClsMeth
import PySem.Challenge.RW_askedthen_k20_rows_extension_clash
set_option Elab.async false
set_option linter.all false
section
set_option autoImplicit false
/-! Ev1: a small language of its own (data D, expressions E, statements S) and what it computes. -/
namespace Ev

/-! ### data -/
inductive D where
  | non | bl (b : Bool) | int (i : Int) | str (s : List Nat)
  | tup (xs : List D) | lst (xs : List D)
  | dct (ks vs : List D) | obj (c : Nat) (fs : List D) | ins (n : Nat) | fn (g : Nat) (cs : List D)
  deriving Inhabited

mutual
def deq : D → D → Bool
  | .non, .non => true
  | .bl a, .bl b => a == b
  | .bl a, .int j => (if a then 1 else 0) == j
  | .int i, .bl b => i == (if b then 1 else 0)
  | .int i, .int j => i == j
  | .str x, .str y => x == y
  | .lst xs, .lst ys => deqs xs ys
  | .tup xs, .tup ys => deqs xs ys
  | _, _ => false
def deqs : List D → List D → Bool
  | [], [] => true
  | x :: xs, y :: ys => deq x y && deqs xs ys
  | _, _ => false
end

mutual
def dep : D → Nat
  | .lst xs => depA xs + 1
  | .tup xs => depA xs + 1
  | _ => 0
def depA : List D → Nat
  | [] => 0
  | x :: xs => max (dep x) (depA xs)
end

mutual
/-- none, bools, ints, texts, lists and tuples of such -/
def pln : D → Bool
  | .lst xs => plnA xs
  | .tup xs => plnA xs
  | .dct _ _ => false
  | .obj _ _ => false
  | .ins _ => false
  | .fn _ _ => false
  | _ => true
def plnA : List D → Bool
  | [] => true
  | x :: xs => pln x && plnA xs
end

mutual
/-- no list and no dict within -/
def flat : D → Bool
  | .lst _ => false
  | .tup xs => flatA xs
  | .dct _ _ => false
  | .obj _ fs => flatA fs
  | .fn _ cs => flatA cs
  | _ => true
def flatA : List D → Bool
  | [] => true
  | x :: xs => flat x && flatA xs
end

def line : Nat := 16777216
/-- may be compared by == -/
def shp (x : D) : Bool := pln x && decide (dep x ≤ 64)

/-! ### syntax -/
inductive BOp where
  | add | sub | mul | fdiv | mod | pow | band
  deriving DecidableEq
inductive COp where
  | eq | ne | lt | le | gt | ge | isin | nin | is | isnot
  deriving DecidableEq
inductive Ty where
  | int | bool | str | tup | lst
  deriving DecidableEq
inductive Blt where
  | len | int | ord | min | max | tuple | list | all | any | sum | sorted
  deriving DecidableEq
inductive Bm where
  | find | join | split
  deriving DecidableEq
/-- a target: a name, or names of a tuple's places -/
inductive Tg where
  | nm (i : Nat) | tp (is : List Nat)
/-- what a loop goes over -/
inductive Wk where
  | seq | rng1 | rng2 | rng3 | enum | zip | revd | revdr | zipr (r : Bool)
  deriving DecidableEq

inductive E where
  | v (i : Nat) | k (g : Nat)
  | n | b (x : Bool) | i (x : Int) | s (x : List Nat)
  | bin (o : BOp) (x y : E) | neg (x : E)
  | cmp (o : COp) (x y : E) | chain (o p : COp) (x y z : E)
  | and (x y : E) | or (x y : E) | not (x : E)
  | ite (c x y : E)
  | call (g : Nat) (xs : List E)
  | meth (c g : Nat) (x : E) (xs : List E)
  | new (c : Nat) (xs : List E)
  | blt (f : Blt) (xs : List E)
  | isi (x : E) (t : Ty)
  | bm (m : Bm) (x : E) (xs : List E)
  | fld (x : E) (c f : Nat)
  | ix (x y : E)
  | sl (x : E) (lo hi : Option E)
  | rev (x : E)
  | tup (xs : List E) | lst (xs : List E)
  | lc (e : E) (t : Tg) (vs : List Nat) (w : Wk) (xs : List E) (c : List E)
  | isl (x : E) | orv (x y : E)

inductive S where
  | asg (t : Tg) (e : E)
  | app (i : Nat) (e : E)
  | ext (i : Nat) (e : E)
  | pop (t : Tg) (i : Nat)
  | setix (i : Nat) (x y : E)
  | ife (c : E) (a b : List S)
  | forr (t : Tg) (w : Wk) (xs : List E) (body : List S)
  | whl (c : E) (body : List S)
  | ret (e : E)
  | retn
  | exp (e : E)
  | pass | brk | cnt | nev

structure Fn where
  np : Nat
  nl : Nat
  body : List S

structure Pg where
  fns : Nat → Option Fn
  cs : Nat → Option D

/-! ### the machine's state -/
inductive Sl where
  | no | dat (x : D) | own (x : D)
structure Ins where
  c : Nat
  fs : List Sl
abbrev Sto := List Ins
structure C where
  env : List Sl
  sto : Sto
structure Xc where
  c : Nat
  fs : List D
/-- what an expression gives: data; a list of its own that nobody else has; the list of a name's own -/
inductive Vl where
  | d (x : D) | tmp (x : D) | bor (i : Nat) (x : D)
/-- what a function gives -/
inductive Rv where
  | d (x : D) | own (x : D)
inductive R (α : Type) where
  | st | ok (a : α) (c : C) | ex (x : Xc) (c : C)
inductive Rc where
  | st | ok (v : Rv) (s : Sto) | ex (x : Xc) (s : Sto)
inductive Fl where
  | nx | rt (v : Rv) | bk | ct

def R.bind {α β : Type} : R α → (α → C → R β) → R β
  | .st, _ => .st
  | .ok a c, f => f a c
  | .ex x c, _ => .ex x c

def getS : List Sl → Nat → Sl
  | [], _ => .no
  | s :: _, 0 => s
  | _ :: r, n + 1 => getS r n
def setS : List Sl → Nat → Sl → List Sl
  | [], _, _ => []
  | _ :: r, 0, x => x :: r
  | s :: r, n + 1, x => s :: setS r n x
def C.get (c : C) (i : Nat) : Sl := getS c.env i
def C.set (c : C) (i : Nat) (x : Sl) : C := ⟨setS c.env i x, c.sto⟩
def C.wipe (c : C) : List Nat → C
  | [] => c
  | i :: is => (c.wipe is).set i .no

def Vl.rd : Vl → D
  | .d x => x
  | .tmp x => x
  | .bor _ x => x
def frz : Vl → C → C
  | .bor i x, c => c.set i (.dat x)
  | _, c => c
def frzs : List Vl → C → C
  | [], c => c
  | v :: vs, c => frzs vs (frz v c)
def Rv.vl : Rv → Vl
  | .d x => .d x
  | .own x => .tmp x
def Vl.rv (v : Vl) (c : C) : Rv := match v with
  | .d x => .d x
  | .tmp x => .own x
  | .bor i x => match c.get i with
    | .own _ => .own x
    | _ => .d x
/-- what comes back bears no list of the caller's -/
def Rv.free : Rv → Bool
  | .d x => flat x
  | .own (.lst xs) => flatA xs
  | .own _ => false

/-! ### operations -/
def okMul (i j : Int) : Bool := (decide (-(2 ^ 64) < i) && decide (i < 2 ^ 64)) || (decide (-(2 ^ 64) < j) && decide (j < 2 ^ 64))
def binD : BOp → D → D → Option Vl
  | .add, .int i, .int j => some (.d (.int (i + j)))
  | .add, .str x, .str y => if x.length + y.length ≤ line then some (.d (.str (x ++ y))) else none
  | .add, .tup x, .tup y => if x.length + y.length ≤ line then some (.d (.tup (x ++ y))) else none
  | .add, .lst x, .lst y => if x.length + y.length ≤ line then some (.tmp (.lst (x ++ y))) else none
  | .sub, .int i, .int j => some (.d (.int (i - j)))
  | .mul, .int i, .int j => if okMul i j then some (.d (.int (i * j))) else none
  | .mul, .str x, .int j => if decide (0 ≤ j) && decide (j ≤ 1000) && decide (x.length ≤ 1000) then some (.d (.str (List.replicate j.toNat x).flatten)) else none
  | .mul, .tup xs, .int j => if (!xs.isEmpty && decide (2 ≤ j) && decide (j ≤ 1000) && decide (xs.length ≤ 1000)) = true then some (.d (.tup (List.replicate j.toNat xs).flatten)) else none
  | .fdiv, .int i, .int j => if decide (0 < j) && decide (j < 1073741824) then some (.d (.int (i / j))) else none
  | .mod, .int i, .int j => if 0 < j then some (.d (.int (i % j))) else none
  | .pow, .int i, .int j => if decide (0 ≤ j) && decide (j ≤ 1000000) && decide (i.natAbs < 2 ^ 64) then some (.d (.int (i ^ j.toNat))) else none
  | .band, .int i, .int j => if decide (0 ≤ i) && decide (0 ≤ j) then some (.d (.int ((i.toNat &&& j.toNat : Nat) : Int))) else none
  | _, _, _ => none

def ints? : List D → Option (List Int)
  | [] => some []
  | .int i :: r => (ints? r).map (i :: ·)
  | _ :: _ => none
def lexLt : List Int → List Int → Bool
  | [], [] => false
  | [], _ :: _ => true
  | _ :: _, [] => false
  | x :: xs, y :: ys => if x = y then lexLt xs ys else decide (x < y)
def strLt : List Nat → List Nat → Bool
  | [], [] => false
  | [], _ :: _ => true
  | _ :: _, [] => false
  | x :: xs, y :: ys => if x = y then strLt xs ys else decide (x < y)
def ltD : D → D → Option Bool
  | .int i, .int j => some (decide (i < j))
  | .str x, .str y => some (strLt x y)
  | .tup xs, .tup ys => match ints? xs, ints? ys with
    | some a, some b => some (lexLt a b)
    | _, _ => none
  | _, _ => none
def items : D → Option (List D)
  | .lst xs => some xs
  | .tup xs => some xs
  | _ => none
def inD (x y : D) : Option Bool := match y with
  | .lst ys => if shp x && plnA ys && decide (depA ys ≤ 64) then some (ys.any fun z => deq z x) else none
  | .tup ys => if shp x && plnA ys && decide (depA ys ≤ 64) then some (ys.any fun z => deq z x) else none
  | .str t => match x with
    | .str [c] => some (t.contains c)
    | _ => none
  | _ => none
def isD : D → D → Option Bool
  | .bl a, .bl b => some (a == b)
  | .non, .non => some true
  | .ins _, .non => none
  | .fn _ _, .non => none
  | _, .non => some false
  | _, _ => none
def cmpD : COp → D → D → Option Bool
  | .eq, x, y => if shp x && shp y then some (deq x y) else none
  | .ne, x, y => if shp x && shp y then some (!deq x y) else none
  | .lt, x, y => ltD x y
  | .gt, x, y => match x, y with
    | .tup _, _ => none
    | _, _ => ltD y x
  | .le, x, y => (ltD y x).map (!·)
  | .ge, x, y => match x, y with
    | .tup _, _ => none
    | _, _ => (ltD x y).map (!·)
  | .isin, x, y => inD x y
  | .nin, x, y => (inD x y).map (!·)
  | .is, x, y => isD x y
  | .isnot, x, y => (isD x y).map (!·)

def truD : D → Option Bool
  | .non => some false
  | .bl b => some b
  | .int i => some (i != 0)
  | .str s => if s.length ≤ line then some (!s.isEmpty) else none
  | .tup xs => some (!xs.isEmpty)
  | .lst xs => some (!xs.isEmpty)
  | .obj _ _ => none
  | .dct _ _ => none
  | .ins _ => none
  | .fn _ _ => none

def isiD : D → Ty → Option Bool
  | .non, _ => some false
  | .bl _, .bool => some true
  | .bl _, .int => some true
  | .bl _, _ => some false
  | .int _, .int => some true
  | .int _, _ => some false
  | .str _, .str => some true
  | .str _, _ => some false
  | .tup _, .tup => some true
  | .tup _, _ => some false
  | .lst _, .lst => some true
  | .lst _, _ => some false
  | _, _ => none

def bools? : List D → Option (List Bool)
  | [] => some []
  | .bl b :: r => (bools? r).map (b :: ·)
  | _ :: _ => none
def minL : Int → List Int → Int
  | m, [] => m
  | m, x :: r => minL (if x < m then x else m) r
def maxL : Int → List Int → Int
  | m, [] => m
  | m, x :: r => maxL (if m < x then x else m) r
def insI (x : Int) : List Int → List Int
  | [] => [x]
  | y :: r => if x ≤ y then x :: y :: r else y :: insI x r
def sortI : List Int → List Int
  | [] => []
  | x :: r => insI x (sortI r)
def blt1 : Blt → D → Option Vl
  | .len, .str s => if s.length ≤ line then some (.d (.int s.length)) else none
  | .len, .tup xs => some (.d (.int xs.length))
  | .len, .lst xs => some (.d (.int xs.length))
  | .int, .int i => some (.d (.int i))
  | .int, .bl b => some (.d (.int (if b then 1 else 0)))
  | .ord, .str [c] => some (.d (.int c))
  | .min, .lst xs => match ints? xs with
    | some (i :: r) => some (.d (.int (minL i r)))
    | _ => none
  | .max, .lst xs => match ints? xs with
    | some (i :: r) => some (.d (.int (maxL i r)))
    | _ => none
  | .tuple, .tup xs => some (.d (.tup xs))
  | .tuple, .lst xs => some (.d (.tup xs))
  | .list, .tup xs => some (.tmp (.lst xs))
  | .list, .lst xs => some (.tmp (.lst xs))
  | .all, .lst xs => (bools? xs).map fun bs => .d (.bl (bs.all id))
  | .any, .lst xs => (bools? xs).map fun bs => .d (.bl (bs.any id))
  | .sum, .lst xs => (ints? xs).map fun is => .d (.int is.sum)
  | .sorted, .lst xs => (ints? xs).map fun is => .tmp (.lst ((sortI is).map .int))
  | _, _ => none
def blt2 : Blt → D → D → Option Vl
  | .min, .int i, .int j => some (.d (.int (if j < i then j else i)))
  | .max, .int i, .int j => some (.d (.int (if j > i then j else i)))
  | _, _, _ => none
def bltD (f : Blt) : List D → Option Vl
  | [x] => blt1 f x
  | [x, y] => blt2 f x y
  | _ => none

def ixN (n : Nat) (i : Int) : Option Nat := if 0 ≤ i then (if i < n then some i.toNat else none) else if -(n : Int) ≤ i then some (i + n).toNat else none
def atI {α : Type} (xs : List α) (i : Int) : Option α := (ixN xs.length i).bind fun j => xs[j]?
def ixD : D → D → Option D
  | .lst xs, .int i => atI xs i
  | .tup xs, .int i => atI xs i
  | .str s, .int i => if s.length ≤ line then (atI s i).map fun c => .str [c] else none
  | _, _ => none
def sIx (n d : Nat) : Option Int → Nat
  | none => d
  | some i => if i < 0 then (i + (n : Int)).toNat else min i.toNat n
def cut {α : Type} (xs : List α) (lo hi : Option Int) : List α := (xs.drop (sIx xs.length 0 lo)).take (sIx xs.length xs.length hi - sIx xs.length 0 lo)
def slD : D → Option Int → Option Int → Option Vl
  | .lst xs, lo, hi => some (.tmp (.lst (cut xs lo hi)))
  | .tup xs, lo, hi => some (.d (.tup (cut xs lo hi)))
  | .str s, lo, hi => if s.length ≤ line then some (.d (.str (cut s lo hi))) else none
  | _, _, _ => none
def enumF : Nat → List D → List D
  | _, [] => []
  | k, x :: r => .tup [.int k, x] :: enumF (k + 1) r
def zipT : List D → List D → List D
  | x :: xs, y :: ys => .tup [x, y] :: zipT xs ys
  | _, _ => []
def rngL (lo : Int) : Nat → List D
  | 0 => []
  | n + 1 => .int lo :: rngL (lo + 1) n
/-- by letters that a kernel leaves alone at a free name -/
def in62 : Int → Bool
  | .ofNat n => Nat.ble n 4611686018427387903
  | .negSucc n => Nat.ble n 4611686018427387903
theorem in62_iff {i : Int} (h : in62 i = true) : -(2 ^ 62) ≤ i ∧ i < 2 ^ 62 := by
  cases i with
  | ofNat n =>
    have h := Nat.le_of_ble_eq_true h
    have e : Int.ofNat n = (n : Int) := rfl
    rw [e]
    omega
  | negSucc n =>
    have h := Nat.le_of_ble_eq_true h
    rw [Int.negSucc_eq]
    omega
theorem in62_small {i : Int} (h0 : 0 ≤ i) (h : i ≤ 1000000000) : in62 i = true := by
  cases i with
  | ofNat n =>
    have e : Int.ofNat n = (n : Int) := rfl
    rw [e] at h
    exact Nat.ble_eq_true_of_le (by omega)
  | negSucc n =>
    rw [Int.negSucc_eq] at h0
    omega
def wkD : Wk → List D → Option (List D)
  | .seq, [.lst xs] => some xs
  | .seq, [.tup xs] => some xs
  | .seq, [.str s] => if s.length ≤ line then some (s.map fun c => .str [c]) else none
  | .rng1, [.int j] => if in62 j then some (rngL 0 j.toNat) else none
  | .rng2, [.int i, .int j] => if in62 i && in62 j then some (rngL i (j - i).toNat) else none
  | .enum, [.lst xs] => some (enumF 0 xs)
  | .enum, [.tup xs] => some (enumF 0 xs)
  | .enum, [.str s] => if s.length ≤ line then some (enumF 0 (s.map fun c => .str [c])) else none
  | .zip, [.lst xs, .lst ys] => some (zipT xs ys)
  | .zip, [.tup xs, .tup ys] => some (zipT xs ys)
  | .revd, [.lst xs] => some xs.reverse
  | .zipr r, [.lst xs, .lst ys] => some (zipT xs.reverse (if r then ys.reverse else ys))
  | .revd, [.tup xs] => some xs.reverse
  | _, _ => none

def tgt : Tg → D → C → Option C
  | .nm i, x, c => some (c.set i (.dat x))
  | .tp is, .tup xs, c => if is.length = xs.length then some (sets is xs c) else none
  | .tp _, _, _ => none
where sets : List Nat → List D → C → C
  | i :: is, x :: xs, c => sets is xs (c.set i (.dat x))
  | _, _, c => c

def ofO {α : Type} (o : Option α) (c : C) : R α := match o with
  | some a => .ok a c
  | none => .st
def asB (v : Vl) (c : C) : R Bool := ofO (truD v.rd) c

abbrev CallT := Nat → List D → Sto → Rc
def called (vs : List Vl) (c : C) : Rc → R Vl
  | .st => .st
  | .ok r s => .ok r.vl (if r.free then ⟨c.env, s⟩ else ⟨(frzs vs c).env, s⟩)
  | .ex x s => .ex x ⟨(frzs vs c).env, s⟩

/-- a comprehension's turns -/
def lcL (f : D → C → R (Option D)) : List D → List D → C → R (List D)
  | [], acc, c => .ok acc c
  | x :: xs, acc, c => (f x c).bind fun o c => match o with
    | some y => if acc.length < line then lcL f xs (acc ++ [y]) c else .st
    | none => lcL f xs acc c
def noex {α : Type} : R α → R α
  | .ex _ _ => .st
  | r => r
def isOwn : Sl → Bool
  | .own _ => true
  | _ => false

def lcF (t : Tg) (vs : List Nat) (rt : C → R Bool) (re : C → R Vl) (x : D) (c : C) : R (Option D) := match tgt t x c with
  | none => .st
  | some c => noex ((rt c).bind fun b c => if b then (re c).bind fun y c => .ok (some y.rd) ((frz y c).wipe vs) else .ok none (c.wipe vs))
def doLc (t : Tg) (vs : List Nat) (rt : C → R Bool) (re : C → R Vl) (its : List D) (c : C) : R Vl :=
  if vs.any (fun i => isOwn (c.get i)) then .st else (lcL (lcF t vs rt re) its [] (c.wipe vs)).bind fun ys c => .ok (.tmp (.lst ys)) c
def rdV (i : Nat) (c : C) : R Vl := match c.get i with
  | .no => .st
  | .dat x => .ok (.d x) c
  | .own x => .ok (.bor i x) c
def doCall (call : CallT) (g : Nat) (vs : List Vl) (c : C) : R Vl := called vs c (call g (vs.map Vl.rd) c.sto)
def doBlt (f : Blt) (vs : List Vl) (c : C) : R Vl := ofO (bltD f (vs.map Vl.rd)) c
def doIsi (t : Ty) (a : Vl) (c : C) : R Vl := ofO ((isiD a.rd t).map fun b => .d (.bl b)) c
def doIx (a b : Vl) (c : C) : R Vl := ofO ((ixD a.rd b.rd).map Vl.d) c
/-- what a class makes of its arguments: the values of its fields -/
def newD (c : Nat) (ds : List D) : Option (List D) := match c, ds with
  | 0, [.int m, .int k] => if decide (2 ≤ m) && decide (m < 2 ^ 31) && decide (1 ≤ k) && decide (k < 2 ^ 31) then some [.int m, .int k] else none
  | 1, [t] => some [t]
  | _, _ => none
def doNew (g : Nat) (vs : List Vl) (c : C) : R Vl := (ofO (newD g (vs.map Vl.rd)) c).bind fun ds c => .ok (.d (.obj g ds)) (frzs vs c)
def doFld (g f : Nat) (a : Vl) (c : C) : R Vl := match a with
  | .d (.obj g' ds) => if g' = g then ofO ((ds[f]?).map Vl.d) c else .st
  | _ => .st
def noexc {α : Type} : R α → R α
  | .ex _ _ => .st
  | r => r
def isObj (g : Nat) : Vl → Bool
  | .d (.obj g' _) => g' == g
  | _ => false
/-- a list, or nothing -/
def kIsl (a : Vl) (c : C) : R Vl := match a.rd with
  | .lst _ => .ok a c
  | _ => .st
def doMeth (call : CallT) (g : Nat) (a : Vl) (vs : List Vl) (c : C) : R Vl := noexc (doCall call g (a :: vs) c)
section
variable (P : Pg) (call : CallT)
mutual
def evE : E → C → R Vl
  | .v i, c => rdV i c
  | .k g, c => ofO ((P.cs g).map Vl.d) c
  | .n, c => .ok (.d .non) c
  | .b x, c => .ok (.d (.bl x)) c
  | .i x, c => .ok (.d (.int x)) c
  | .s x, c => .ok (.d (.str x)) c
  | .bin o x y, c => (evE x c).bind fun a c => (evE y c).bind fun b c => ofO (binD o a.rd b.rd) c
  | .neg x, c => (evE x c).bind fun a c => match a.rd with
    | .int i => .ok (.d (.int (-i))) c
    | _ => .st
  | .cmp o x y, c => (evE x c).bind fun a c => (evE y c).bind fun b c => ofO ((cmpD o a.rd b.rd).map fun t => .d (.bl t)) c
  | .chain o p x y z, c => (evE x c).bind fun a c => (evE y c).bind fun b c => (ofO (cmpD o a.rd b.rd) c).bind fun t c =>
      if t then (evE z c).bind fun d c => ofO ((cmpD p b.rd d.rd).map fun t => .d (.bl t)) c else .ok (.d (.bl false)) c
  | .and x y, c => (evE x c).bind fun a c => match a.rd with
    | .bl true => evE y c
    | .bl false => .ok (.d (.bl false)) c
    | _ => .st
  | .or x y, c => (evE x c).bind fun a c => match a.rd with
    | .bl true => .ok (.d (.bl true)) c
    | .bl false => evE y c
    | _ => .st
  | .not x, c => (evE x c).bind fun a c => match a.rd with
    | .bl t => .ok (.d (.bl !t)) c
    | _ => .st
  | .ite t x y, c => (evT t c).bind fun b c => if b then evE x c else evE y c
  | .call g xs, c => (evEs xs c).bind (doCall call g)
  | .meth g' g x xs, c => (evE x c).bind fun a c => if isObj g' a then (evEs xs c).bind (doMeth call g a) else .st
  | .new g xs, c => (evEs xs c).bind (doNew g)
  | .blt f xs, c => (evEs xs c).bind (doBlt f)
  | .isi x t, c => (evE x c).bind (doIsi t)
  | .bm _ _ _, _ => .st
  | .fld x g f, c => (evE x c).bind (doFld g f)
  | .ix x y, c => (evE x c).bind fun a c => (evE y c).bind (doIx a)
  | .sl x lo hi, c => (evE x c).bind fun a c => (evO lo c).bind fun l c => (evO hi c).bind fun h c => ofO (slD a.rd l h) c
  | .rev x, c => (evE x c).bind fun a c => match a.rd with
    | .lst xs => .ok (.tmp (.lst xs.reverse)) c
    | .tup xs => .ok (.d (.tup xs.reverse)) c
    | _ => .st
  | .tup xs, c => (evEs xs c).bind fun vs c => .ok (.d (.tup (vs.map Vl.rd))) (frzs vs c)
  | .lst xs, c => (evEs xs c).bind fun vs c => .ok (.tmp (.lst (vs.map Vl.rd))) (frzs vs c)
  | .isl x, c => (evE x c).bind kIsl
  | .orv x y, c => (evE x c).bind fun a c => (ofO (truD a.rd) c).bind fun t c => if t then .ok a c else evE y c
  | .lc e t vs w xs cs, c => (evEs xs c).bind fun us c => (ofO (wkD w (us.map Vl.rd)) c).bind fun its c => doLc t vs (evTs cs) (evE e) its c
termination_by structural x => x
def evEs : List E → C → R (List Vl)
  | [], c => .ok [] c
  | e :: es, c => (evE e c).bind fun v c => (evEs es c).bind fun vs c => .ok (v :: vs) c
termination_by structural x => x
def evO : Option E → C → R (Option Int)
  | none, c => .ok none c
  | some e, c => (evE e c).bind fun v c => match v.rd with
    | .int i => .ok (some i) c
    | _ => .st
termination_by structural x => x
def evT : E → C → R Bool
  | .and x y, c => (evT x c).bind fun b c => if b then evT y c else .ok false c
  | .or x y, c => (evT x c).bind fun b c => if b then .ok true c else evT y c
  | .not x, c => (evT x c).bind fun b c => .ok (!b) c
  | .cmp o x y, c => (evE x c).bind fun a c => (evE y c).bind fun b c => ofO (cmpD o a.rd b.rd) c
  | .chain o p x y z, c => (evE x c).bind fun a c => (evE y c).bind fun b c => (ofO (cmpD o a.rd b.rd) c).bind fun t c =>
      if t then (evE z c).bind fun d c => ofO (cmpD p b.rd d.rd) c else .ok false c
  | .v i, c => (rdV i c).bind asB
  | .call g xs, c => ((evEs xs c).bind (doCall call g)).bind asB
  | .blt f xs, c => ((evEs xs c).bind (doBlt f)).bind asB
  | .isi x t, c => ((evE x c).bind (doIsi t)).bind asB
  | .ix x y, c => ((evE x c).bind fun a c => (evE y c).bind (doIx a)).bind asB
  | _, _ => .st
termination_by structural x => x
def evTs : List E → C → R Bool
  | [], c => .ok true c
  | [e], c => evT e c
  | _, _ => .st
termination_by structural x => x
end
/-- a for loop's turns -/
def forL (t : Tg) (body : C → R Fl) : List D → C → R Fl
  | [], c => .ok .nx c
  | x :: xs, c => match tgt t x c with
    | none => .st
    | some c => (body c).bind fun f c => match f with
      | .nx => forL t body xs c
      | .ct => forL t body xs c
      | .bk => .ok .nx c
      | .rt v => .ok (.rt v) c
def whlL (test : C → R Bool) (body : C → R Fl) : Nat → C → R Fl
  | 0, _ => .st
  | n + 1, c => (test c).bind fun b c => if b then (body c).bind fun f c => match f with
      | .nx => whlL test body n c
      | .ct => whlL test body n c
      | .bk => .ok .nx c
      | .rt v => .ok (.rt v) c
    else .ok .nx c
/-- a value is laid into a name; into a tuple's names -/
def lay (t : Tg) (v : Vl) (c : C) : R Fl := match t, v with
  | .nm i, .d x => .ok .nx (c.set i (.dat x))
  | .nm i, .tmp x => .ok .nx (c.set i (.own x))
  | .nm i, .bor j x => .ok .nx ((frz (.bor j x) c).set i (.dat x))
  | .tp is, .d x => match tgt (.tp is) x c with
    | some c => .ok .nx c
    | none => .st
  | _, _ => .st
def nxt (f : Fl) (c : C) (k : C → R Fl) : R Fl := match f with
  | .nx => k c
  | f => .ok f c
mutual
/-- the name's own list stays as it is -/
def keepsS (i : Nat) : S → Bool
  | .asg (.nm j) _ => i != j
  | .asg (.tp js) _ => !js.contains i
  | .app j _ => i != j
  | .ext j _ => i != j
  | .pop (.nm k) j => i != j && i != k
  | .pop (.tp ks) j => i != j && !ks.contains i
  | .setix j _ _ => i != j
  | .ife _ a b => keepsSs i a && keepsSs i b
  | .forr (.nm j) _ _ b => i != j && keepsSs i b
  | .forr (.tp js) _ _ b => !js.contains i && keepsSs i b
  | .whl _ b => keepsSs i b
  | _ => true
def keepsSs (i : Nat) : List S → Bool
  | [] => true
  | s :: r => keepsS i s && keepsSs i r
end
def keepsV (b : List S) : List Vl → Bool
  | [] => true
  | .bor i _ :: r => keepsSs i b && keepsV b r
  | _ :: r => keepsV b r
def fuel : Nat := 2 ^ 40
def doApp (i : Nat) (v : Vl) (c : C) : R Fl := match (frz v c).get i with
  | .own (.lst xs) => if xs.length < line then .ok .nx ((frz v c).set i (.own (.lst (xs ++ [v.rd])))) else .st
  | _ => .st
def doSet (i : Nat) (v j : Vl) (c : C) : R Fl := match (frz v c).get i, j.rd with
  | .own (.lst xs), .int k => match ixN xs.length k with
    | some n => .ok .nx ((frz v c).set i (.own (.lst (xs.set n v.rd))))
    | none => .st
  | _, _ => .st
def doFor (t : Tg) (w : Wk) (b : List S) (body : C → R Fl) (us : List Vl) (c : C) : R Fl :=
  (ofO (wkD w (us.map Vl.rd)) c).bind fun its c => if keepsV [.forr t w [] b] us then forL t body its c else .st
mutual
def evS : S → C → R Fl
  | .asg t e, c => (evE P call e c).bind (lay t)
  | .app i e, c => match c.get i with
    | .own (.lst _) => (evE P call e c).bind (doApp i)
    | _ => .st
  | .ext i e, c => (evE P call e c).bind fun v c => match c.get i, v.rd with
    | .own (.lst xs), .lst ys => if xs.length + ys.length ≤ line then .ok .nx (c.set i (.own (.lst (xs ++ ys)))) else .st
    | _, _ => .st
  | .pop t i, c => match c.get i with
    | .own (.lst xs) => match xs.getLast? with
      | some x => lay t (.d x) (c.set i (.own (.lst xs.dropLast)))
      | none => .st
    | _ => .st
  | .setix i x y, c => (evE P call y c).bind fun v c => match c.get i with
    | .own (.lst _) => (evE P call x c).bind (doSet i v)
    | _ => .st
  | .ife t a b, c => (evT P call t c).bind fun q c => if q then evSs a c else evSs b c
  | .forr t w xs b, c => (evEs P call xs c).bind (doFor t w b (evSs b))
  | .whl t b, c => whlL (evT P call t) (evSs b) fuel c
  | .ret e, c => (evE P call e c).bind fun v c => .ok (.rt (v.rv c)) c
  | .retn, c => .ok (.rt (.d .non)) c
  | .exp e, c => (evE P call e c).bind fun _ c => .ok .nx c
  | .pass, c => .ok .nx c
  | .brk, c => .ok .bk c
  | .cnt, c => .ok .ct c
  | .nev, _ => .st
termination_by structural x => x
def evSs : List S → C → R Fl
  | [], c => .ok .nx c
  | s :: r, c => (evS s c).bind fun f c => nxt f c (evSs r)
termination_by structural x => x
end
end
def endR : R Fl → Rc
  | .st => .st
  | .ok .nx c => .ok (.d .non) c.sto
  | .ok (.rt v) c => .ok v c.sto
  | .ok _ _ => .st
  | .ex x c => .ex x c.sto
def startL (n : Nat) (ds : List D) : List Sl := ds.map Sl.dat ++ List.replicate (n - ds.length) Sl.no
def runFn (P : Pg) (call : CallT) (f : Fn) (ds : List D) (s : Sto) : Rc :=
  if ds.length = f.np then endR (evSs P call f.body ⟨startL f.nl ds, s⟩) else .st
def callN (P : Pg) : Nat → CallT
  | 0 => fun _ _ _ => .st
  | n + 1 => fun g ds s => match P.fns g with
    | some f => runFn P (callN P n) f ds s
    | none => .st
end Ev
end
section
set_option maxRecDepth 100000
set_option maxHeartbeats 1000000
/-! Ev2: how data lie in the abstract heap. -/
namespace Ev
open PySem L2
abbrev Fg := PySem.W.Frag

def okS (x : PySem.Str) : Bool := PySem.PyData.strOk x

/-- the classes that the clean language speaks of, and their fields in the order in which they are stored -/
def clsName : Nat → PySem.Str
  | 0 => "Hasher"
  | 1 => "TreeSource"
  | _ => ""
def clsFields : Nat → List PySem.Str
  | 0 => ["modulus", "multiplier"]
  | 1 => ["tree"]
  | _ => []
def clsAt (K : Fg) (c : Nat) (C : Addr) : Prop := PySem.W.nsIn K mainGlobals (clsName c) = some (some (.ref C))

mutual
/-- v is d, by what is frozen: F -/
inductive Rep (K : Fg) (F : Hp) : V → D → Prop
  | non : Rep K F .non .non
  | bl (b : Bool) : Rep K F (.bl b) (.bl b)
  | int (i : Int) : Rep K F (.int i) (.int i)
  | str (x : PySem.Str) (h : okS x = true) : Rep K F (.str x) (.str x.cps.toList)
  | tup {a : Addr} {vs : List V} {ds : List D} : SqT K F a vs → Reps K F vs ds → Rep K F (.ref a) (.tup ds)
  | lst {a : Addr} {vs : List V} {ds : List D} : SqL K F a vs → Reps K F vs ds → Rep K F (.ref a) (.lst ds)
  | obj {a dx C : Addr} {c : Nat} {fs : List (PySem.Str × V)} {vs : List V} {ds : List D} : clsAt K c C → F a = some (.ins C dx fs) → F dx = some (.own a) → fs = (clsFields c).zip vs → Reps K F vs ds → Rep K F (.ref a) (.obj c ds)
inductive Reps (K : Fg) (F : Hp) : List V → List D → Prop
  | nil : Reps K F [] []
  | cons {v : V} {vs : List V} {d : D} {ds : List D} : Rep K F v d → Reps K F vs ds → Reps K F (v :: vs) (d :: ds)
end

section
variable {K : Fg} {F F' H H' : Hp}
theorem rd_mono {a : Addr} {o : HO} (h : Same F F') (r : Rd F a o) : Rd F' a o := by
  rcases r with r | ⟨q, r⟩
  · exact .inl (h _ _ r)
  · exact .inr ⟨q, h _ _ r⟩
theorem sqt_mono {a : Addr} {vs : List V} (h : Same F F') (r : SqT K F a vs) : SqT K F' a vs := r.elim (fun r => .inl (rd_mono h r)) .inr
theorem sql_mono {a : Addr} {vs : List V} (h : Same F F') (r : SqL K F a vs) : SqL K F' a vs := r.elim (fun r => .inl (rd_mono h r)) .inr
mutual
theorem Rep.mono (h : Same F F') : ∀ {v : V} {d : D}, Rep K F v d → Rep K F' v d
  | _, _, .non => .non
  | _, _, .bl b => .bl b
  | _, _, .int i => .int i
  | _, _, .str x q => .str x q
  | _, _, .tup s r => .tup (sqt_mono h s) (Reps.mono h r)
  | _, _, .lst s r => .lst (sql_mono h s) (Reps.mono h r)
  | _, _, .obj k e1 e2 e3 r => .obj k (h _ _ e1) (h _ _ e2) e3 (Reps.mono h r)
theorem Reps.mono (h : Same F F') : ∀ {vs : List V} {ds : List D}, Reps K F vs ds → Reps K F' vs ds
  | _, _, .nil => .nil
  | _, _, .cons a b => .cons (Rep.mono h a) (Reps.mono h b)
end
/-- only lists are lost -/
def LessL (F F' : Hp) : Prop := ∀ a o, F a = some o → F' a = some o ∨ ∃ xs, o = .lst xs
mutual
theorem Rep.thin (h : LessL F F') : ∀ {v : V} {d : D}, Rep K F v d → flat d = true → Rep K F' v d
  | _, _, .non, _ => .non
  | _, _, .bl b, _ => .bl b
  | _, _, .int i, _ => .int i
  | _, _, .str x q, _ => .str x q
  | _, _, .tup s r, q => by
    refine .tup ?_ (Reps.thin h r (by simpa [flat] using q))
    rcases s with (s | ⟨o, s⟩) | s
    · rcases h _ _ s with z | ⟨_, z⟩
      · exact .inl (.inl z)
      · cases z
    · rcases h _ _ s with z | ⟨_, z⟩
      · exact .inl (.inr ⟨o, z⟩)
      · cases z
    · exact .inr s
  | _, _, .lst s r, q => by simp [flat] at q
  | _, _, .obj k e1 e2 e3 r, q => by
    have z1 := (h _ _ e1).resolve_right fun ⟨_, z⟩ => by cases z
    have z2 := (h _ _ e2).resolve_right fun ⟨_, z⟩ => by cases z
    exact .obj k z1 z2 e3 (Reps.thin h r (by simpa [flat] using q))
theorem Reps.thin (h : LessL F F') : ∀ {vs : List V} {ds : List D}, Reps K F vs ds → flatA ds = true → Reps K F' vs ds
  | _, _, .nil, _ => .nil
  | _, _, .cons a b, q => by
    simp only [flatA, Bool.and_eq_true] at q
    exact .cons (Rep.thin h a q.1) (Reps.thin h b q.2)
end
theorem Reps.length : ∀ {vs : List V} {ds : List D}, Reps K F vs ds → vs.length = ds.length
  | _, _, .nil => rfl
  | _, _, .cons _ b => by simp [Reps.length b]
theorem Reps.get : ∀ {vs : List V} {ds : List D} {i : Nat} {d : D}, Reps K F vs ds → ds[i]? = some d → ∃ v, vs[i]? = some v ∧ Rep K F v d
  | _, _, _, _, .nil, e => by simp at e
  | _, _, 0, _, .cons a _, e => by simp at e; subst e; exact ⟨_, rfl, a⟩
  | _, _, i + 1, _, .cons _ b, e => by
    obtain ⟨v, h1, h2⟩ := Reps.get (i := i) b (by simpa using e)
    exact ⟨v, by simpa using h1, h2⟩
theorem Reps.app : ∀ {vs us : List V} {ds es : List D}, Reps K F vs ds → Reps K F us es → Reps K F (vs ++ us) (ds ++ es)
  | _, _, _, _, .nil, s => s
  | _, _, _, _, .cons a b, s => .cons a (Reps.app b s)
theorem Reps.take : ∀ {vs : List V} {ds : List D} (n : Nat), Reps K F vs ds → Reps K F (vs.take n) (ds.take n)
  | _, _, 0, _ => .nil
  | _, _, _ + 1, .nil => .nil
  | _, _, n + 1, .cons a b => .cons a (Reps.take n b)
theorem Reps.drop : ∀ {vs : List V} {ds : List D} (n : Nat), Reps K F vs ds → Reps K F (vs.drop n) (ds.drop n)
  | _, _, 0, r => r
  | _, _, _ + 1, .nil => .nil
  | _, _, n + 1, .cons _ b => Reps.drop n b
theorem Reps.rep {vs : List V} {ds : List D} (h : Reps K F vs ds) : ∀ n : Nat, Reps K F (List.replicate n vs).flatten (List.replicate n ds).flatten
  | 0 => .nil
  | n + 1 => by
    rw [List.replicate_succ, List.replicate_succ, List.flatten_cons, List.flatten_cons]
    exact h.app (Reps.rep h n)
theorem Reps.one {v : V} {d : D} (h : Rep K F v d) : Reps K F [v] [d] := .cons h .nil
theorem Reps.reverse : ∀ {vs : List V} {ds : List D}, Reps K F vs ds → Reps K F vs.reverse ds.reverse
  | _, _, .nil => .nil
  | _, _, .cons a b => by
    rw [List.reverse_cons, List.reverse_cons]
    exact (Reps.reverse b).app (.one a)
theorem Reps.set {v : V} {d : D} (h : Rep K F v d) : ∀ {vs : List V} {ds : List D} (n : Nat), Reps K F vs ds → Reps K F (vs.set n v) (ds.set n d)
  | _, _, _, .nil => .nil
  | _, _, 0, .cons _ b => .cons h b
  | _, _, n + 1, .cons a b => .cons a (Reps.set h n b)
theorem Reps.dropLast : ∀ {vs : List V} {ds : List D}, Reps K F vs ds → Reps K F vs.dropLast ds.dropLast
  | _, _, .nil => .nil
  | _, _, .cons _ .nil => .nil
  | _, _, .cons a (.cons b c) => by
    rw [List.dropLast_cons_cons, List.dropLast_cons_cons]
    exact .cons a (Reps.dropLast (.cons b c))

/-! ### its own PyData -/
mutual
def toPy : D → PyData
  | .non => .none
  | .bl b => .bool b
  | .int i => .int i
  | .str s => .str ⟨s.toArray⟩
  | .tup xs => .tuple (toPys xs)
  | .lst xs => .list (toPys xs)
  | _ => .none
def toPys : List D → List PyData
  | [] => []
  | x :: xs => toPy x :: toPys xs
end
mutual
theorem Rep.dp (h : Same F H) : ∀ {v : V} {d : D}, Rep K F v d → pln d = true → Dp K H v (toPy d)
  | _, _, .non, _ => .non
  | _, _, .bl b, _ => .bl b
  | _, _, .int i, _ => .int i
  | _, _, .str x q, _ => by
    have e : (⟨x.cps.toList.toArray⟩ : PySem.Str) = x := by cases x; simp
    show Dp K H (.str x) (.str ⟨x.cps.toList.toArray⟩)
    rw [e]; exact .str x
  | _, _, .tup s r, p => .tup (sqt_mono h s) (Reps.dp h r (by simpa [pln] using p))
  | _, _, .lst s r, p => .lst (sql_mono h s) (Reps.dp h r (by simpa [pln] using p))
  | _, _, .obj _ _ _ _ _, p => by simp [pln] at p
theorem Reps.dp (h : Same F H) : ∀ {vs : List V} {ds : List D}, Reps K F vs ds → plnA ds = true → DpAll K H vs (toPys ds)
  | _, _, .nil, _ => .nil
  | _, _, .cons a b, p => by
    simp only [plnA, Bool.and_eq_true] at p
    exact .cons (Rep.dp h a p.1) (Reps.dp h b p.2)
end
mutual
theorem Rep.lay (h : Same F H) : ∀ {v : V} {d : D}, Rep K F v d → pln d = true → (toPy d).canLay0 = true
  | _, _, .non, _ => rfl
  | _, _, .bl b, _ => rfl
  | _, _, .int i, _ => rfl
  | _, _, .str x q, _ => by
    have e : (⟨x.cps.toList.toArray⟩ : PySem.Str) = x := by cases x; simp
    show PySem.PyData.strOk ⟨x.cps.toList.toArray⟩ = true
    rw [e]; exact q
  | _, _, .tup s r, p => by simpa [toPy, PyData.canLay0] using Reps.lay h r (by simpa [pln] using p)
  | _, _, .lst s r, p => by simpa [toPy, PyData.canLay0] using Reps.lay h r (by simpa [pln] using p)
  | _, _, .obj _ _ _ _ _, p => by simp [pln] at p
theorem Reps.lay (h : Same F H) : ∀ {vs : List V} {ds : List D}, Reps K F vs ds → plnA ds = true → PyData.canLayAll0 (toPys ds) = true
  | _, _, .nil, _ => rfl
  | _, _, .cons a b, p => by
    simp only [plnA, Bool.and_eq_true] at p
    simp only [toPys, PyData.canLayAll0, Rep.lay h a p.1, Reps.lay h b p.2, Bool.and_self]
end
mutual
theorem dep_py : ∀ d : D, (toPy d).depth = dep d
  | .non => rfl
  | .bl _ => rfl
  | .int _ => rfl
  | .str _ => rfl
  | .tup xs => by simp only [toPy, PyData.depth, dep, dep_pys xs]
  | .lst xs => by simp only [toPy, PyData.depth, dep, dep_pys xs]
  | .dct _ _ => rfl
  | .obj _ _ => rfl
  | .ins _ => rfl
  | .fn _ _ => rfl
theorem dep_pys : ∀ ds : List D, PyData.depthAll (toPys ds) = depA ds
  | [] => rfl
  | x :: xs => by simp only [toPys, PyData.depthAll, depA, dep_py x, dep_pys xs]
end
theorem str_beq (x y : List Nat) : ((⟨x.toArray⟩ : PySem.Str) == ⟨y.toArray⟩) = (x == y) := by
  by_cases h : x = y
  · subst h; simp
  · have h2 : ¬ ((⟨x.toArray⟩ : PySem.Str) = ⟨y.toArray⟩) := fun e => h (by simpa using congrArg (fun z : PySem.Str => z.cps.toList) e)
    rw [beq_eq_false_iff_ne.mpr h, beq_eq_false_iff_ne.mpr h2]
mutual
theorem eqv_py : ∀ x y : D, pln x = true → pln y = true → PyData.eqv (toPy x) (toPy y) = deq x y
  | .str x, .str y, _, _ => by simp only [toPy, PyData.eqv, deq, str_beq]
  | .tup xs, .tup ys, hx, hy => by
    simp only [toPy, PyData.eqv, deq]
    exact eqv_pys xs ys (by simpa [pln] using hx) (by simpa [pln] using hy)
  | .lst xs, .lst ys, hx, hy => by
    simp only [toPy, PyData.eqv, deq]
    exact eqv_pys xs ys (by simpa [pln] using hx) (by simpa [pln] using hy)
  | .non, .non, _, _ => rfl | .non, .bl _, _, _ => rfl | .non, .int _, _, _ => rfl | .non, .str _, _, _ => rfl | .non, .tup _, _, _ => rfl | .non, .lst _, _, _ => rfl
  | .bl _, .non, _, _ => rfl | .bl _, .bl _, _, _ => rfl | .bl _, .int _, _, _ => rfl | .bl _, .str _, _, _ => rfl | .bl _, .tup _, _, _ => rfl | .bl _, .lst _, _, _ => rfl
  | .int _, .non, _, _ => rfl | .int _, .bl _, _, _ => rfl | .int _, .int _, _, _ => rfl | .int _, .str _, _, _ => rfl | .int _, .tup _, _, _ => rfl | .int _, .lst _, _, _ => rfl
  | .str _, .non, _, _ => rfl | .str _, .bl _, _, _ => rfl | .str _, .int _, _, _ => rfl | .str _, .tup _, _, _ => rfl | .str _, .lst _, _, _ => rfl
  | .tup _, .non, _, _ => rfl | .tup _, .bl _, _, _ => rfl | .tup _, .int _, _, _ => rfl | .tup _, .str _, _, _ => rfl | .tup _, .lst _, _, _ => rfl
  | .lst _, .non, _, _ => rfl | .lst _, .bl _, _, _ => rfl | .lst _, .int _, _, _ => rfl | .lst _, .str _, _, _ => rfl | .lst _, .tup _, _, _ => rfl
  | .dct _ _, _, h, _ => by simp [pln] at h
  | .obj _ _, _, h, _ => by simp [pln] at h
  | .ins _, _, h, _ => by simp [pln] at h
  | .fn _ _, _, h, _ => by simp [pln] at h
  | _, .dct _ _, _, h => by simp [pln] at h
  | _, .obj _ _, _, h => by simp [pln] at h
  | _, .ins _, _, h => by simp [pln] at h
  | _, .fn _ _, _, h => by simp [pln] at h
theorem eqv_pys : ∀ xs ys : List D, plnA xs = true → plnA ys = true → PyData.eqvAll (toPys xs) (toPys ys) = deqs xs ys
  | [], [], _, _ => rfl
  | x :: xs, y :: ys, hx, hy => by
    simp only [plnA, Bool.and_eq_true] at hx hy
    simp only [toPys, PyData.eqvAll, deqs, eqv_py x y hx.1 hy.1, eqv_pys xs ys hx.2 hy.2]
  | [], _ :: _, _, _ => rfl
  | _ :: _, [], _, _ => rfl
end
theorem Rep.shaped {v : V} {d : D} (r : Rep K F v d) (h : shp d = true) : SeqAt.shaped (toPy d) = true := by
  unfold shp at h
  rw [Bool.and_eq_true, decide_eq_true_eq] at h
  unfold SeqAt.shaped
  rw [Rep.lay (Same.refl F) r h.1, dep_py]
  simpa using h.2

/-! ### a list of one's own -/
def Own (K : Fg) (F H : Hp) (a : Addr) : D → Prop
  | .lst xs => ∃ vs, H a = some (.lst vs) ∧ Reps K F vs xs
  | _ => False
/-- readable as d -/
def Rdb (K : Fg) (F H : Hp) (v : V) (d : D) : Prop := Rep K F v d ∨ ∃ a, v = .ref a ∧ Own K F H a d
theorem Own.mono {a : Addr} {d : D} (h : Own K F H a d) (s : Same F F') (t : H' a = H a) : Own K F' H' a d := by
  cases d <;> first | exact h | skip
  obtain ⟨vs, e, r⟩ := h
  exact ⟨vs, t.trans e, r.mono s⟩
theorem Own.ls {a : Addr} {d : D} (h : Own K F H a d) : ∃ xs vs, d = .lst xs ∧ H a = some (.lst vs) ∧ Reps K F vs xs := by
  cases d <;> first | exact False.elim h | skip
  obtain ⟨vs, e, r⟩ := h
  exact ⟨_, vs, rfl, e, r⟩
theorem Own.rep {a : Addr} {d : D} (h : Own K F H a d) (s : Same F F') (t : F' a = H a) : Rep K F' (.ref a) d := by
  obtain ⟨xs, vs, rfl, e, r⟩ := h.ls
  exact .lst (.inl (.inl (t.trans e))) (r.mono s)
theorem Rdb.mono {v : V} {d : D} (h : Rdb K F H v d) (s : Same F F') (t : Same H H') : Rdb K F' H' v d := by
  rcases h with h | ⟨a, e, h⟩
  · exact .inl (h.mono s)
  · refine .inr ⟨a, e, h.mono s ?_⟩
    obtain ⟨xs, vs, rfl, q, r⟩ := h.ls
    rw [q]; exact t _ _ q
/-- its list is to be read -/
theorem Rdb.list {v : V} {xs : List D} (h : Rdb K F H v (.lst xs)) (s : Same F H) : ∃ a vs, v = .ref a ∧ SqL K H a vs ∧ Reps K F vs xs := by
  rcases h with h | ⟨a, e, h⟩
  · cases h with
    | lst q r => exact ⟨_, _, rfl, sql_mono s q, r⟩
  · obtain ⟨vs, q, r⟩ := h
    exact ⟨a, vs, e, .inl (.inl q), r⟩
theorem Rdb.tup {v : V} {xs : List D} (h : Rdb K F H v (.tup xs)) (s : Same F H) : ∃ a vs, v = .ref a ∧ SqT K H a vs ∧ SqT K F a vs ∧ Reps K F vs xs := by
  rcases h with h | ⟨a, e, h⟩
  · cases h with
    | tup q r => exact ⟨_, _, rfl, sqt_mono s q, q, r⟩
  · exact False.elim h
theorem Rdb.dp {v : V} {d : D} (h : Rdb K F H v d) (s : Same F H) (p : pln d = true) : Dp K H v (toPy d) := by
  rcases h with h | ⟨a, e, h⟩
  · exact h.dp s p
  · obtain ⟨xs, vs, rfl, q, r⟩ := h.ls
    rw [e]
    exact .lst (.inl (.inl q)) (r.dp s (by simpa [pln] using p))
theorem Rdb.shaped {v : V} {d : D} (h : Rdb K F H v d) (s : Same F H) (hd : shp d = true) : SeqAt.shaped (toPy d) = true := by
  rcases h with h | ⟨a, e, h⟩
  · exact h.shaped hd
  · obtain ⟨xs, vs, rfl, q, r⟩ := h.ls
    unfold shp at hd
    rw [Bool.and_eq_true, decide_eq_true_eq] at hd
    unfold SeqAt.shaped
    rw [dep_py]
    have e2 : (toPy (.lst xs)).canLay0 = true := by simpa [toPy, PyData.canLay0] using r.lay s (by simpa [pln] using hd.1)
    rw [e2]
    simpa using hd.2
theorem Rdb.int {v : V} {i : Int} (h : Rdb K F H v (.int i)) : v = .int i := by
  rcases h with h | ⟨a, e, h⟩
  · cases h; rfl
  · exact False.elim h
theorem Rdb.bl {v : V} {i : Bool} (h : Rdb K F H v (.bl i)) : v = .bl i := by
  rcases h with h | ⟨a, e, h⟩
  · cases h; rfl
  · exact False.elim h
theorem Rdb.non {v : V} (h : Rdb K F H v .non) : v = .non := by
  rcases h with h | ⟨a, e, h⟩
  · cases h; rfl
  · exact False.elim h
theorem Rdb.str {v : V} {s : List Nat} (h : Rdb K F H v (.str s)) : ∃ x : PySem.Str, v = .str x ∧ x.cps.toList = s ∧ okS x = true := by
  rcases h with h | ⟨a, e, h⟩
  · cases h with
    | str x q => exact ⟨x, rfl, rfl, q⟩
  · exact False.elim h
end

/-! ### the names' values -/
theorem getS_setS : ∀ (l : List Sl) (i j : Nat) (s : Sl), getS (setS l i s) j = if i = j ∧ i < l.length then s else getS l j
  | [], i, j, s => by simp [setS]
  | x :: l, 0, 0, s => by simp [setS, getS]
  | x :: l, 0, j + 1, s => by simp [setS, getS]
  | x :: l, i + 1, 0, s => by simp [setS, getS]
  | x :: l, i + 1, j + 1, s => by
    simp only [setS, getS, getS_setS l i j s, List.length_cons, Nat.add_lt_add_iff_right, Nat.add_right_cancel_iff]
theorem setS_length : ∀ (l : List Sl) (i : Nat) (s : Sl), (setS l i s).length = l.length
  | [], _, _ => rfl
  | _ :: l, 0, _ => rfl
  | _ :: l, i + 1, s => by simp [setS, setS_length l i s]
theorem getS_out : ∀ (l : List Sl) (i : Nat), l.length ≤ i → getS l i = .no
  | [], _, _ => rfl
  | _ :: l, 0, h => by simp at h
  | _ :: l, i + 1, h => getS_out l i (by simpa using h)

def SlotOk (K : Fg) (F H : Hp) (a : Addr) (o : Option (Option V)) : Sl → Prop
  | .no => True
  | .dat x => ∃ v, o = some (some v) ∧ Rep K F v x
  | .own x => o = some (some (.ref a)) ∧ F a = none ∧ Own K F H a x
structure Wf (K : Fg) (F H : Hp) (σ : St) (ρ : List Sl) (α : Nat → Addr) : Prop where
  sub : Same F H
  len : ρ.length = σ.length
  slot : ∀ i, SlotOk K F H (α i) σ[i]? (getS ρ i)
  inj : ∀ i j x y, getS ρ i = .own x → getS ρ j = .own y → α i = α j → i = j
/-- an expression's step -/
structure Tr (K : Fg) (ρ ρ' : List Sl) (α : Nat → Addr) (F H F' H' : Hp) : Prop where
  same : Same H H'
  sub : Same F F'
  new : ∀ a o, F' a = some o → F a = some o ∨ H a = none ∨ ∃ i x, getS ρ i = .own x ∧ a = α i
  back : ∀ i x, getS ρ' i = .own x → getS ρ i = .own x
  keep : ∀ i x, getS ρ i = .own x → getS ρ' i = .own x ∨ (Rep K F' (.ref (α i)) x ∧ ∀ y, getS ρ' i ≠ .own y)
/-- what an expression gives -/
def VOk (K : Fg) (H₀ F H : Hp) (σ : St) (ρ : List Sl) (α : Nat → Addr) (u : V) : Vl → Prop
  | .d x => Rep K F u x
  | .tmp x => ∃ a, u = .ref a ∧ H₀ a = none ∧ F a = none ∧ Own K F H a x
  | .bor i x => u = .ref (α i) ∧ σ[i]? = some (some u) ∧ (getS ρ i = .own x ∨ (Rep K F u x ∧ ∀ y, getS ρ i ≠ .own y))

section
variable {K : Fg} {F H F' H' F'' H'' H₀ : Hp} {σ : St} {ρ ρ' ρ'' : List Sl} {α : Nat → Addr} {u : V} {v : Vl}
theorem Tr.refl : Tr K ρ ρ α F H F H := ⟨Same.refl _, Same.refl _, fun _ _ h => .inl h, fun _ _ h => h, fun _ _ h => .inl h⟩
theorem Tr.trans (t : Tr K ρ ρ' α F H F' H') (s : Tr K ρ' ρ'' α F' H' F'' H'') : Tr K ρ ρ'' α F H F'' H'' := by
  refine ⟨t.same.trans s.same, t.sub.trans s.sub, fun a o h => ?_, fun i x h => t.back i x (s.back i x h), fun i x h => ?_⟩
  · rcases s.new a o h with h | h | ⟨i, x, h, e⟩
    · exact t.new a o h
    · exact .inr (.inl (t.same.free h))
    · exact .inr (.inr ⟨i, x, t.back i x h, e⟩)
  · rcases t.keep i x h with q | q
    · exact s.keep i x q
    · exact .inr ⟨q.1.mono s.sub, fun y z => q.2 y (s.back i y z)⟩
theorem Wf.cell (w : Wf K F H σ ρ α) {i : Nat} {x : D} (h : getS ρ i = .own x) : σ[i]? = some (some (.ref (α i))) ∧ F (α i) = none ∧ Own K F H (α i) x := by
  have q := w.slot i
  rw [h] at q
  exact q
theorem Own.there {a : Addr} {d : D} (h : Own K F H a d) : ∃ o, H a = some o := by
  obtain ⟨xs, vs, _, e, _⟩ := h.ls
  exact ⟨_, e⟩
theorem Wf.there (w : Wf K F H σ ρ α) {i : Nat} {x : D} (h : getS ρ i = .own x) : ∃ o, H (α i) = some o := (w.cell h).2.2.there
/-- a value at hand stays through a further step -/
theorem VOk.step (w : Wf K F H σ ρ α) (hs : Same H₀ H) (hc : ∀ i x, getS ρ i = .own x → ∃ o, H₀ (α i) = some o) (t : Tr K ρ ρ' α F H F' H') (h : VOk K H₀ F H σ ρ α u v) : VOk K H₀ F' H' σ ρ' α u v := by
  cases v with
  | d x => exact Rep.mono t.sub h
  | tmp x =>
    obtain ⟨a, e, h0, hf, ho⟩ := h
    obtain ⟨o, q⟩ := ho.there
    refine ⟨a, e, h0, ?_, ho.mono t.sub ?_⟩
    · cases z : F' a with
      | none => rfl
      | some p =>
        rcases t.new a p z with y | y | ⟨i, x, y, e2⟩
        · rw [hf] at y; cases y
        · rw [q] at y; cases y
        · obtain ⟨p, hp⟩ := hc i x y
          rw [← e2, h0] at hp; cases hp
    · rw [q]; exact t.same _ _ q
  | bor i x =>
    obtain ⟨e, hσ, h⟩ := h
    refine ⟨e, hσ, ?_⟩
    rcases h with h | h
    · rcases t.keep i x h with q | q
      · exact .inl q
      · exact .inr ⟨e ▸ q.1, q.2⟩
    · exact .inr ⟨h.1.mono t.sub, fun y z => h.2 y (t.back i y z)⟩
theorem VOk.rdb (w : Wf K F H σ ρ α) (h : VOk K H₀ F H σ ρ α u v) : Rdb K F H u v.rd := by
  cases v with
  | d x => exact .inl h
  | tmp x =>
    obtain ⟨a, e, _, _, h⟩ := h
    exact .inr ⟨a, e, h⟩
  | bor i x =>
    obtain ⟨e, _, h⟩ := h
    rcases h with h | h
    · exact .inr ⟨_, e, (w.cell h).2.2⟩
    · exact .inl h.1
theorem setS_setS : ∀ (ρ : List Sl) (i : Nat) (x y : Sl), setS (setS ρ i x) i y = setS ρ i y
  | [], _, _, _ => rfl
  | _ :: _, 0, _, _ => rfl
  | _ :: l, i + 1, x, y => by simp only [setS, setS_setS l i x y]
theorem getS_setS_dat {i j : Nat} {x y : D} (hlt : i < ρ.length) : getS (setS ρ i (.dat x)) i ≠ .own y := by
  rw [getS_setS, if_pos ⟨rfl, hlt⟩]; intro h; cases h
theorem same_upd {a : Addr} {o : HO} (h : F a = none) : Same F (upd F a o) := fun b q e => by
  rw [upd_ne (ne_of_none e h)]; exact e
/-- the frozen part grows by a list that stands -/
theorem Wf.grow (w : Wf K F H σ ρ α) {a : Addr} {xs : List V} (hf : F a = none) (q : H a = some (.lst xs)) (hn : ∀ i x, getS ρ i = .own x → α i ≠ a) : Wf K (upd F a (.lst xs)) H σ ρ α := by
  have s : Same F (upd F a (.lst xs)) := same_upd hf
  refine ⟨fun b o z => ?_, w.len, fun i => ?_, w.inj⟩
  · by_cases hb : b = a
    · subst hb; rw [upd_same] at z; cases z; exact q
    · rw [upd_ne hb] at z; exact w.sub b o z
  · have k := w.slot i
    cases e : getS ρ i with
    | no => trivial
    | dat x =>
      rw [e] at k
      obtain ⟨v, k1, k2⟩ := k
      exact ⟨v, k1, k2.mono s⟩
    | own x =>
      rw [e] at k
      obtain ⟨k1, k2, k3⟩ := k
      exact ⟨k1, by rw [upd_ne (hn i x e)]; exact k2, k3.mono s rfl⟩
/-- a name's place is told anew: data -/
theorem Wf.setDat (w : Wf K F H σ ρ α) {i : Nat} {x : D} {v : V} (hσ : σ[i]? = some (some v)) (r : Rep K F v x) : Wf K F H σ (setS ρ i (.dat x)) α := by
  refine ⟨w.sub, by rw [setS_length]; exact w.len, fun j => ?_, fun j k y z e1 e2 => ?_⟩
  · rw [getS_setS]
    split
    · rename_i h
      rw [← h.1]
      exact ⟨v, hσ, r⟩
    · exact w.slot j
  · rw [getS_setS] at e1 e2
    split at e1
    · cases e1
    · split at e2
      · cases e2
      · exact w.inj j k y z e1 e2
theorem own_setS {i j : Nat} {x y : D} (h : getS (setS ρ i (.dat x)) j = .own y) : getS ρ j = .own y := by
  rw [getS_setS] at h
  split at h
  · cases h
  · exact h
/-- a value is frozen: what it brings -/
structure Fz (K : Fg) (H₀ H : Hp) (σ : St) (ρ ρ' : List Sl) (α : Nat → Addr) (F F' : Hp) (u : V) (v : Vl) : Prop where
  wf : Wf K F' H σ ρ' α
  rep : Rep K F' u v.rd
  sub : Same F F'
  new : ∀ a o, F' a = some o → F a = some o ∨ (H₀ a = none ∧ u = .ref a ∧ ∃ x, v = .tmp x) ∨ ∃ i x, getS ρ i = .own x ∧ a = α i
  back : ∀ i x, getS ρ' i = .own x → getS ρ i = .own x
  keep : ∀ i x, getS ρ i = .own x → getS ρ' i = .own x ∨ (Rep K F' (.ref (α i)) x ∧ ∀ y, getS ρ' i ≠ .own y)
theorem freeze (w : Wf K F H σ ρ α) (hc : ∀ i x, getS ρ i = .own x → ∃ o, H₀ (α i) = some o) (h : VOk K H₀ F H σ ρ α u v) (s : Sto) : ∃ F', Fz K H₀ H σ ρ (frz v ⟨ρ, s⟩).env α F F' u v := by
  cases v with
  | d x => exact ⟨F, w, h, Same.refl _, fun _ _ h => .inl h, fun _ _ h => h, fun _ _ h => .inl h⟩
  | tmp x =>
    obtain ⟨a, e, h0, hf, ho⟩ := h
    obtain ⟨xs, vs, ex, q, r⟩ := ho.ls
    have s : Same F (upd F a (.lst vs)) := same_upd hf
    refine ⟨upd F a (.lst vs), w.grow hf q fun i x z e => ?_, ?_, s, fun b o z => ?_, fun _ _ h => h, fun _ _ h => .inl h⟩
    · obtain ⟨o, z⟩ := hc i x z
      rw [e, h0] at z; cases z
    · rw [e]; exact ho.rep s (by rw [upd_same, q])
    · by_cases hb : b = a
      · subst hb; exact .inr (.inl ⟨h0, e, x, rfl⟩)
      · rw [upd_ne hb] at z; exact .inl z
  | bor i x =>
    obtain ⟨e, hσ, h⟩ := h
    show ∃ F', Fz K H₀ H σ ρ (setS ρ i (.dat x)) α F F' u (.bor i x)
    rcases h with h | h
    · obtain ⟨_, hf, ho⟩ := w.cell h
      obtain ⟨xs, vs, ex, q, r⟩ := ho.ls
      have s : Same F (upd F (α i) (.lst vs)) := same_upd hf
      have rp : Rep K (upd F (α i) (.lst vs)) u x := by rw [e]; exact ho.rep s (by rw [upd_same, q])
      have w1 : Wf K F H σ (setS ρ i .no) α := by
        refine ⟨w.sub, by rw [setS_length]; exact w.len, fun j => ?_, fun j k y z e1 e2 => ?_⟩
        · rw [getS_setS]
          split
          · trivial
          · exact w.slot j
        · rw [getS_setS] at e1 e2
          split at e1
          · cases e1
          · split at e2
            · cases e2
            · exact w.inj j k y z e1 e2
      have hlt : i < ρ.length := by
        rcases Nat.lt_or_ge i ρ.length with z | z
        · exact z
        · rw [getS_out _ _ z] at h; cases h
      have w2 := w1.grow hf q (fun j y z ej => by
        rw [getS_setS] at z
        split at z
        · cases z
        · rename_i hn
          exact hn ⟨w.inj i j x y h z ej.symm, hlt⟩)
      have w3 := w2.setDat hσ rp
      have e3 : setS (setS ρ i .no) i (.dat x) = setS ρ i (.dat x) := setS_setS ρ i _ _
      rw [e3] at w3
      refine ⟨_, w3, rp, s, fun b o z => ?_, fun j y z => own_setS z, fun j y z => ?_⟩
      · by_cases hb : b = α i
        · subst hb; exact .inr (.inr ⟨i, x, h, rfl⟩)
        · rw [upd_ne hb] at z; exact .inl z
      · rw [getS_setS]
        split
        · rename_i hij
          have ej : j = i := hij.1.symm
          subst ej
          rw [h] at z; cases z
          exact .inr ⟨e ▸ rp, fun y q => by cases q⟩
        · exact .inl z
    · obtain ⟨h, hno⟩ := h
      refine ⟨F, w.setDat hσ h, h, Same.refl _, fun _ _ h => .inl h, fun j y z => own_setS z, fun j y z => ?_⟩
      rw [getS_setS]
      split
      · rename_i hij
        have ej : j = i := hij.1.symm
        subst ej
        exact absurd z (hno y)
      · exact .inl z
/-- several values -/
def tmpsOf : List V → List Vl → List V
  | u :: us, .tmp _ :: vs => u :: tmpsOf us vs
  | _ :: us, _ :: vs => tmpsOf us vs
  | _, _ => []
def VsOk (K : Fg) (H₀ F H : Hp) (σ : St) (ρ : List Sl) (α : Nat → Addr) : List V → List Vl → Prop
  | [], [] => True
  | u :: us, v :: vs => VOk K H₀ F H σ ρ α u v ∧ VsOk K H₀ F H σ ρ α us vs ∧ ∀ x, v = .tmp x → u ∉ tmpsOf us vs
  | _, _ => False
theorem VsOk.step (w : Wf K F H σ ρ α) (hs : Same H₀ H) (hc : ∀ i x, getS ρ i = .own x → ∃ o, H₀ (α i) = some o) (t : Tr K ρ ρ' α F H F' H') :
    ∀ {us : List V} {vs : List Vl}, VsOk K H₀ F H σ ρ α us vs → VsOk K H₀ F' H' σ ρ' α us vs
  | [], [], _ => trivial
  | _ :: _, _ :: _, ⟨a, b, c⟩ => ⟨a.step w hs hc t, VsOk.step w hs hc t b, c⟩
theorem VsOk.length : ∀ {us : List V} {vs : List Vl}, VsOk K H₀ F H σ ρ α us vs → us.length = vs.length
  | [], [], _ => rfl
  | _ :: _, _ :: _, ⟨_, b, _⟩ => by simp [VsOk.length b]
/-- a value at hand stays when another one is frozen -/
theorem VOk.frozen {u1 : V} {v1 : Vl} (hc : ∀ i x, getS ρ i = .own x → ∃ o, H₀ (α i) = some o) (z : Fz K H₀ H σ ρ ρ' α F F' u1 v1) (h : VOk K H₀ F H σ ρ α u v)
    (hn : ∀ x y, v = .tmp x → v1 = .tmp y → u ≠ u1) : VOk K H₀ F' H σ ρ' α u v := by
  cases v with
  | d x => exact Rep.mono z.sub h
  | tmp x =>
    obtain ⟨a, e, h0, hf, ho⟩ := h
    refine ⟨a, e, h0, ?_, ho.mono z.sub rfl⟩
    cases q : F' a with
    | none => rfl
    | some p =>
      rcases z.new a p q with y | ⟨_, y, y2, y3⟩ | ⟨i, x, y, e2⟩
      · rw [hf] at y; cases y
      · exact absurd (e.trans y.symm) (hn x y2 rfl y3)
      · obtain ⟨p, hp⟩ := hc i x y
        rw [← e2, h0] at hp; cases hp
  | bor i x =>
    obtain ⟨e, hσ, h⟩ := h
    refine ⟨e, hσ, ?_⟩
    rcases h with h | h
    · rcases z.keep i x h with q | q
      · exact .inl q
      · exact .inr ⟨e ▸ q.1, q.2⟩
    · exact .inr ⟨h.1.mono z.sub, fun y q => h.2 y (z.back i y q)⟩
theorem VsOk.frozen {u1 : V} {v1 : Vl} (hc : ∀ i x, getS ρ i = .own x → ∃ o, H₀ (α i) = some o) (z : Fz K H₀ H σ ρ ρ' α F F' u1 v1) :
    ∀ {us : List V} {vs : List Vl}, VsOk K H₀ F H σ ρ α us vs → (∀ x, v1 = .tmp x → u1 ∉ tmpsOf us vs) → VsOk K H₀ F' H σ ρ' α us vs
  | [], [], _, _ => trivial
  | u :: us, v :: vs, ⟨a, b, c⟩, hn => by
    refine ⟨a.frozen hc z fun x y e1 e2 e3 => ?_, VsOk.frozen hc z b fun x e q => hn x e ?_, c⟩
    · subst e1
      exact hn y e2 (by rw [e3]; exact List.mem_cons_self)
    · cases v <;> first | exact List.mem_cons_of_mem _ q | exact q
/-- all are frozen -/
structure Fzs (K : Fg) (H₀ H : Hp) (σ : St) (ρ ρ' : List Sl) (α : Nat → Addr) (F F' : Hp) (us : List V) (vs : List Vl) : Prop where
  wf : Wf K F' H σ ρ' α
  rep : Reps K F' us (vs.map Vl.rd)
  sub : Same F F'
  new : ∀ a o, F' a = some o → F a = some o ∨ H₀ a = none ∨ ∃ i x, getS ρ i = .own x ∧ a = α i
  back : ∀ i x, getS ρ' i = .own x → getS ρ i = .own x
  keep : ∀ i x, getS ρ i = .own x → getS ρ' i = .own x ∨ (Rep K F' (.ref (α i)) x ∧ ∀ y, getS ρ' i ≠ .own y)
theorem freezes (s : Sto) : ∀ {us : List V} {vs : List Vl} {ρ : List Sl} {F : Hp}, Wf K F H σ ρ α → (∀ i x, getS ρ i = .own x → ∃ o, H₀ (α i) = some o) → VsOk K H₀ F H σ ρ α us vs →
    ∃ F', Fzs K H₀ H σ ρ (frzs vs ⟨ρ, s⟩).env α F F' us vs
  | [], [], ρ, F, w, hc, _ => ⟨F, w, .nil, Same.refl _, fun _ _ h => .inl h, fun _ _ h => h, fun _ _ h => .inl h⟩
  | u :: us, v :: vs, ρ, F, w, hc, ⟨h1, h2, h3⟩ => by
    obtain ⟨F1, z⟩ := freeze w hc h1 s
    have ec : frz v ⟨ρ, s⟩ = ⟨(frz v ⟨ρ, s⟩).env, s⟩ := by cases v <;> rfl
    obtain ⟨F2, y⟩ := freezes s (us := us) (vs := vs) (ρ := (frz v ⟨ρ, s⟩).env) (F := F1) z.wf (fun i x q => hc i x (z.back i x q)) (h2.frozen hc z h3)
    rw [← ec] at y
    refine ⟨F2, y.wf, .cons (z.rep.mono y.sub) y.rep, z.sub.trans y.sub, fun a o q => ?_, fun i x q => z.back i x (y.back i x q), fun i x q => ?_⟩
    · rcases y.new a o q with q | q | ⟨i, x, q, e⟩
      · rcases z.new a o q with q | q | q
        · exact .inl q
        · exact .inr (.inl q.1)
        · exact .inr (.inr q)
      · exact .inr (.inl q)
      · exact .inr (.inr ⟨i, x, z.back i x q, e⟩)
    · rcases z.keep i x q with q | q
      · exact y.keep i x q
      · exact .inr ⟨q.1.mono y.sub, fun b p => q.2 b (y.back i b p)⟩
end
end Ev
end
section
set_option maxRecDepth 100000
set_option maxHeartbeats 1000000
/-! Ev3: what is written and what is clean; the readings. -/
namespace Ev
open PySem L2

/-- how the clean names stand in the text -/
structure Lk where
  hf : Nat → Bool
  hc : Nat → PySem.Str → Bool
  fn : Nat → PySem.Str
  /-- classes whose fields are read, whose methods are called, whose instances are made -/
  hk : Nat → Bool
  hm : Nat → Nat → Bool
  hn : Nat → Bool

def bopOk : BOp → Operator → Bool
  | .add, .Add => true | .sub, .Sub => true | .mul, .Mult => true | .fdiv, .FloorDiv => true | .mod, .Mod => true | .pow, .Pow => true | .band, .BitAnd => true
  | _, _ => false
def copOk : COp → CmpOp → Bool
  | .eq, .Eq => true | .ne, .NotEq => true | .lt, .Lt => true | .le, .LtE => true | .gt, .Gt => true | .ge, .GtE => true
  | .isin, .In => true | .nin, .NotIn => true | .is, .Is => true | .isnot, .IsNot => true
  | _, _ => false
def visB (sc : Scope) (x : PySem.Str) : Bool := match sc.names.lookup x with
  | some .local => true | some .cell => true | some .free => true | _ => false
def locB (sc : Scope) (x : PySem.Str) : Bool := match sc.names.lookup x with
  | some .local => true | some .cell => true | _ => false
def glB (sc : Scope) (x : PySem.Str) : Bool := (match sc.names.lookup x with
  | some .globalImplicit => true | _ => false) && !(x == ("__debug__" : PySem.Str)) && decide (x ≠ "__name__")
def varB (N : List PySem.Str) (sc : Scope) (i : Nat) (x : PySem.Str) : Bool := decide (N[i]? = some x) && visB sc x && !(x == ("__debug__" : PySem.Str)) && !(x == ("__classdict__" : PySem.Str))
def tgtB (N : List PySem.Str) (sc : Scope) (i : Nat) (x : PySem.Str) : Bool := decide (N[i]? = some x) && locB sc x
def bltName : Blt → PySem.Str
  | .len => "len" | .int => "int" | .ord => "ord" | .min => "min" | .max => "max" | .tuple => "tuple" | .list => "list" | .all => "all" | .any => "any" | .sum => "sum" | .sorted => "sorted"
def tyName : Ty → PySem.Str
  | .int => "int" | .bool => "bool" | .str => "str" | .tup => "tuple" | .lst => "list"
/-- every built-in name that the clean language speaks of -/
def bltNames : List PySem.Str := ["len", "int", "ord", "min", "max", "tuple", "list", "all", "any", "sum", "sorted", "isinstance", "bool", "str", "range", "enumerate", "zip", "reversed"]
def nmsOk (N : List PySem.Str) (sc : Scope) : List Nat → List Expr → Bool
  | [], [] => true
  | i :: is, .Name x _ :: es => tgtB N sc i x && nmsOk N sc is es
  | _, _ => false
def tgOk (N : List PySem.Str) (sc : Scope) : Tg → Expr → Bool
  | .nm i, .Name x _ => tgtB N sc i x
  | .tp is, .Tuple es _ _ => nmsOk N sc is es
  | _, _ => false
def tgIn (vs : List Nat) : Tg → Bool
  | .nm i => vs.contains i
  | .tp is => is.all vs.contains
/-- tuples of an iterator's own go to names of places -/
def wkT : Wk → Tg → Bool
  | .enum, .nm _ => false
  | .zip, .nm _ => false
  | .zipr _, .nm _ => false
  | _, _ => true
def baseOk : Expr → Bool
  | .Name _ _ => true
  | .Attribute _ _ _ => true
  | .Subscript _ _ _ => true
  | _ => false
def noOdd : Expr → Bool
  | .Name _ _ => true
  | .Call _ _ _ _ => true
  | .Subscript _ _ _ => true
  | _ => false
def isIsl : E → Bool
  | .isl _ => true
  | _ => false
/-- what reversed(..) is of -/
def revArg (sc : Scope) : Expr → Option Expr
  | .Call (.Name g _) [a] [] _ => if glB sc g && g == ("reversed" : PySem.Str) then some a else none
  | _ => none
theorem revArg_form {sc : Scope} {b a : Expr} (h : revArg sc b = some a) : ∃ g p q, b = .Call (.Name g p) [a] [] q ∧ glB sc g = true ∧ g = ("reversed" : PySem.Str) := by
  unfold revArg at h
  split at h
  · split at h
    · rename_i q
      cases h
      simp only [Bool.and_eq_true, beq_iff_eq] at q
      exact ⟨_, _, _, rfl, q.1, q.2⟩
    · cases h
  · cases h
def nameOk : Expr → Bool
  | .Name _ _ => true
  | _ => false
def ownOf (N : List PySem.Str) (vs : List Nat) : List (PySem.Str × Nat) := vs.map fun i => (N.getD i (PySem.Str.ofString ""), i)

section
variable (L : Lk) (N : List PySem.Str)
mutual
def okE (sc : Scope) : E → Expr → Bool
  | .v i, .Name x _ => varB N sc i x
  | .k g, .Name x _ => glB sc x && L.hc g x
  | .n, .Constant .none _ _ => true
  | .b x, .Constant (.bool y) _ _ => x == y
  | .i x, .Constant (.int y) _ _ => x == y
  | .s x, .Constant (.str y) _ _ => decide (y.cps.toList = x) && okS y
  | .bin o x y, .BinOp a p b _ => bopOk o p && okE sc x a && okE sc y b
  | .neg x, .UnaryOp .USub a _ => okE sc x a
  | .cmp o x y, .Compare a [p] [b] _ => copOk o p && okE sc x a && okE sc y b
  | .chain o p x y z, .Compare a [q, r] [b, d] _ => copOk o q && copOk p r && okE sc x a && okE sc y b && okE sc z d
  | .and x y, .BoolOp .And (a :: b :: rest) p => okE sc x a && (match rest with
    | [] => okE sc y b
    | _ => okE sc y (.BoolOp .And (b :: rest) p))
  | .or x y, .BoolOp .Or (a :: b :: rest) p => okE sc x a && (match rest with
    | [] => okE sc y b
    | _ => okE sc y (.BoolOp .Or (b :: rest) p))
  | .not x, .UnaryOp .Not a _ => okE sc x a
  | .ite t x y, .IfExp c a b _ => okE sc t c && okE sc x a && okE sc y b
  | .call g xs, .Call (.Name x _) as [] _ => glB sc x && x == L.fn g && L.hf g && okEs sc xs as
  | .fld x g f, .Attribute a n _ => decide ((clsFields g)[f]? = some n) && L.hk g && baseOk a && okE sc x a
  | .meth g' g x xs, .Call (.Attribute a n apos) as [] pos => n == L.fn g && L.hm g' g && nameOk a && !as.isEmpty && decide (as.length < 29) && (apos.endLine == pos.line) && okE sc x a && okEs sc xs as
  | .new g xs, .Call (.Name x _) as [] _ => glB sc x && x == clsName g && L.hn g && !as.isEmpty && okEs sc xs as
  | .blt f xs, .Call (.Name x _) as [] _ => glB sc x && x == bltName f && !as.isEmpty && okEs sc xs as
  | .isi x t, .Call (.Name f _) [a, .Name y _] [] _ => glB sc f && f == ("isinstance" : PySem.Str) && glB sc y && y == tyName t && okE sc x a
  | .ix x y, .Subscript a b _ => okE sc x a && okE sc y b
  | .sl x lo hi, .Subscript a (.Slice l h none _) _ => okE sc x a && okO sc lo l && okO sc hi h
  | .rev x, .Subscript a (.Slice none none (some (.UnaryOp .USub (.Constant (.int 1) _ _) _)) _) _ => okE sc x a
  | .tup xs, .Tuple as _ _ => okEs sc xs as && decide (as.length ≤ 1000)
  | .lst xs, .List as _ => okEs sc xs as && decide (as.length ≤ 1000)
  | .lc e t vs w xs cs, .ListComp elt [⟨tg, iter, ifs, k⟩] scope _ =>
      decide (k = 0) && blkC N sc scope (ownOf N vs) && tgOk N scope t tg && wkT w t && tgIn vs t && okE (relS scope sc) e elt && okEs (relS scope sc) cs ifs && okW sc xs w iter
  | .isl x, a => noOdd a && okE sc x a
  | .orv x y, .BoolOp .Or [a, b] _ => okE sc x a && okE sc y b
  | _, _ => false
termination_by structural x => x
def okEs (sc : Scope) : List E → List Expr → Bool
  | [], [] => true
  | x :: xs, a :: as => okE sc x a && okEs sc xs as
  | _, _ => false
termination_by structural x => x
def okW (sc : Scope) : List E → Wk → Expr → Bool
  | [x], .seq, a => okE sc x a
  | [x], .rng1, .Call (.Name f _) [a] [] _ => glB sc f && f == ("range" : PySem.Str) && okE sc x a
  | [x, y], .rng2, .Call (.Name f _) [a, b] [] _ => glB sc f && f == ("range" : PySem.Str) && okE sc x a && okE sc y b
  | [x], .enum, .Call (.Name f _) [a] [] _ => glB sc f && f == ("enumerate" : PySem.Str) && okE sc x a
  | [x], .revd, .Call (.Name f _) [a] [] _ => glB sc f && f == ("reversed" : PySem.Str) && okE sc x a
  | [x, y], .zip, .Call (.Name f _) [a, b] [] _ => glB sc f && f == ("zip" : PySem.Str) && okE sc x a && okE sc y b
  | [x, y], .zipr r, .Call (.Name f _) [a, b] [] _ => glB sc f && f == ("zip" : PySem.Str) && isIsl x && (match revArg sc a with
    | some a' => okE sc x a'
    | none => false) && (match (if r then revArg sc b else some b) with
    | some b' => okE sc y b'
    | none => false)
  | _, _, _ => false
termination_by structural x => x
def okO (sc : Scope) : Option E → Option Expr → Bool
  | none, none => true
  | some x, some a => okE sc x a
  | _, _ => false
termination_by structural x => x
end
end

/-! ### what an outcome must bring -/
def WpR {α : Type} (r : R α) (p : α → C → Prop) (q : Xc → C → Prop) : Prop := match r with
  | .st => False
  | .ok a c => p a c
  | .ex x c => q x c
theorem WpR.bind {α β : Type} {r : R α} {k : α → C → R β} {p : β → C → Prop} {q : Xc → C → Prop} (h : WpR (r.bind k) p q) : WpR r (fun a c => WpR (k a c) p q) q := by
  cases r <;> exact h
theorem WpR.mono {α : Type} {r : R α} {p p' : α → C → Prop} {q q' : Xc → C → Prop} (h : WpR r p q) (hp : ∀ a c, p a c → p' a c) (hq : ∀ x c, q x c → q' x c) : WpR r p' q' := by
  cases r with
  | st => exact h
  | ok a c => exact hp _ _ h
  | ex x c => exact hq _ _ h
theorem WpR.ofO {α : Type} {o : Option α} {c : C} {p : α → C → Prop} {q : Xc → C → Prop} (h : WpR (ofO o c) p q) : ∃ a, o = some a ∧ p a c := by
  cases o with
  | none => exact False.elim h
  | some a => exact ⟨a, rfl, h⟩

/-- an exception, as it lies -/
def XOk (K : Fg) (F H : Hp) (cls : Value) (d : Option Addr) (x : Xc) : Prop := False

section
variable (K : Fg) (W : WX)
/-- an expression's end: value, state -/
def PV (σ : L2.St) (F H : Hp) (c : C) (α : Nat → Addr) (Q : VK) (v : Vl) (c' : C) : Prop :=
  ∀ u F' H', Wf K F' H' σ c'.env α → Tr K c.env c'.env α F H F' H' → VOk K H F' H' σ c'.env α u v → Q u H'
def PX (σ : L2.St) (F H : Hp) (c : C) (α : Nat → Addr) (x : Xc) (c' : C) : Prop :=
  ∀ cls d F' H', Wf K F' H' σ c'.env α → Tr K c.env c'.env α F H F' H' → XOk K F' H' cls d x → W cls d σ H'
def PVs (σ : L2.St) (F H : Hp) (c : C) (α : Nat → Addr) (Q : List V → Hp → Prop) (vs : List Vl) (c' : C) : Prop :=
  ∀ us F' H', Wf K F' H' σ c'.env α → Tr K c.env c'.env α F H F' H' → VsOk K H F' H' σ c'.env α us vs → Q us H'
def PB {β : Type} (σ : L2.St) (F H : Hp) (c : C) (α : Nat → Addr) (Q : β → Hp → Prop) (b : β) (c' : C) : Prop :=
  ∀ F' H', Wf K F' H' σ c'.env α → Tr K c.env c'.env α F H F' H' → Q b H'
def tV (r : C → R Vl) : TE := fun σ H Q => ∃ F c α, Wf K F H σ c.env α ∧ WpR (r c) (PV K σ F H c α Q) (PX K W σ F H c α)
def tVs (r : C → R (List Vl)) : TA := fun σ H Q => ∃ F c α, Wf K F H σ c.env α ∧ WpR (r c) (PVs K σ F H c α Q) (PX K W σ F H c α)
def tTt (r : C → R Bool) : TT := fun σ H Q => ∃ F c α, Wf K F H σ c.env α ∧ WpR (r c) (PB K σ F H c α Q) (PX K W σ F H c α)
end

theorem pe_mono {X : Cx} {e : Expr} {t t' : TE} (h : PE X e t) (m : ∀ σ H Q, t' σ H Q → t σ H Q) : PE X e t' := ⟨fun pins s σ H Q I q => h.run pins s σ H Q I (m σ H Q q)⟩
theorem pt_mono {X : Cx} {e : Expr} {t t' : TT} (h : PT X e t) (m : ∀ σ H Q, t' σ H Q → t σ H Q) : PT X e t' := ⟨fun pins s σ H Q I q => h.run pins s σ H Q I (m σ H Q q)⟩
theorem pa_mono {X : Cx} {e : List Expr} {t t' : TA} (h : PA X e t) (m : ∀ σ H Q, t' σ H Q → t σ H Q) : PA X e t' := ⟨fun pos pins s σ H Q I q => h.run pos pins s σ H Q I (m σ H Q q)⟩
theorem pe_or2 {X : Cx} {e : Expr} {t t' : TE} (h : PE X e t) (h' : PE X e t') : PE X e (fun σ H Q => t σ H Q ∨ t' σ H Q) := ⟨fun pins s σ H Q I q => q.elim (h.run pins s σ H Q I) (h'.run pins s σ H Q I)⟩

section
variable {K : Fg} {W : WX} {σ : L2.St} {F H F' H' : Hp} {c c' : C} {α : Nat → Addr}
theorem PX.on {x : Xc} {c1 c' : C} (t : Tr K c.env c1.env α F H F' H') (h : PX K W σ F H c α x c') : PX K W σ F' H' c1 α x c' :=
  fun cls d F2 H2 w t2 xk => h cls d F2 H2 w (t.trans t2) xk
theorem cells (w : Wf K F H σ c.env α) (t : Tr K c.env c'.env α F H F' H') : ∀ i x, getS c'.env i = .own x → ∃ o, H (α i) = some o := fun i x h => w.there (t.back i x h)
/-- one sub-expression -/
theorem s1 {r : C → R Vl} {k : Vl → C → R Vl} {Q : VK} {R' : V → Hp → Prop} (w : Wf K F H σ c.env α) (h : WpR ((r c).bind k) (PV K σ F H c α Q) (PX K W σ F H c α))
    (go : ∀ v c1 u F1 H1, Wf K F1 H1 σ c1.env α → Tr K c.env c1.env α F H F1 H1 → VOk K H F1 H1 σ c1.env α u v → WpR (k v c1) (PV K σ F H c α Q) (PX K W σ F H c α) → R' u H1) :
    tV K W r σ H R' :=
  ⟨F, c, α, w, h.bind.mono (fun v c1 hk u F1 H1 w1 t1 v1 => go v c1 u F1 H1 w1 t1 v1 hk) fun _ _ hq => hq⟩
end

/-- a class of the text -/
structure KOk (K : Fg) (g : Nat) (C : Addr) : Prop where
  at_ : clsAt K g C
  cls : Cls K C
  fld : ∀ n ∈ clsFields g, NoAttr K C n
/-- what is promised of an __init__ -/
def spN (K : Fg) (g : Nat) : Sp := fun vs H Q _ => ∃ a C dx us F ds fs, vs = .ref a :: us ∧ clsAt K g C ∧ H a = some (.ins C dx []) ∧ Same F H ∧ F a = none ∧ Reps K F us ds ∧ newD g ds = some fs ∧
  ∀ H' ws, (∀ b o, b ≠ a → H b = some o → H' b = some o) → H' a = some (.ins C dx ((clsFields g).zip ws)) → Reps K F ws fs → Q .non H'
/-- all that the readings lean on -/
structure Hyp (L : Lk) (P : Pg) (call : CallT) (W : WX) (X : Cx) : Prop where
  calm : X.calm = true
  nd : X.N.Nodup
  takes : Takes X W
  units : X.A.units + 100 < cLine
  blt : ∀ x ∈ bltNames, X.mg x = none
  consts : ∀ g d x, L.hc g x = true → P.cs g = some d → ∃ u v, X.mg x = some u ∧ RelV v u ∧ ∀ F, Rep X.K F v d
  cls : ∀ g, L.hk g = true → ∃ C, KOk X.K g C
  news : ∀ g, L.hn g = true → ∃ C f fd ps k, KOk X.K g C ∧ X.mg (clsName g) = some (.ref C) ∧ Mk X.K C f ∧ FnOk X.prog X.w X.K X.mg X.base (L2.CX X.prog X.w) k f fd ps (spN X.K g) ∧ Room (k + 1) X.A ∧ Binds X.K fd ps []
end Ev
end
section
set_option maxRecDepth 100000
set_option maxHeartbeats 1000000
/-! Ev4: operations by values. -/
namespace Ev
open PySem L2

/-- what an operation brings -/
def ROk (K : Fg) (F' H' H : Hp) (u : V) : Vl → Prop
  | .d x => Rep K F' u x
  | .tmp x => ∃ a, u = .ref a ∧ H a = none ∧ F' a = none ∧ Own K F' H' a x
  | .bor _ _ => False
def Res (K : Fg) (F H : Hp) (v : Vl) (Q : VK) : Prop :=
  ∀ u F' H', Same H H' → Same F F' → Same F' H' → (∀ a o, F' a = some o → F a = some o ∨ H a = none) → ROk K F' H' H u v → Q u H'

section
variable {K : Fg} {F H : Hp} {Q : VK}
theorem Res.d {x : D} (s : Same F H) (h : Res K F H (.d x) Q) (u : V) (r : Rep K F u x) : Q u H := h u F H (Same.refl _) (Same.refl _) s (fun _ _ q => .inl q) r
theorem free_sub {p : Addr} (s : Same F H) (hp : H p = none) : F p = none := s.free hp
theorem Res.newT {xs : List D} (s : Same F H) (h : Res K F H (.d (.tup xs)) Q) {vs : List V} (r : Reps K F vs xs) : ∀ p, H p = none → Q (.ref p) (upd H p (.tup vs)) := fun p hp => by
  have sf : Same F (upd F p (.tup vs)) := same_upd (free_sub s hp)
  refine h _ (upd F p (.tup vs)) _ (same_upd hp) sf (fun b o q => ?_) (fun b o q => ?_) (.tup (.inl (.inl upd_same)) (r.mono sf))
  · by_cases e : b = p
    · subst e; rw [upd_same] at q ⊢; exact q
    · rw [upd_ne e] at q ⊢; exact s b o q
  · by_cases e : b = p
    · subst e; exact .inr hp
    · rw [upd_ne e] at q; exact .inl q
theorem Res.newL {xs : List D} (s : Same F H) (h : Res K F H (.tmp (.lst xs)) Q) {vs : List V} (r : Reps K F vs xs) : ∀ p, H p = none → Q (.ref p) (upd H p (.lst vs)) := fun p hp => by
  refine h _ F _ (same_upd hp) (Same.refl _) (fun b o q => ?_) (fun b o q => .inl q) ⟨p, rfl, hp, free_sub s hp, vs, upd_same, r⟩
  rw [upd_ne (ne_of_none (s b o q) hp)]; exact s b o q
theorem okS_app {x y : PySem.Str} (hx : okS x = true) (hy : okS y = true) : okS (x ++ y) = true := by
  have e : (x ++ y).cps = x.cps ++ y.cps := rfl
  unfold okS PyData.strOk at *
  rw [e, Array.all_append, hx, hy]; rfl
theorem app_list (x y : PySem.Str) : (x ++ y).cps.toList = x.cps.toList ++ y.cps.toList := by
  have e : (x ++ y).cps = x.cps ++ y.cps := rfl
  rw [e]; simp
theorem len_list (x : PySem.Str) : x.length = x.cps.toList.length := by simp [PySem.Str.length]
theorem line_eq : line = sizeLine := by rw [PySem.sizeLine_eq]; rfl
end

section
variable {X : Cx}
/-- list + list -/
theorem op_catR : OpR X (binaryOp .Add) (fun x y H Q => ∃ l b xs zs, x = .ref l ∧ y = .ref b ∧ SqL X.K H l xs ∧ SqL X.K H b zs ∧ xs.length + zs.length ≤ sizeLine ∧ ∀ p, H p = none → Q (.ref p) (upd H p (.lst (xs ++ zs)))) := by
  intro pins s σ H x y v u Q I rx ry h
  obtain ⟨l, b, xs, zs, rfl, rfl, hH, hB, hz, q⟩ := h
  cases rx
  cases ry
  obtain ⟨its, r, ⟨⟨cls, dd, data, sl⟩, n, e, hc, _, hd⟩, z⟩ := I.list hH
  obtain ⟨its2, r2, ⟨⟨cls2, dd2, data2, sl2⟩, n2, e2, hc2, _, hd2⟩, z2⟩ := I.list hB
  have hl := r.length
  have hl2 := r2.length
  simp only at hc hd hc2 hd2
  subst hc hd hc2 hd2
  refine concat_meets ⟨_, e, rfl⟩ ⟨_, e2, rfl⟩ noFill_list_add seq_list_add PySem.F.slot_list_add PySem.F.entry_list_add (PySem.F.args_list_add_2 _ _) (PyProof.Rows.list_addW l b its.toArray its2.toArray n n2 dd dd2 sl sl2 (by rw [List.size_toArray, List.size_toArray]; omega)) ⟨e, e2, ?_⟩
  have ea : its.toArray ++ its2.toArray = (its ++ its2).toArray := by simp
  rw [ea]
  exact ⟨.ref _, _, I.lnew (t' := s.toks) (r.append r2) (by rw [List.length_append]; omega), rfl, q _ I.fresh⟩

/-- the operators -/
def rBin (K : Fg) (o : BOp) : R2 := fun x y H Q => ∃ F dx dy v, Same F H ∧ Rdb K F H x dx ∧ Rdb K F H y dy ∧ binD o dx dy = some v ∧ Res K F H v Q
theorem some_if {c : Bool} {α : Type} {a v : α} (h : (if c = true then some a else none) = some v) : c = true ∧ a = v := by
  cases c
  · simp at h
  · simp at h; exact ⟨rfl, h⟩
theorem some_ifp {c : Prop} [Decidable c] {α : Type} {a v : α} (h : (if c then some a else none) = some v) : c ∧ a = v := by
  split at h
  · rename_i hc; exact ⟨hc, Option.some.inj h⟩
  · cases h
theorem bitAnd_nn {i j : Int} (hi : 0 ≤ i) (hj : 0 ≤ j) : Builtin.bitAnd i j = ((i.toNat &&& j.toNat : Nat) : Int) := by
  obtain ⟨a, rfl⟩ := Int.eq_ofNat_of_zero_le hi
  obtain ⟨b, rfl⟩ := Int.eq_ofNat_of_zero_le hj
  rfl
theorem repl_str (x : PySem.Str) (k : Nat) : True := trivial
theorem o_add : OpR X (binaryOp .Add) (rBin X.K .add) := by
  intro pins s σ H x y v u Q I rx ry ⟨F, dx, dy, w, hs, hx, hy, e, hr⟩
  cases dx <;> cases dy <;> simp only [binD] at e <;> first | (cases e; done) | skip
  · cases e
    obtain rfl := hx.int
    obtain rfl := hy.int
    exact op_add pins s σ H _ _ v u Q I rx ry ⟨_, _, rfl, rfl, hr.d hs _ (.int _)⟩
  · obtain ⟨hl, e⟩ := some_ifp e
    subst e
    obtain ⟨a, rfl, ea, oa⟩ := hx.str
    obtain ⟨b, rfl, eb, ob⟩ := hy.str
    subst ea eb
    refine op_add_str pins s σ H _ _ v u Q I rx ry ⟨a, b, rfl, rfl, by rw [len_list, len_list, ← line_eq]; exact hl, hr.d hs _ ?_⟩
    rw [← app_list]
    exact .str _ (okS_app oa ob)
  · obtain ⟨hl, e⟩ := some_ifp e
    subst e
    obtain ⟨a, vs, rfl, ga, fa, ra⟩ := hx.tup hs
    obtain ⟨b, ws, rfl, gb, fb, rb⟩ := hy.tup hs
    refine op_catA pins s σ H _ _ v u Q I rx ry ⟨a, b, vs, ws, rfl, rfl, ga, gb, by rw [ra.length, rb.length, ← line_eq]; exact hl, fun hn => ?_, fun _ hn => ?_, fun _ _ => hr.newT hs (ra.app rb)⟩
    · subst hn
      cases ra
      exact hr.d hs _ (.tup fb rb)
    · subst hn
      cases rb
      refine hr.d hs _ (.tup fa ?_)
      rw [List.append_nil]; exact ra
  · obtain ⟨hl, e⟩ := some_ifp e
    subst e
    obtain ⟨a, vs, rfl, ga, ra⟩ := hx.list hs
    obtain ⟨b, ws, rfl, gb, rb⟩ := hy.list hs
    exact op_catR pins s σ H _ _ v u Q I rx ry ⟨a, b, vs, ws, rfl, rfl, ga, gb, by rw [ra.length, rb.length, ← line_eq]; exact hl, hr.newL hs (ra.app rb)⟩
theorem o_sub : OpR X (binaryOp .Sub) (rBin X.K .sub) := by
  intro pins s σ H x y v u Q I rx ry ⟨F, dx, dy, w, hs, hx, hy, e, hr⟩
  cases dx <;> cases dy <;> simp only [binD] at e <;> first | (cases e; done) | skip
  cases e
  obtain rfl := hx.int
  obtain rfl := hy.int
  exact op_sub pins s σ H _ _ v u Q I rx ry ⟨_, _, rfl, rfl, hr.d hs _ (.int _)⟩
theorem o_fdiv : OpR X (binaryOp .FloorDiv) (rBin X.K .fdiv) := by
  intro pins s σ H x y v u Q I rx ry ⟨F, dx, dy, w, hs, hx, hy, e, hr⟩
  cases dx <;> cases dy <;> simp only [binD] at e <;> first | (cases e; done) | skip
  obtain ⟨hc, e⟩ := some_if e
  subst e
  simp only [Bool.and_eq_true, decide_eq_true_eq] at hc
  obtain rfl := hx.int
  obtain rfl := hy.int
  exact op_fdiv pins s σ H _ _ v u Q I rx ry ⟨_, _, rfl, rfl, hc, hr.d hs _ (.int _)⟩
theorem o_mod : OpR X (binaryOp .Mod) (rBin X.K .mod) := by
  intro pins s σ H x y v u Q I rx ry ⟨F, dx, dy, w, hs, hx, hy, e, hr⟩
  cases dx <;> cases dy <;> simp only [binD] at e <;> first | (cases e; done) | skip
  obtain ⟨hc, e⟩ := some_ifp e
  subst e
  obtain rfl := hx.int
  obtain rfl := hy.int
  exact op_mod pins s σ H _ _ v u Q I rx ry ⟨_, _, rfl, rfl, hc, hr.d hs _ (.int _)⟩
theorem o_pow : OpR X (binaryOp .Pow) (rBin X.K .pow) := by
  intro pins s σ H x y v u Q I rx ry ⟨F, dx, dy, w, hs, hx, hy, e, hr⟩
  cases dx <;> cases dy <;> simp only [binD] at e <;> first | (cases e; done) | skip
  obtain ⟨hc, e⟩ := some_if e
  subst e
  simp only [Bool.and_eq_true, decide_eq_true_eq] at hc
  obtain rfl := hx.int
  obtain rfl := hy.int
  exact op_pow pins s σ H _ _ v u Q I rx ry ⟨_, _, rfl, rfl, ⟨hc.1.1, hc.1.2, hc.2⟩, hr.d hs _ (.int _)⟩
theorem o_band : OpR X (binaryOp .BitAnd) (rBin X.K .band) := by
  intro pins s σ H x y v u Q I rx ry ⟨F, dx, dy, w, hs, hx, hy, e, hr⟩
  cases dx <;> cases dy <;> simp only [binD] at e <;> first | (cases e; done) | skip
  obtain ⟨hc, e⟩ := some_if e
  subst e
  simp only [Bool.and_eq_true, decide_eq_true_eq] at hc
  obtain rfl := hx.int
  obtain rfl := hy.int
  refine op_and pins s σ H _ _ v u Q I rx ry ⟨_, _, rfl, rfl, ?_⟩
  show Q (.int (Builtin.bitAnd _ _)) H
  rw [bitAnd_nn hc.1 hc.2]
  exact hr.d hs _ (.int _)
theorem foldl_cps (x : Array Nat) : ∀ (k : Nat) (acc : Array Nat), ((List.replicate k x).foldl (· ++ ·) acc).toList = acc.toList ++ (List.replicate k x.toList).flatten
  | 0, acc => by simp
  | k + 1, acc => by rw [List.replicate_succ, List.foldl_cons, foldl_cps x k, List.replicate_succ, List.flatten_cons, Array.toList_append, List.append_assoc]
theorem foldl_ok (x : Array Nat) (hx : x.all (· < 0x110000) = true) : ∀ (k : Nat) (acc : Array Nat), acc.all (· < 0x110000) = true → ((List.replicate k x).foldl (· ++ ·) acc).all (· < 0x110000) = true
  | 0, acc, h => h
  | k + 1, acc, h => by
    rw [List.replicate_succ, List.foldl_cons]
    exact foldl_ok x hx k _ (by rw [Array.all_append, h, hx]; rfl)
theorem mul_cps (x : PySem.Str) (n : Int) (h0 : 0 ≤ n) (hx : okS x = true) : (Txt.mul x n).cps.toList = (List.replicate n.toNat x.cps.toList).flatten ∧ okS (Txt.mul x n) = true := by
  unfold Txt.mul
  by_cases h1 : n < 1
  · rw [if_pos h1]
    have e : n.toNat = 0 := by omega
    rw [e]; exact ⟨rfl, by simp [okS, PyData.strOk, Str.empty]⟩
  · rw [if_neg h1]
    by_cases h2 : (n == 1 || x.length == 0) = true
    · rw [if_pos h2]
      refine ⟨?_, hx⟩
      simp only [Bool.or_eq_true, beq_iff_eq] at h2
      rcases h2 with h2 | h2
      · subst h2; simp
      · have e : x.cps.toList = [] := by
          have : x.cps.toList.length = 0 := by rw [← len_list]; exact h2
          exact List.length_eq_zero_iff.mp this
        rw [e]
        induction n.toNat with
        | zero => rfl
        | succ k ih => rw [List.replicate_succ, List.flatten_cons, ← ih]; rfl
    · rw [if_neg h2]
      exact ⟨by rw [show (⟨(List.replicate n.toNat x.cps).foldl (· ++ ·) #[]⟩ : PySem.Str).cps = (List.replicate n.toNat x.cps).foldl (· ++ ·) #[] from rfl, foldl_cps]; simp, foldl_ok _ hx _ _ (by simp)⟩
theorem o_mul : OpR X (binaryOp .Mult) (rBin X.K .mul) := by
  intro pins s σ H x y v u Q I rx ry ⟨F, dx, dy, w, hs, hx, hy, e, hr⟩
  cases dx <;> cases dy <;> simp only [binD] at e <;> first | (cases e; done) | skip
  · obtain ⟨hc, e⟩ := some_if e
    subst e
    obtain rfl := hx.int
    obtain rfl := hy.int
    unfold okMul at hc
    simp only [Bool.or_eq_true, Bool.and_eq_true, decide_eq_true_eq] at hc
    exact op_mul pins s σ H _ _ v u Q I rx ry ⟨_, _, rfl, rfl, hc, hr.d hs _ (.int _)⟩
  · obtain ⟨hc, e⟩ := some_if e
    subst e
    simp only [Bool.and_eq_true, decide_eq_true_eq] at hc
    obtain ⟨a, rfl, ea, oa⟩ := hx.str
    obtain rfl := hy.int
    subst ea
    obtain ⟨t, rfl⟩ := rx
    obtain ⟨t', rfl⟩ := ry
    obtain ⟨e1, e2⟩ := mul_cps a _ hc.1.1 oa
    refine PySem.SB.mul (PyProof.Rows.mulOk_of 1000 1000 (by rw [len_list]; exact hc.2) hc.1.2 (by have := hc.1.1; omega) (by decide) (by decide)) fun t1 k => ?_
    refine ⟨.str _, H, I.tok _, ⟨_, rfl⟩, hr.d hs _ ?_⟩
    rw [← e1]
    exact .str _ e2
  · obtain ⟨hc, e⟩ := some_ifp e
    subst e
    simp only [Bool.and_eq_true, decide_eq_true_eq] at hc
    obtain ⟨⟨⟨h1, h2⟩, h3⟩, h4⟩ := hc
    obtain ⟨a, vs, rfl, ga, fa, ra⟩ := hx.tup hs
    obtain rfl := hy.int
    have hne : vs ≠ [] := by
      rintro rfl
      have := ra.length
      simp only [List.length_nil] at this
      have : _ = [] := List.eq_nil_of_length_eq_zero this.symm
      subst this
      simp at h1
    exact op_repT pins s σ H _ _ v u Q I rx ry ⟨a, _, vs, rfl, rfl, ga, hne, h2, h3, by rw [ra.length]; exact h4, hr.newT hs (ra.rep _)⟩

/-! ### comparisons -/
def rCmp (K : Fg) (o : COp) : R2 := fun x y H Q => ∃ F dx dy t, Same F H ∧ Rdb K F H x dx ∧ Rdb K F H y dy ∧ cmpD o dx dy = some t ∧ Q (.bl t) H
theorem strLt_eq : ∀ a b : List Nat, strLt a b = decide (a < b)
  | [], [] => by simp [strLt]
  | [], _ :: _ => by simp [strLt]
  | _ :: _, [] => by simp [strLt]
  | x :: a, y :: b => by
    rw [strLt, strLt_eq a b]
    by_cases h : x = y
    · subst h; simp
    · rw [if_neg h]
      by_cases h2 : x < y
      · simp [List.cons_lt_cons_iff, h, h2]
      · simp [List.cons_lt_cons_iff, h, h2]
theorem lexLt_eq : ∀ a b : List Int, lexLt a b = HT.lexLt a b
  | [], [] => rfl
  | [], _ :: _ => rfl
  | _ :: _, [] => rfl
  | x :: a, y :: b => by rw [lexLt, HT.lexLt_cons, lexLt_eq a b]
theorem ints_vs {K : Fg} {F : Hp} : ∀ {vs : List V} {ds : List D} {ns : List Int}, Reps K F vs ds → ints? ds = some ns → vs = ns.map V.int
  | _, _, _, .nil, e => by simp [ints?] at e; subst e; rfl
  | _, _, ns, .cons (d := d) (ds := ds) a b, e => by
    cases a with
    | int i =>
      simp only [ints?, Option.map_eq_some_iff] at e
      obtain ⟨ms, e1, rfl⟩ := e
      rw [ints_vs b e1]; rfl
    | _ => simp [ints?] at e
theorem getD_cons_succ' (x : Int) (l : List Int) (j : Nat) : (x :: l).getD (j + 1) 0 = l.getD j 0 := by simp
theorem lexAt_shift (e r : Nat → Bool) (z : Bool) : ∀ (k i : Nat), Ob.lexAt e r z (i + 1) k = Ob.lexAt (fun j => e (j + 1)) (fun j => r (j + 1)) z i k
  | 0, i => rfl
  | k + 1, i => by rw [Ob.lexAt_succ, Ob.lexAt_succ, lexAt_shift e r z k (i + 1)]
theorem le_nlt (a b : Int) : decide (a ≤ b) = !decide (b < a) := by rw [Bool.eq_iff_iff]; simp
theorem lexAt_le : ∀ (ns ms : List Int), Ob.lexAt (fun j => decide (ns.getD j 0 = ms.getD j 0)) (fun j => decide (ns.getD j 0 ≤ ms.getD j 0)) (decide (ns.length ≤ ms.length)) 0 (min ns.length ms.length) = !lexLt ms ns
  | [], [] => by simp [Ob.lexAt_zero, lexLt]
  | [], _ :: _ => by simp [Ob.lexAt_zero, lexLt]
  | _ :: _, [] => by simp [Ob.lexAt_zero, lexLt]
  | x :: ns, y :: ms => by
    have ek : min (x :: ns).length (y :: ms).length = min ns.length ms.length + 1 := by simp only [List.length_cons]; omega
    rw [ek, Ob.lexAt_succ, lexAt_shift]
    have ih := lexAt_le ns ms
    simp only [getD_cons_succ', List.length_cons, Nat.add_le_add_iff_right]
    rw [ih, lexLt]
    by_cases h : x = y
    · subst h; simp
    · have h' : ¬ y = x := fun e => h e.symm
      simp [h, h']
      exact le_nlt _ _
variable {pins : List (Addr × Obj)} {s : Shared} {σ : L2.St} {H F : Hp} {x y : V} {v u : Value}
theorem rd_reads (I : L2.Inv X pins σ H s) (hs : Same F H) {d : D} (hx : Rdb X.K F H x d) (hp : pln d = true) (rx : RelV x v) : ∃ as, Reads s.heap v (toPy d) as := Dp.reads I _ x v (hx.dp hs hp) rx
theorem depth_of (hs : Same F H) {K : Fg} {d : D} (hx : Rdb K F H x d) (h : shp d = true) : (toPy d).canLay0 = true := SeqAt.canLay_of_shaped (hx.shaped hs h)
theorem shp_iff {d : D} : shp d = true ↔ pln d = true ∧ dep d ≤ 64 := by simp [shp]
theorem o_eq (hu : X.A.units + 100 < cLine) : OpR X (compareOp .Eq) (rCmp X.K .eq) := by
  intro pins s σ H x y v u Q I rx ry ⟨F, dx, dy, t, hs, hx, hy, e, q⟩
  simp only [cmpD] at e
  obtain ⟨hc, e⟩ := some_if e
  subst e
  rw [Bool.and_eq_true] at hc
  refine op_eqD (by omega) pins s σ H x y v u Q I rx ry ⟨_, _, hx.dp hs (shp_iff.mp hc.1).1, hy.dp hs (shp_iff.mp hc.2).1, hx.shaped hs hc.1, hy.shaped hs hc.2, ?_⟩
  rw [eqv_py _ _ (shp_iff.mp hc.1).1 (shp_iff.mp hc.2).1]; exact q
theorem o_ne (hu : X.A.units + 100 < cLine) : OpR X (compareOp .NotEq) (rCmp X.K .ne) := by
  intro pins s σ H x y v u Q I rx ry ⟨F, dx, dy, t, hs, hx, hy, e, q⟩
  simp only [cmpD] at e
  obtain ⟨hc, e⟩ := some_if e
  subst e
  rw [Bool.and_eq_true] at hc
  refine op_neD (by omega) pins s σ H x y v u Q I rx ry ⟨_, _, hx.dp hs (shp_iff.mp hc.1).1, hy.dp hs (shp_iff.mp hc.2).1, hx.shaped hs hc.1, hy.shaped hs hc.2, ?_⟩
  rw [eqv_py _ _ (shp_iff.mp hc.1).1 (shp_iff.mp hc.2).1]; exact q
theorem ltD_cases {dx dy : D} {t : Bool} (e : ltD dx dy = some t) : (∃ i j, dx = .int i ∧ dy = .int j ∧ t = decide (i < j)) ∨ (∃ a b, dx = .str a ∧ dy = .str b ∧ t = strLt a b) ∨
    (∃ xs ys ns ms, dx = .tup xs ∧ dy = .tup ys ∧ ints? xs = some ns ∧ ints? ys = some ms ∧ t = lexLt ns ms) := by
  cases dx <;> cases dy <;> simp only [ltD] at e <;> first | (cases e; done) | skip
  · cases e; exact .inl ⟨_, _, rfl, rfl, rfl⟩
  · cases e; exact .inr (.inl ⟨_, _, rfl, rfl, rfl⟩)
  · split at e
    · cases e; exact .inr (.inr ⟨_, _, _, _, rfl, rfl, by assumption, by assumption, rfl⟩)
    · cases e
theorem o_lt (hu : X.A.units + 100 < cLine) : OpR X (compareOp .Lt) (rCmp X.K .lt) := by
  intro pins s σ H x y v u Q I rx ry ⟨F, dx, dy, t, hs, hx, hy, e, q⟩
  rcases ltD_cases e with ⟨i, j, rfl, rfl, rfl⟩ | ⟨a, b, rfl, rfl, rfl⟩ | ⟨xs, ys, ns, ms, rfl, rfl, e1, e2, rfl⟩
  · obtain rfl := hx.int
    obtain rfl := hy.int
    exact op_lt pins s σ H _ _ v u Q I rx ry ⟨_, _, rfl, rfl, q⟩
  · obtain ⟨a, rfl, ea, oa⟩ := hx.str
    obtain ⟨b, rfl, eb, ob⟩ := hy.str
    subst ea eb
    exact op_lt_str pins s σ H _ _ v u Q I rx ry ⟨_, _, rfl, rfl, by rw [← strLt_eq]; exact q⟩
  · obtain ⟨a, vs, rfl, ga, fa, ra⟩ := hx.tup hs
    obtain ⟨b, ws, rfl, gb, fb, rb⟩ := hy.tup hs
    rw [ints_vs ra e1] at ga
    rw [ints_vs rb e2] at gb
    exact op_ltT (by omega) pins s σ H _ _ v u Q I rx ry ⟨_, _, _, _, rfl, rfl, ga, gb, by rw [← lexLt_eq]; exact q⟩
theorem o_gt : OpR X (compareOp .Gt) (rCmp X.K .gt) := by
  intro pins s σ H x y v u Q I rx ry ⟨F, dx, dy, t, hs, hx, hy, e, q⟩
  simp only [cmpD] at e
  split at e
  · cases e
  · rename_i hn
    rcases ltD_cases e with ⟨i, j, rfl, rfl, rfl⟩ | ⟨a, b, rfl, rfl, rfl⟩ | ⟨xs, ys, ns, ms, rfl, rfl, e1, e2, rfl⟩
    · obtain rfl := hx.int
      obtain rfl := hy.int
      exact op_gt pins s σ H _ _ v u Q I rx ry ⟨_, _, rfl, rfl, q⟩
    · obtain ⟨a, rfl, ea, oa⟩ := hx.str
      obtain ⟨b, rfl, eb, ob⟩ := hy.str
      subst ea eb
      exact op_gt_str pins s σ H _ _ v u Q I rx ry ⟨_, _, rfl, rfl, by rw [← strLt_eq]; exact q⟩
    · exact (hn _ rfl).elim
theorem o_le (hu : X.A.units + 100 < cLine) : OpR X (compareOp .LtE) (rCmp X.K .le) := by
  intro pins s σ H x y v u Q I rx ry ⟨F, dx, dy, t, hs, hx, hy, e, q⟩
  simp only [cmpD, Option.map_eq_some_iff] at e
  obtain ⟨t0, e, rfl⟩ := e
  rcases ltD_cases e with ⟨i, j, rfl, rfl, rfl⟩ | ⟨a, b, rfl, rfl, rfl⟩ | ⟨xs, ys, ns, ms, rfl, rfl, e1, e2, rfl⟩
  · obtain rfl := hx.int
    obtain rfl := hy.int
    refine op_le pins s σ H _ _ v u Q I rx ry ⟨j, i, rfl, rfl, ?_⟩
    show Q (.bl (decide (j ≤ i))) H
    rw [le_nlt]
    exact q
  · obtain ⟨a, rfl, ea, oa⟩ := hx.str
    obtain ⟨b, rfl, eb, ob⟩ := hy.str
    subst ea eb
    exact op_le_str pins s σ H _ _ v u Q I rx ry ⟨_, _, rfl, rfl, by rw [← strLt_eq]; exact q⟩
  · obtain ⟨a, vs, rfl, ga, fa, ra⟩ := hx.tup hs
    obtain ⟨b, ws, rfl, gb, fb, rb⟩ := hy.tup hs
    rw [ints_vs ra e2] at ga
    rw [ints_vs rb e1] at gb
    exact op_leT (by omega) pins s σ H _ _ v u Q I rx ry ⟨_, _, _, _, rfl, rfl, ga, gb, by rw [lexAt_le]; exact q⟩
theorem o_ge : OpR X (compareOp .GtE) (rCmp X.K .ge) := by
  intro pins s σ H x y v u Q I rx ry ⟨F, dx, dy, t, hs, hx, hy, e, q⟩
  simp only [cmpD] at e
  split at e
  · cases e
  · rename_i hn
    simp only [Option.map_eq_some_iff] at e
    obtain ⟨t0, e, rfl⟩ := e
    rcases ltD_cases e with ⟨i, j, rfl, rfl, rfl⟩ | ⟨a, b, rfl, rfl, rfl⟩ | ⟨xs, ys, ns, ms, rfl, rfl, e1, e2, rfl⟩
    · obtain rfl := hx.int
      obtain rfl := hy.int
      refine op_ge pins s σ H _ _ v u Q I rx ry ⟨i, j, rfl, rfl, ?_⟩
      show Q (.bl (decide (j ≤ i))) H
      rw [le_nlt]
      exact q
    · obtain ⟨a, rfl, ea, oa⟩ := hx.str
      obtain ⟨b, rfl, eb, ob⟩ := hy.str
      subst ea eb
      exact op_ge_str pins s σ H _ _ v u Q I rx ry ⟨_, _, rfl, rfl, by rw [← strLt_eq]; exact q⟩
    · exact (hn _ rfl).elim
theorem anyA (xs : List D) (d : D) (h : plnA xs = true) (hd : pln d = true) : ((toPys xs).any fun z => PyData.eqv z (toPy d)) = xs.any fun z => deq z d := by
  induction xs with
  | nil => rfl
  | cons a l ih =>
    simp only [plnA, Bool.and_eq_true] at h
    simp only [toPys, List.any_cons, ih h.2, eqv_py a d h.1 hd]
theorem min_le' {a b : Nat} (h : a ≤ 64) : min a b ≤ 64 := Nat.le_trans (Nat.min_le_left _ _) h
theorem inD_cases {dx dy : D} {t : Bool} (e : inD dx dy = some t) : (∃ ys, (dy = .lst ys ∨ dy = .tup ys) ∧ shp dx = true ∧ plnA ys = true ∧ depA ys ≤ 64 ∧ t = ys.any fun z => deq z dx) ∨
    (∃ c z, dx = .str [c] ∧ dy = .str z ∧ t = z.contains c) := by
  cases dy <;> simp only [inD] at e <;> first | (cases e; done) | skip
  · right
    split at e
    · cases e; exact ⟨_, _, rfl, rfl, rfl⟩
    · cases e
  · left
    obtain ⟨hc, e⟩ := some_if e
    simp only [Bool.and_eq_true, decide_eq_true_eq] at hc
    exact ⟨_, .inr rfl, hc.1.1, hc.1.2, hc.2, e.symm⟩
  · left
    obtain ⟨hc, e⟩ := some_if e
    simp only [Bool.and_eq_true, decide_eq_true_eq] at hc
    exact ⟨_, .inl rfl, hc.1.1, hc.1.2, hc.2, e.symm⟩
theorem str_one {x : PySem.Str} {c : Nat} (h : x.cps.toList = [c]) : x = ⟨#[c]⟩ := by
  cases x with
  | mk a =>
    have : a = #[c] := by
      apply Array.toList_inj.mp
      simpa using h
    rw [this]
theorem layA {F H : Hp} {K : Fg} {y : V} {ys : List D} (hs : Same F H) (hp : plnA ys = true) (hy : Rdb K F H y (.lst ys) ∨ Rdb K F H y (.tup ys)) : PyData.canLayAll0 (toPys ys) = true := by
  rcases hy with hy | hy
  · obtain ⟨_, _, _, _, r⟩ := hy.list hs
    exact r.lay hs hp
  · obtain ⟨_, _, _, _, _, r⟩ := hy.tup hs
    exact r.lay hs hp
theorem o_in (hu : X.A.units + 100 < cLine) : OpR X (compareOp .In) (rCmp X.K .isin) := by
  intro pins s σ H x y v u Q I rx ry ⟨F, dx, dy, t, hs, hx, hy, e, q⟩
  rcases inD_cases e with ⟨ys, hd, h1, h2, h3, rfl⟩ | ⟨c, z, rfl, rfl, rfl⟩
  · have hp := shp_iff.mp h1
    obtain ⟨as, r1⟩ := rd_reads I hs hx hp.1 rx
    obtain ⟨bs, r2⟩ := rd_reads I hs hy (by rcases hd with rfl | rfl <;> simpa [pln] using h2) ry
    rcases hd with rfl | rfl
    · refine SeqAt.in_list_reads r2 r1 (layA hs h2 (.inl hy)) (depth_of hs hx h1) (by rw [dep_pys]; have := min_le' (b := (toPy dx).depth) h3; omega) ⟨.bl _, H, I, rfl, ?_⟩
      rw [anyA _ _ h2 hp.1]; exact q
    · refine SeqAt.in_tuple_reads r2 r1 (layA hs h2 (.inr hy)) (depth_of hs hx h1) (by rw [dep_pys]; have := min_le' (b := (toPy dx).depth) h3; omega) ⟨.bl _, H, I, rfl, ?_⟩
      rw [anyA _ _ h2 hp.1]; exact q
  · obtain ⟨a, rfl, ea, oa⟩ := hx.str
    obtain ⟨b, rfl, eb, ob⟩ := hy.str
    subst eb
    refine op_in_sign pins s σ H _ _ v u Q I rx ry ⟨c, b, by rw [str_one ea], rfl, ?_⟩
    rw [← List.contains_eq_mem]; exact q
theorem o_nin (hu : X.A.units + 100 < cLine) : OpR X (compareOp .NotIn) (rCmp X.K .nin) := by
  intro pins s σ H x y v u Q I rx ry ⟨F, dx, dy, t, hs, hx, hy, e, q⟩
  simp only [cmpD, Option.map_eq_some_iff] at e
  obtain ⟨t0, e, rfl⟩ := e
  rcases inD_cases e with ⟨ys, hd, h1, h2, h3, rfl⟩ | ⟨c, z, rfl, rfl, rfl⟩
  · have hp := shp_iff.mp h1
    obtain ⟨as, r1⟩ := rd_reads I hs hx hp.1 rx
    obtain ⟨bs, r2⟩ := rd_reads I hs hy (by rcases hd with rfl | rfl <;> simpa [pln] using h2) ry
    rcases hd with rfl | rfl
    · refine SeqAt.notIn_list_reads r2 r1 (layA hs h2 (.inl hy)) (depth_of hs hx h1) (by rw [dep_pys]; have := min_le' (b := (toPy dx).depth) h3; omega) ⟨.bl _, H, I, rfl, ?_⟩
      rw [anyA _ _ h2 hp.1]; exact q
    · refine SeqAt.notIn_tuple_reads r2 r1 (layA hs h2 (.inr hy)) (depth_of hs hx h1) (by rw [dep_pys]; have := min_le' (b := (toPy dx).depth) h3; omega) ⟨.bl _, H, I, rfl, ?_⟩
      rw [anyA _ _ h2 hp.1]; exact q
  · obtain ⟨a, rfl, ea, oa⟩ := hx.str
    obtain ⟨b, rfl, eb, ob⟩ := hy.str
    subst eb
    refine op_notIn_sign pins s σ H _ _ v u Q I rx ry ⟨c, b, by rw [str_one ea], rfl, ?_⟩
    rw [← List.contains_eq_mem]; exact q
theorem isD_cases {K : Fg} {F H : Hp} {dx dy : D} {t : Bool} {x : V} (hx : Rdb K F H x dx) (e : isD dx dy = some t) : (∃ a b, dx = .bl a ∧ dy = .bl b ∧ t = decide (a = b)) ∨ (dy = .non ∧ t = decide (x = .non)) := by
  cases dy <;> first | (cases dx <;> simp [isD] at e <;> done) | skip
  · right
    refine ⟨rfl, ?_⟩
    rcases hx with hx | ⟨a, ex, hx⟩
    · cases hx <;> simp [isD] at e <;> subst e <;> simp
    · obtain ⟨xs, vs, rfl, _⟩ := hx.ls
      simp [isD] at e; subst e; subst ex; simp
  · left
    cases dx <;> simp [isD] at e
    exact ⟨_, _, rfl, rfl, by rw [← e, Bool.beq_eq_decide_eq]⟩
theorem o_is : OpR X (compareOp .Is) (rCmp X.K .is) := by
  intro pins s σ H x y v u Q I rx ry ⟨F, dx, dy, t, hs, hx, hy, e, q⟩
  rcases isD_cases hx e with ⟨a, b, rfl, rfl, rfl⟩ | ⟨rfl, rfl⟩
  · obtain rfl := hx.bl
    obtain rfl := hy.bl
    exact op_isBl pins s σ H _ _ v u Q I rx ry ⟨_, _, rfl, rfl, q⟩
  · obtain rfl := hy.non
    exact op_isN pins s σ H _ _ v u Q I rx ry ⟨rfl, q⟩
theorem o_isnot : OpR X (compareOp .IsNot) (rCmp X.K .isnot) := by
  intro pins s σ H x y v u Q I rx ry ⟨F, dx, dy, t, hs, hx, hy, e, q⟩
  simp only [cmpD, Option.map_eq_some_iff] at e
  obtain ⟨t0, e, rfl⟩ := e
  rcases isD_cases hx e with ⟨a, b, rfl, rfl, rfl⟩ | ⟨rfl, rfl⟩
  · obtain rfl := hx.bl
    obtain rfl := hy.bl
    exact op_notBl pins s σ H _ _ v u Q I rx ry ⟨_, _, rfl, rfl, q⟩
  · obtain rfl := hy.non
    exact op_notN pins s σ H _ _ v u Q I rx ry ⟨rfl, q⟩
theorem o_bin {o : BOp} {p : Operator} (h : bopOk o p = true) : OpR X (binaryOp p) (rBin X.K o) := by
  cases o <;> cases p <;> first | (cases h; done) | skip
  · exact o_add
  · exact o_sub
  · exact o_mul
  · exact o_fdiv
  · exact o_mod
  · exact o_pow
  · exact o_band
theorem o_cmp (hu : X.A.units + 100 < cLine) {o : COp} {p : CmpOp} (h : copOk o p = true) : OpR X (compareOp p) (rCmp X.K o) := by
  cases o <;> cases p <;> first | (cases h; done) | skip
  · exact o_eq hu
  · exact o_ne hu
  · exact o_lt hu
  · exact o_le hu
  · exact o_gt
  · exact o_ge
  · exact o_in hu
  · exact o_nin hu
  · exact o_is
  · exact o_isnot
end
end Ev
end
section
set_option maxRecDepth 100000
set_option maxHeartbeats 1000000
/-! Ev5: subscripts, slices, truth, built-in functions by values. -/
namespace Ev
open PySem L2
section
variable {X : Cx}
theorem atI_get {K : Fg} {F : Hp} {vs : List V} {ds : List D} {i : Int} {d : D} (r : Reps K F vs ds) (h : atI ds i = some d) : ∃ v, L2.atI vs i = some v ∧ Rep K F v d := by
  unfold atI at h
  unfold L2.atI
  rw [r.length]
  have e : L2.ixN ds.length i = ixN ds.length i := rfl
  rw [e]
  cases q : ixN ds.length i with
  | none => rw [q] at h; cases h
  | some j =>
    rw [q] at h
    exact r.get h
theorem okS_mem {x : PySem.Str} (h : okS x = true) {c : Nat} (hc : c ∈ x.cps.toList) : c < 0x110000 := by
  unfold okS PyData.strOk at h
  rw [← Array.all_toList, List.all_eq_true] at h
  simpa using h c hc
theorem okS_of {x : PySem.Str} (h : ∀ c ∈ x.cps.toList, c < 0x110000) : okS x = true := by
  unfold okS PyData.strOk
  rw [← Array.all_toList, List.all_eq_true]
  intro c hc
  simpa using h c hc
theorem rep_sign {K : Fg} {F : Hp} {c : Nat} (h : c < 0x110000) : Rep K F (.str ⟨#[c]⟩) (.str [c]) := .str ⟨#[c]⟩ (okS_of (by simp; exact h))
theorem some_ifO {c : Prop} [Decidable c] {α : Type} {a : Option α} {v : α} (h : (if c then a else none) = some v) : c ∧ a = some v := by
  split at h
  · rename_i hc; exact ⟨hc, h⟩
  · cases h
def rIx (K : Fg) : R2 := fun x y H Q => ∃ F dx dy d, Same F H ∧ Rdb K F H x dx ∧ Rdb K F H y dy ∧ ixD dx dy = some d ∧ ∀ u, Rep K F u d → Q u H
theorem x_ix : IxR X (rIx X.K) := by
  intro ve se pins s σ H x y v u Q I rx ry ⟨F, dx, dy, d, hs, hx, hy, e, q⟩ hsub
  cases dx <;> cases dy <;> simp only [ixD] at e <;> first | (cases e; done) | skip
  · obtain ⟨hl, e0⟩ := some_ifO e
    obtain ⟨c, e1, rfl⟩ := Option.map_eq_some_iff.mp e0
    obtain ⟨a, rfl, ea, oa⟩ := hx.str
    obtain rfl := hy.int
    subst ea
    have hm : c ∈ a.cps.toList := by
      unfold atI at e1
      obtain ⟨j, _, e2⟩ := Option.bind_eq_some_iff.mp e1
      exact List.mem_of_getElem? e2
    exact ix_str ve se pins s σ H _ _ v u Q I rx ry ⟨a, _, c, rfl, rfl, by rw [len_list, ← line_eq]; exact hl, e1, q _ (rep_sign (okS_mem oa hm))⟩ hsub
  · obtain ⟨a, vs, rfl, ga, fa, ra⟩ := hx.tup hs
    obtain rfl := hy.int
    obtain ⟨w, e1, rw1⟩ := atI_get ra e
    exact ix_tup ve se pins s σ H _ _ v u Q I rx ry ⟨a, vs, _, w, rfl, rfl, ga, e1, q _ rw1⟩ hsub
  · obtain ⟨a, vs, rfl, ga, ra⟩ := hx.list hs
    obtain rfl := hy.int
    obtain ⟨w, e1, rw1⟩ := atI_get ra e
    exact ix_list ve se pins s σ H _ _ v u Q I rx ry ⟨a, vs, _, w, rfl, rfl, ga, e1, q _ rw1⟩ hsub
theorem cut_reps {K : Fg} {F : Hp} {vs : List V} {ds : List D} (r : Reps K F vs ds) (lo hi : Option Int) : Reps K F (cutV vs lo hi) (cut ds lo hi) := by
  unfold cutV cut
  rw [r.length]
  exact Reps.take _ (Reps.drop _ r)
def rSl (K : Fg) : V → Option Int → Option Int → Hp → VK → Prop := fun x lo hi H Q => ∃ F dx w, Same F H ∧ Rdb K F H x dx ∧ slD dx lo hi = some w ∧ Res K F H w Q
theorem cut_whole {xs : List V} {lo hi : Option Int} (h : HT.sIx xs.length 0 lo = 0 ∧ HT.sIx xs.length xs.length hi = xs.length) : cutV xs lo hi = xs := by
  unfold cutV
  rw [h.1, h.2]; simp
theorem x_sl : SlR X (rSl X.K) := by
  intro pins s σ H x v vl vu lo hi sl Q I rx hsl pl pu ⟨F, dx, w, hs, hx, e, hr⟩
  cases dx <;> simp only [slD] at e <;> first | (cases e; done) | skip
  · obtain ⟨hl, e⟩ := some_ifp e
    subst e
    obtain ⟨a, rfl, ea, oa⟩ := hx.str
    subst ea
    refine sl_str pins s σ H _ v vl vu lo hi sl Q I rx hsl pl pu ⟨a, rfl, by rw [len_list, ← line_eq]; exact hl, hr.d hs _ ?_⟩
    have e2 : (cutS a lo hi).cps.toList = cut a.cps.toList lo hi := by
      unfold cutS cut
      rw [len_list]
      simp; rfl
    rw [← e2]
    refine .str _ (okS_of fun c hc => okS_mem oa ?_)
    rw [e2] at hc
    exact List.mem_of_mem_drop (List.mem_of_mem_take hc)
  · cases e
    obtain ⟨a, vs, rfl, ga, fa, ra⟩ := hx.tup hs
    refine sl_tupA pins s σ H _ v vl vu lo hi sl Q I rx hsl pl pu ⟨a, vs, rfl, ga, fun hw => hr.d hs _ (.tup fa ?_), fun _ => hr.newT hs (cut_reps ra lo hi)⟩
    have := cut_reps ra lo hi
    rw [cut_whole hw] at this
    exact this
  · cases e
    obtain ⟨a, vs, rfl, ga, ra⟩ := hx.list hs
    exact sl_list pins s σ H _ v vl vu lo hi sl Q I rx hsl pl pu ⟨a, vs, rfl, ga, hr.newL hs (cut_reps ra lo hi)⟩
/-- truth -/
theorem x_tru {K : Fg} {F H : Hp} {x : V} {d : D} {t : Bool} (hs : Same F H) (hx : Rdb K F H x d) (e : truD d = some t) : TruV K x H t := by
  cases d <;> simp only [truD] at e <;> first | (cases e; done) | skip
  · cases e; obtain rfl := hx.non; rfl
  · cases e; obtain rfl := hx.bl; rfl
  · cases e; obtain rfl := hx.int; rfl
  · obtain ⟨hl, e⟩ := some_ifp e
    subst e
    obtain ⟨a, rfl, ea, oa⟩ := hx.str
    subst ea
    refine ⟨by rw [len_list, ← line_eq]; exact hl, ?_⟩
    rw [len_list]
    cases a.cps.toList with
    | nil => rfl
    | cons c r => simp [bne]; omega
  · cases e
    obtain ⟨a, vs, rfl, ga, fa, ra⟩ := hx.tup hs
    exact .inr (.inl ⟨vs, ga, by cases ra <;> rfl⟩)
  · cases e
    obtain ⟨a, vs, rfl, ga, ra⟩ := hx.list hs
    exact .inl ⟨vs, ga, by cases ra <;> rfl⟩

/-! ### built-in functions -/
inductive Rdbs (K : Fg) (F H : Hp) : List V → List D → Prop
  | nil : Rdbs K F H [] []
  | cons {v : V} {vs : List V} {d : D} {ds : List D} : Rdb K F H v d → Rdbs K F H vs ds → Rdbs K F H (v :: vs) (d :: ds)
def rBlt (K : Fg) (f : Blt) : List V → Hp → VK → Prop := fun xs H Q => ∃ F ds w, Same F H ∧ Rdbs K F H xs ds ∧ bltD f ds = some w ∧ Res K F H w Q
def bltVal : Blt → Value
  | .len => .builtin "len" | .int => .type "int" | .ord => .builtin "ord" | .min => .builtin "min" | .max => .builtin "max" | .tuple => .type "tuple" | .list => .type "list"
  | .all => .builtin "all" | .any => .builtin "any" | .sum => .builtin "sum" | .sorted => .builtin "sorted"
theorem Rdbs.one {K : Fg} {F H : Hp} {xs : List V} {d : D} (h : Rdbs K F H xs [d]) : ∃ x, xs = [x] ∧ Rdb K F H x d := by
  cases h with
  | cons a b => cases b; exact ⟨_, rfl, a⟩
theorem Rdbs.two {K : Fg} {F H : Hp} {xs : List V} {d e : D} (h : Rdbs K F H xs [d, e]) : ∃ x y, xs = [x, y] ∧ Rdb K F H x d ∧ Rdb K F H y e := by
  cases h with
  | cons a b =>
    obtain ⟨y, rfl, b1⟩ := b.one
    exact ⟨_, _, rfl, a, b1⟩
theorem bools_vs {K : Fg} {F : Hp} : ∀ {vs : List V} {ds : List D} {bs : List Bool}, Reps K F vs ds → bools? ds = some bs → vs = bs.map V.bl
  | _, _, _, .nil, e => by simp [bools?] at e; subst e; rfl
  | _, _, bs, .cons (d := d) (ds := ds) a b, e => by
    cases a with
    | bl i =>
      simp only [bools?, Option.map_eq_some_iff] at e
      obtain ⟨ms, e1, rfl⟩ := e
      rw [bools_vs b e1]; rfl
    | _ => simp [bools?] at e
theorem minL_mem : ∀ (r : List Int) (m : Int), minL m r = m ∨ minL m r ∈ r
  | [], m => .inl rfl
  | x :: r, m => by
    unfold minL
    rcases minL_mem r (if x < m then x else m) with h | h
    · rw [h]; split
      · exact .inr List.mem_cons_self
      · exact .inl rfl
    · exact .inr (List.mem_cons_of_mem _ h)
theorem minL_le : ∀ (r : List Int) (m : Int), minL m r ≤ m ∧ ∀ y ∈ r, minL m r ≤ y
  | [], m => ⟨Int.le_refl _, by simp⟩
  | x :: r, m => by
    unfold minL
    obtain ⟨h1, h2⟩ := minL_le r (if x < m then x else m)
    have h3 : (if x < m then x else m) ≤ m ∧ (if x < m then x else m) ≤ x := by split <;> omega
    refine ⟨by omega, fun y hy => ?_⟩
    rcases List.mem_cons.mp hy with rfl | hy
    · omega
    · exact h2 y hy
theorem maxL_mem : ∀ (r : List Int) (m : Int), maxL m r = m ∨ maxL m r ∈ r
  | [], m => .inl rfl
  | x :: r, m => by
    unfold maxL
    rcases maxL_mem r (if m < x then x else m) with h | h
    · rw [h]; split
      · exact .inr List.mem_cons_self
      · exact .inl rfl
    · exact .inr (List.mem_cons_of_mem _ h)
theorem maxL_le : ∀ (r : List Int) (m : Int), m ≤ maxL m r ∧ ∀ y ∈ r, y ≤ maxL m r
  | [], m => ⟨Int.le_refl _, by simp⟩
  | x :: r, m => by
    unfold maxL
    obtain ⟨h1, h2⟩ := maxL_le r (if m < x then x else m)
    have h3 : m ≤ (if m < x then x else m) ∧ x ≤ (if m < x then x else m) := by split <;> omega
    refine ⟨by omega, fun y hy => ?_⟩
    rcases List.mem_cons.mp hy with rfl | hy
    · omega
    · exact h2 y hy
theorem d1 {f : Blt} {ds : List D} {w : Vl} (e : bltD f ds = some w) (h : f ≠ .min ∧ f ≠ .max) : ∃ d, ds = [d] ∧ blt1 f d = some w := by
  rcases ds with _ | ⟨d, _ | ⟨d2, _ | ⟨d3, r⟩⟩⟩
  · cases e
  · exact ⟨d, rfl, e⟩
  · cases f <;> first | exact absurd rfl h.1 | exact absurd rfl h.2 | (cases e)
  · cases e
theorem d2 {f : Blt} {ds : List D} {w : Vl} (e : bltD f ds = some w) : (∃ d, ds = [d] ∧ blt1 f d = some w) ∨ ∃ d d', ds = [d, d'] ∧ blt2 f d d' = some w := by
  rcases ds with _ | ⟨d, _ | ⟨d2, _ | ⟨d3, r⟩⟩⟩
  · cases e
  · exact .inl ⟨d, rfl, e⟩
  · exact .inr ⟨d, d2, rfl, e⟩
  · cases e
theorem b_len : CallR X (.builtin "len") (rBlt X.K .len) := by
  intro pins s σ H xs us Q I r ⟨F, ds, w, hs, hxs, e, hr⟩
  obtain ⟨d, rfl, e0⟩ := d1 e (by decide)
  replace e := e0
  obtain ⟨x, rfl, hx⟩ := hxs.one
  cases d <;> first | (cases e; done) | simp only [blt1] at e
  · obtain ⟨hl, e⟩ := some_ifp e
    subst e
    obtain ⟨a, rfl, ea, oa⟩ := hx.str
    subst ea
    have hl' : a.length ≤ sizeLine := by rw [len_list, ← line_eq]; exact hl
    refine call_len pins s σ H _ us Q I r ⟨_, a.length, rfl, ⟨hl', rfl⟩, ?_⟩
    rw [len_list]; exact hr.d hs _ (.int _)
  · cases e
    obtain ⟨a, vs, rfl, ga, fa, ra⟩ := hx.tup hs
    refine call_len pins s σ H _ us Q I r ⟨_, vs.length, rfl, .inr ⟨vs, ga, rfl⟩, ?_⟩
    rw [ra.length]; exact hr.d hs _ (.int _)
  · cases e
    obtain ⟨a, vs, rfl, ga, ra⟩ := hx.list hs
    refine call_len pins s σ H _ us Q I r ⟨_, vs.length, rfl, .inl ⟨vs, ga, rfl⟩, ?_⟩
    rw [ra.length]; exact hr.d hs _ (.int _)
theorem b_int : CallR X (.type "int") (rBlt X.K .int) := by
  intro pins s σ H xs us Q I r ⟨F, ds, w, hs, hxs, e, hr⟩
  obtain ⟨d, rfl, e0⟩ := d1 e (by decide)
  replace e := e0
  obtain ⟨x, rfl, hx⟩ := hxs.one
  cases d <;> first | (cases e; done) | simp only [blt1] at e
  · cases e
    obtain rfl := hx.bl
    exact call_int1 pins s σ H _ us Q I r (.inr ⟨_, rfl, hr.d hs _ (.int _)⟩)
  · cases e
    obtain rfl := hx.int
    exact call_int1 pins s σ H _ us Q I r (.inl ⟨_, rfl, hr.d hs _ (.int _)⟩)
theorem b_ord : CallR X (.builtin "ord") (rBlt X.K .ord) := by
  intro pins s σ H xs us Q I r ⟨F, ds, w, hs, hxs, e, hr⟩
  obtain ⟨d, rfl, e0⟩ := d1 e (by decide)
  replace e := e0
  obtain ⟨x, rfl, hx⟩ := hxs.one
  cases d with
  | str l =>
    rcases l with _ | ⟨c, _ | ⟨c2, l⟩⟩
    · cases e
    · cases e
      obtain ⟨a, rfl, ea, oa⟩ := hx.str
      rw [str_one ea] at r
      exact call_ord pins s σ H _ us Q I r ⟨_, rfl, rfl, hr.d hs _ (.int _)⟩
    · cases e
  | _ => cases e
theorem b_min (hc : X.calm = true) : CallR X (.builtin "min") (rBlt X.K .min) := by
  intro pins s σ H xs us Q I r ⟨F, ds, w, hs, hxs, e, hr⟩
  rcases d2 e with ⟨d, rfl, e0⟩ | ⟨d, d', rfl, e0⟩ <;> replace e := e0
  · obtain ⟨x, rfl, hx⟩ := hxs.one
    cases d <;> first | (cases e; done) | simp only [blt1] at e
    obtain ⟨a, vs, rfl, ga, ra⟩ := hx.list hs
    split at e
    · rename_i i l ei
      cases e
      rw [ints_vs ra ei] at ga
      refine cr_min hc pins s σ H _ us Q I r ⟨a, _, rfl, ga, by simp, fun m hm hle => ?_⟩
      have em : m = minL i l := by
        have h1 := minL_le l i
        have h2 : m ≤ minL i l := by
          rcases minL_mem l i with h | h
          · rw [h]; exact hle i List.mem_cons_self
          · exact hle _ (List.mem_cons_of_mem _ h)
        rcases List.mem_cons.mp hm with h | h
        · omega
        · have := h1.2 m h; omega
      rw [em]; exact hr.d hs _ (.int _)
    · cases e
  · obtain ⟨x, y, rfl, hx, hy⟩ := hxs.two
    cases d <;> first | (cases e; done) | skip
    · cases d' <;> first | (cases e; done) | skip
      cases e
      obtain rfl := hx.int
      obtain rfl := hy.int
      exact call_min2 hc pins s σ H _ us Q I r ⟨_, _, rfl, hr.d hs _ (.int _)⟩
theorem b_max (hc : X.calm = true) : CallR X (.builtin "max") (rBlt X.K .max) := by
  intro pins s σ H xs us Q I r ⟨F, ds, w, hs, hxs, e, hr⟩
  rcases d2 e with ⟨d, rfl, e0⟩ | ⟨d, d', rfl, e0⟩ <;> replace e := e0
  · obtain ⟨x, rfl, hx⟩ := hxs.one
    cases d <;> first | (cases e; done) | simp only [blt1] at e
    obtain ⟨a, vs, rfl, ga, ra⟩ := hx.list hs
    split at e
    · rename_i i l ei
      cases e
      rw [ints_vs ra ei] at ga
      refine cr_max hc pins s σ H _ us Q I r ⟨a, _, rfl, ga, by simp, fun m hm hle => ?_⟩
      have em : m = maxL i l := by
        have h1 := maxL_le l i
        have h2 : maxL i l ≤ m := by
          rcases maxL_mem l i with h | h
          · rw [h]; exact hle i List.mem_cons_self
          · exact hle _ (List.mem_cons_of_mem _ h)
        rcases List.mem_cons.mp hm with h | h
        · omega
        · have := h1.2 m h; omega
      rw [em]; exact hr.d hs _ (.int _)
    · cases e
  · obtain ⟨x, y, rfl, hx, hy⟩ := hxs.two
    cases d <;> first | (cases e; done) | skip
    · cases d' <;> first | (cases e; done) | skip
      cases e
      obtain rfl := hx.int
      obtain rfl := hy.int
      exact call_max2 hc pins s σ H _ us Q I r ⟨_, _, rfl, hr.d hs _ (.int _)⟩
theorem b_tuple : CallR X (.type "tuple") (rBlt X.K .tuple) := by
  intro pins s σ H xs us Q I r ⟨F, ds, w, hs, hxs, e, hr⟩
  obtain ⟨d, rfl, e0⟩ := d1 e (by decide)
  replace e := e0
  obtain ⟨x, rfl, hx⟩ := hxs.one
  cases d <;> first | (cases e; done) | simp only [blt1] at e
  · cases e
    obtain ⟨a, vs, rfl, ga, fa, ra⟩ := hx.tup hs
    exact call_tuple_of pins s σ H _ us Q I r ⟨a, vs, rfl, .inr ⟨ga, hr.d hs _ (.tup fa ra)⟩⟩
  · cases e
    obtain ⟨a, vs, rfl, ga, ra⟩ := hx.list hs
    exact call_tuple_of pins s σ H _ us Q I r ⟨a, vs, rfl, .inl ⟨ga, hr.newT hs ra⟩⟩
theorem b_list : CallR X (.type "list") (rBlt X.K .list) := by
  intro pins s σ H xs us Q I r ⟨F, ds, w, hs, hxs, e, hr⟩
  obtain ⟨d, rfl, e0⟩ := d1 e (by decide)
  replace e := e0
  obtain ⟨x, rfl, hx⟩ := hxs.one
  cases d <;> first | (cases e; done) | simp only [blt1] at e
  · cases e
    obtain ⟨a, vs, rfl, ga, fa, ra⟩ := hx.tup hs
    exact call_list_of pins s σ H _ us Q I r ⟨a, vs, rfl, .inr ga, hr.newL hs ra⟩
  · cases e
    obtain ⟨a, vs, rfl, ga, ra⟩ := hx.list hs
    exact call_list_of pins s σ H _ us Q I r ⟨a, vs, rfl, .inl ga, hr.newL hs ra⟩
theorem b_all (hc : X.calm = true) : CallR X (.builtin "all") (rBlt X.K .all) := by
  intro pins s σ H xs us Q I r ⟨F, ds, w, hs, hxs, e, hr⟩
  obtain ⟨d, rfl, e0⟩ := d1 e (by decide)
  replace e := e0
  obtain ⟨x, rfl, hx⟩ := hxs.one
  cases d <;> first | (cases e; done) | simp only [blt1] at e
  obtain ⟨bs, e1, rfl⟩ := Option.map_eq_some_iff.mp e
  obtain ⟨a, vs, rfl, ga, ra⟩ := hx.list hs
  rw [bools_vs ra e1] at ga
  exact cr_all hc pins s σ H _ us Q I r ⟨a, bs, rfl, ga, hr.d hs _ (.bl _)⟩
theorem b_any (hc : X.calm = true) : CallR X (.builtin "any") (rBlt X.K .any) := by
  intro pins s σ H xs us Q I r ⟨F, ds, w, hs, hxs, e, hr⟩
  obtain ⟨d, rfl, e0⟩ := d1 e (by decide)
  replace e := e0
  obtain ⟨x, rfl, hx⟩ := hxs.one
  cases d <;> first | (cases e; done) | simp only [blt1] at e
  obtain ⟨bs, e1, rfl⟩ := Option.map_eq_some_iff.mp e
  obtain ⟨a, vs, rfl, ga, ra⟩ := hx.list hs
  rw [bools_vs ra e1] at ga
  exact cr_any hc pins s σ H _ us Q I r ⟨a, bs, rfl, ga, hr.d hs _ (.bl _)⟩
theorem b_sum (hc : X.calm = true) : CallR X (.builtin "sum") (rBlt X.K .sum) := by
  intro pins s σ H xs us Q I r ⟨F, ds, w, hs, hxs, e, hr⟩
  obtain ⟨d, rfl, e0⟩ := d1 e (by decide)
  replace e := e0
  obtain ⟨x, rfl, hx⟩ := hxs.one
  cases d <;> first | (cases e; done) | simp only [blt1] at e
  obtain ⟨ns, e1, rfl⟩ := Option.map_eq_some_iff.mp e
  obtain ⟨a, vs, rfl, ga, ra⟩ := hx.list hs
  rw [ints_vs ra e1] at ga
  exact cr_sum hc pins s σ H _ us Q I r ⟨a, ns, rfl, ga, hr.d hs _ (.int _)⟩
theorem insI_perm (x : Int) : ∀ l, (insI x l).Perm (x :: l)
  | [] => .refl _
  | y :: r => by
    unfold insI
    split
    · exact .refl _
    · exact ((insI_perm x r).cons y).trans (.swap x y r)
theorem sortI_perm : ∀ l, (sortI l).Perm l
  | [] => .refl _
  | x :: r => (insI_perm x _).trans ((sortI_perm r).cons x)
theorem insI_sorted (x : Int) : ∀ l, l.Pairwise (· ≤ ·) → (insI x l).Pairwise (· ≤ ·)
  | [], _ => List.pairwise_singleton _ _
  | y :: r, h => by
    unfold insI
    have h2 := List.pairwise_cons.mp h
    split
    · rename_i hxy
      refine List.pairwise_cons.mpr ⟨fun z hz => ?_, h⟩
      rcases List.mem_cons.mp hz with rfl | hz
      · exact hxy
      · have := h2.1 z hz; omega
    · rename_i hxy
      refine List.pairwise_cons.mpr ⟨fun z hz => ?_, insI_sorted x r h2.2⟩
      rcases List.mem_cons.mp ((insI_perm x r).mem_iff.mp hz) with rfl | hz
      · omega
      · exact h2.1 z hz
theorem sortI_sorted : ∀ l, (sortI l).Pairwise (· ≤ ·)
  | [] => .nil
  | x :: r => insI_sorted x _ (sortI_sorted r)
theorem sorted_uniq {a b : List Int} (h : a.Perm b) (ha : a.Pairwise (· ≤ ·)) (hb : b.Pairwise (· ≤ ·)) : a = b :=
  h.eq_of_pairwise (fun x y _ _ h1 h2 => Int.le_antisymm h1 h2) ha hb
theorem ints_rep {K : Fg} {F : Hp} : ∀ ns : List Int, Reps K F (ns.map V.int) (ns.map D.int)
  | [] => .nil
  | n :: r => .cons (.int n) (ints_rep r)
theorem b_sorted : CallR X (.builtin "sorted") (rBlt X.K .sorted) := by
  intro pins s σ H xs us Q I r ⟨F, ds, w, hs, hxs, e, hr⟩
  obtain ⟨d, rfl, e0⟩ := d1 e (by decide)
  replace e := e0
  obtain ⟨x, rfl, hx⟩ := hxs.one
  cases d <;> first | (cases e; done) | simp only [blt1] at e
  obtain ⟨ns, e1, rfl⟩ := Option.map_eq_some_iff.mp e
  obtain ⟨a, vs, rfl, ga, ra⟩ := hx.list hs
  rw [ints_vs ra e1] at ga
  refine cr_sortedI pins s σ H _ us Q I r ⟨a, ns, rfl, ga, fun ns' p hp hsr hn => ?_⟩
  rw [sorted_uniq (hp.trans (sortI_perm ns).symm) hsr (sortI_sorted ns)]
  exact hr.newL hs (ints_rep _) p hn
/-- isinstance -/
def tyVal : Ty → String
  | .int => "int" | .bool => "bool" | .str => "str" | .tup => "tuple" | .lst => "list"
def rIsiE (K : Fg) (t : Ty) : List V → Hp → VK → Prop := fun xs H Q => ∃ F x d b, xs = [x, .ty (tyVal t)] ∧ Same F H ∧ Rdb K F H x d ∧ isiD d t = some b ∧ Q (.bl b) H
theorem b_isi {t : Ty} : CallR X (.builtin "isinstance") (rIsiE X.K t) := by
  intro pins s σ H xs us Q I r h
  obtain ⟨F, x, d, b, rfl, hs, hx, e, q⟩ := h
  have go : ∀ (y : V) (n : String), TyX X.K H y (.type n) → Vals [y, .ty (tyVal t)] us → kitB n (tyVal t) = some b → wpAny (model X.prog X.w) X.A (call (.builtin "isinstance") us) (EP X pins σ Q) X.xe s :=
    fun y n h r k => call_isi pins s σ H [y, .ty (tyVal t)] us Q I r ⟨y, .ty (tyVal t), .type n, .type (tyVal t), b, rfl, .ty _, h, kit_ty k, q⟩
  cases d <;> first | (cases t <;> cases e; done) | skip
  · obtain rfl := hx.non
    refine go _ _ (.base .non) r ?_
    cases t <;> cases e <;> decide +kernel
  · obtain rfl := hx.bl
    refine go _ _ (.base (.bl _)) r ?_
    cases t <;> cases e <;> decide +kernel
  · obtain rfl := hx.int
    refine go _ _ (.base (.int _)) r ?_
    cases t <;> cases e <;> decide +kernel
  · obtain ⟨a, rfl, _, _⟩ := hx.str
    refine go _ _ (.base (.str _)) r ?_
    cases t <;> cases e <;> decide +kernel
  · obtain ⟨a, vs, rfl, ga, fa, ra⟩ := hx.tup hs
    have ht : TyX X.K H (.ref a) (.type "tuple") := by
      rcases ga with (ga | ⟨o, ga⟩) | ⟨o, its, n, k1, k2, _⟩
      · exact .base (.tup ga)
      · exact .fTuple ga
      · exact .kTuple k1 k2
    refine go _ _ ht r ?_
    cases t <;> cases e <;> decide +kernel
  · obtain ⟨a, vs, rfl, ga, ra⟩ := hx.list hs
    have ht : TyX X.K H (.ref a) (.type "list") := by
      rcases ga with (ga | ⟨o, ga⟩) | ⟨o, its, n, k1, k2, _⟩
      · exact .base (.lst ga)
      · exact .base (.frz ga)
      · exact .kList k1 k2
    refine go _ _ ht r ?_
    cases t <;> cases e <;> decide +kernel
end
end Ev
end
section
set_option maxRecDepth 100000
set_option maxHeartbeats 1000000
/-! Ev5b: a tuple turned round. -/
namespace Ev
open PySem L2 PyProof.Rows
section
variable {prog : Program} {w : World} {A : Around} {E : Value → Shared → Prop} {s : Shared}
theorem adjust_rev (n : Nat) : Builtin.Slice.sliceAdjust none none (-1) (n : Int) = ((n : Int) - 1, -1) := by
  have h1 : ((-1 : Int) < 0) := by omega
  unfold Builtin.Slice.sliceAdjust
  simp only [h1, if_true]
theorem places_rev (n : Nat) : Builtin.Slice.slicePlaces ((n : Int) - 1) (-1) (-1) = n := by
  unfold Builtin.Slice.slicePlaces
  have h1 : ¬ ((-1 : Int) > 0) := by omega
  simp only [h1, if_false]
  have h2 : (-(-1 : Int)) = 1 := by omega
  rw [h2, Int.ediv_one]
  split <;> omega
theorem fm_map {α β : Type} {f : α → Option β} {g : α → β} : ∀ l : List α, (∀ m ∈ l, f m = some (g m)) → l.filterMap f = l.map g
  | [], _ => rfl
  | x :: l, h => by
    rw [List.filterMap_cons, h x List.mem_cons_self, List.map_cons, fm_map l fun m hm => h m (List.mem_cons_of_mem _ hm)]
theorem pick_rev (xs : Array Value) : ((List.range xs.size).filterMap fun (m : Nat) => xs[(((xs.size : Nat) : Int) - 1 + (m : Int) * -1).toNat]?).toArray = xs.toList.reverse.toArray := by
  congr 1
  apply List.ext_getElem?
  intro i
  have e : (List.range xs.size).filterMap (fun (m : Nat) => xs[(((xs.size : Nat) : Int) - 1 + (m : Int) * -1).toNat]?) = (List.range xs.size).map fun m => xs.toList.reverse.getD m default := by
    refine fm_map _ fun m hm => ?_
    have hm := List.mem_range.mp hm
    have e1 : (((xs.size : Nat) : Int) - 1 + (m : Int) * -1).toNat = xs.size - 1 - m := by omega
    have h2 : xs.size - 1 - m < xs.size := by omega
    rw [e1, Array.getElem?_eq_getElem h2]
    have h3 : m < xs.toList.reverse.length := by simpa using hm
    simp only [List.getD_eq_getElem?_getD]
    rw [List.getElem?_eq_getElem h3, List.getElem_reverse]
    simp
  rw [e, List.getElem?_map]
  by_cases hi : i < xs.size
  · have h3 : i < xs.toList.reverse.length := by simpa using hi
    rw [List.getElem?_range hi, List.getElem?_eq_getElem h3]
    simp only [Option.map_some, List.getD_eq_getElem?_getD, List.getElem?_eq_getElem h3, Option.getD_some]
  · rw [List.getElem?_eq_none (by simp; omega), List.getElem?_eq_none (by simp; omega)]
    rfl
theorem sliceApplied_rev {sl : Addr} {vl vu vs : Value} {n : Nat} {Q : Int × Int × Nat → Shared → Prop} (hs : s.heap.IsSliceOf sl vl vu vs) (pl : IsPart vl none) (pu : IsPart vu none) (ps : IsPart vs (some (-1)))
    (h : Q ((n : Int) - 1, -1, n) s) : wpAny (model prog w) A (Builtin.Slice.sliceApplied (.ref sl) (pure (n : Int))) Q E s := by
  obtain ⟨os, hos, hcs, hds⟩ := id hs
  unfold Builtin.Slice.sliceApplied Builtin.Slice.sliceFields
  refine wpAny_bind (wpAny_bind (wpAny_field hos hds (x := vl) rfl (wpAny_bind (wpAny_field hos hds (x := vu) rfl (wpAny_bind (wpAny_field hos hds (x := vs) rfl (wpAny_pure ?_)))))))
  refine wpAny_bind (HT.slicePart_ ps ?_)
  show wpAny _ _ (if ((-1 : Int) == 0) = true then _ else _) _ _ s
  rw [if_neg (by decide)]
  refine wpAny_bind (HT.slicePart_ pl (wpAny_bind (HT.slicePart_ pu (wpAny_bind (wpAny_pure ?_)))))
  show wpAny _ _ (match Builtin.Slice.sliceAdjust none none (-1) (n : Int) with | (lo, hi) => pure (lo, (-1 : Int), Builtin.Slice.slicePlaces lo hi (-1))) _ _ s
  rw [adjust_rev n]
  show wpAny _ _ (pure ((n : Int) - 1, (-1 : Int), Builtin.Slice.slicePlaces ((n : Int) - 1) (-1) (-1))) _ _ s
  rw [places_rev]
  exact wpAny_pure h
theorem getItem_tuple_rev {t sl : Addr} {items : Array Value} {vl vu vs : Value} {Q : Value → Shared → Prop} (ht : IsTup s.heap t items) (hs : s.heap.IsSliceOf sl vl vu vs) (pl : IsPart vl none) (pu : IsPart vu none) (ps : IsPart vs (some (-1)))
    (h : Q (.ref s.heap.objs.size) { s with heap := s.heap.push { cls := .type "tuple", data := .seq items.toList.reverse.toArray } })
    (hsz : items.size ≤ sizeLine) : wpAny (model prog w) A (getItem (.ref t) (.ref sl)) Q E s := by
  have htake : sizeOk (.seq items.toList.reverse.toArray) := by
    show items.toList.reverse.toArray.size ≤ sizeLine
    rw [List.size_toArray, List.length_reverse, Array.length_toList]
    exact hsz
  obtain ⟨os, hos, hcs, hds⟩ := id hs
  have hTs : s.TypeIs (.ref sl) "slice" := ⟨os, hos, hcs⟩
  unfold getItem
  try with_reducible refine wpAny_holding ?_
  first | refine wpAny_bind (wpAny_pure ?_) | skip
  refine wpAny_bind (wpAny_sequenceKey ht.typeIs (by decide) ?_)
  refine wpAny_bind (wpAny_callSpecial?_slot (name := Str.ofString "__getitem__") ht.typeIs PyProof.Rows.slot_tuple_getitem
    (wpAny_call_entry PyProof.Rows.slot_tuple_getitem ht.typeIs entry_tuple_getitem ?_ (args_tuple_getitem _ _)))
  show wpAny _ _ (Builtin.Tuple.tupleItemsOf (.ref t) >>= _) _ _ s
  refine wpAny_bind (tupleItemsOf_ ht ?_)
  refine wpAny_bind (wpAny_typeOf hTs ?_)
  rw [if_pos (by decide)]
  refine wpAny_bind (sliceApplied_rev hs pl pu ps ?_)
  have hno : ¬ ((((items.size : Int) - 1) == 0 && (-1 : Int) == 1 && items.size == items.size) = true) := by
    intro q
    rw [Bool.and_eq_true, Bool.and_eq_true] at q
    exact absurd q.1.2 (by decide)
  show wpAny _ _ (if (((items.size : Int) - 1) == 0 && (-1 : Int) == 1 && items.size == items.size) = true then _ else _) _ _ s
  rw [if_neg hno, pick_rev]
  first
    | exact wpAny_bind (m := Builtin.Tuple.tupleExact _) (wpAny_newObj_type (wpAny_pure ⟨_, rfl, wpAny_pure h⟩) htake)
    | exact wpAny_bind (m := Builtin.Tuple.tupleExact _) (wpAny_newObj_type (wpAny_bind (wpAny_pure (wpAny_pure ⟨_, rfl, wpAny_pure h⟩))) htake)
    | exact wpAny_bind (wpAny_bind (m := Builtin.Tuple.tupleExact _) (wpAny_newObj_type (wpAny_pure (wpAny_pure ⟨_, rfl, wpAny_pure h⟩)) htake))
    | exact wpAny_bind (wpAny_bind (m := Builtin.Tuple.tupleExact _) (wpAny_newObj_type (wpAny_pure ⟨_, rfl, wpAny_pure h⟩) htake))
end
section
variable {X : Cx}
/-- t[::-1] -/
def tRevT (K : PySem.W.Frag) (te : TE) : TE := fun σ H Q => te σ H fun x H1 => ∃ a xs, x = .ref a ∧ SqT K H1 a xs ∧ ∀ p, H1 p = none → Q (.ref p) (upd H1 p (.tup xs.reverse))
theorem pe_revT {e : Expr} {te : TE} {k : Nat} {p1 p2 p3 pos : Pos} (he : PE X e te) : PE X (.Subscript e (.Slice none none (some (.UnaryOp .USub (.Constant (.int 1) k p1) p2)) p3) pos) (tRevT X.K te) := by
  refine ⟨fun pins s σ H Q I h => ?_⟩
  refine Subscript_ (thn (he.run pins s σ H _ I h) fun v s1 ⟨x, H1, I1, r1, q1⟩ => ?_)
  obtain ⟨a, xs, ex, hx, q⟩ := q1
  subst ex
  cases r1
  have hst : PO X (some (.UnaryOp .USub (.Constant (.int 1) k p1) p2)) (tPart (tUn (rU fun i => .int (-i)) (tC (.int 1)))) := po_some (pe_un un_neg pe_int)
  refine wpAny_Slice (thn (po_none.run pins s1 σ H1 (fun o H2 => o = none ∧ H2 = H1) I1 ⟨rfl, rfl⟩) fun vl s2 ⟨l, H2, I2, pl, el, e2⟩ => ?_)
  subst el e2
  refine thn (po_none.run pins s2 σ H2 (fun o H3 => o = none ∧ H3 = H2) I2 ⟨rfl, rfl⟩) fun vu s3 ⟨u, H3, I3, pu, eu, e3⟩ => ?_
  subst eu e3
  refine thn (hst.run pins s3 σ H3 (fun o H4 => o = some (-1) ∧ H4 = H3) I3 ⟨1, rfl, -1, rfl, rfl, rfl⟩) fun vs s4 ⟨o, H4, I4, ps, eo, e4⟩ => ?_
  subst eo e4
  have I5 : Inv X pins σ H4 { s4 with heap := s4.heap.push { cls := .type "slice", data := .fields #[vl, vu, vs] } } := I4.kept (t' := s4.toks) fun b ob q => Heap.get?_push_of_some _ q
  obtain ⟨its, r, ht, hz⟩ := I5.tuple hx
  have hlen := r.length
  show wpAny (model X.prog X.w) X.A (subscriptTail e (.Slice none none (some (.UnaryOp .USub (.Constant (.int 1) k p1) p2)) p3) (.ref a) (.ref s4.heap.objs.size)) (EP X pins σ Q) X.xe { s4 with heap := s4.heap.push { cls := .type "slice", data := .fields #[vl, vu, vs] } }
  refine tail_any (ops := [.ref a, .ref s4.heap.objs.size]) ht.typeIs PyProof.Rows.slot_tuple_getitem.lookup ?_ (by with_unfolding_all rfl)
  refine getItem_tuple_rev ht (Heap.IsSliceOf.new _ vl vu vs) pl pu ps ?_ (by rw [List.size_toArray]; omega)
  refine ⟨.ref _, _, I5.laid (t' := s4.toks) (o := .tup xs.reverse) (fun b ob q => Heap.get?_push_of_some _ q) (Nat.le_refl _) ?_, rfl, q _ (I5.hok.fresh (Nat.le_refl _))⟩
  exact ⟨by rw [List.length_reverse]; exact hz, _, r.reverse, IsTup.new _ _⟩
end
end Ev
end
section
set_option maxRecDepth 100000
set_option maxHeartbeats 1000000
/-! Ev6: expressions keep what the readings say. -/
namespace Ev
open PySem L2

def ResX (K : Fg) (F H : Hp) (x : Xc) (E : XK) : Prop :=
  ∀ cls d F' H', Same H H' → Same F F' → Same F' H' → (∀ a o, F' a = some o → F a = some o ∨ H a = none) → XOk K F' H' cls d x → E cls d H'
/-- a function's promise -/
def spC (K : Fg) (call : CallT) (g : Nat) : Sp := fun vs H Q E => ∃ F ds s, Same F H ∧ Reps K F vs ds ∧ (match call g ds s with
  | .st => False
  | .ok v _ => Res K F H v.vl Q
  | .ex x _ => ResX K F H x E)
structure FOk (L : Lk) (call : CallT) (X : Cx) (g : Nat) : Prop where
  ok : ∃ f fd ps k, FnOk X.prog X.w X.K X.mg X.base (L2.CX X.prog X.w) k f fd ps (spC X.K call g) ∧ Room k X.A ∧ X.mg (L.fn g) = some (.ref f) ∧ PySem.W.keepIn X.K (.ref f) = true ∧ Binds X.K fd ps []
structure Fns (L : Lk) (P : Pg) (call : CallT) (X : Cx) : Prop where
  fns : ∀ g, L.hf g = true → FOk L call X g

section
variable {K : Fg} {W : WX} {σ : L2.St} {F H F₁ H₁ F' H' : Hp} {c c₁ c' : C} {α : Nat → Addr} {ρ ρ' : List Sl}
/-- a step that only makes -/
theorem Wf.res (w : Wf K F H σ ρ α) (hs : Same H H') (fs : Same F F') (s' : Same F' H') (new : ∀ a o, F' a = some o → F a = some o ∨ H a = none) : Wf K F' H' σ ρ α ∧ Tr K ρ ρ α F H F' H' := by
  refine ⟨⟨s', w.len, fun i => ?_, w.inj⟩, ⟨hs, fs, fun a o q => (new a o q).elim .inl fun z => .inr (.inl z), fun _ _ q => q, fun _ _ q => .inl q⟩⟩
  have k := w.slot i
  cases e : getS ρ i with
  | no => trivial
  | dat x =>
    rw [e] at k
    obtain ⟨v, k1, k2⟩ := k
    exact ⟨v, k1, k2.mono fs⟩
  | own x =>
    rw [e] at k
    obtain ⟨k1, k2, k3⟩ := k
    obtain ⟨o, q⟩ := k3.there
    refine ⟨k1, ?_, k3.mono fs (by rw [q]; exact hs _ _ q)⟩
    cases z : F' (α i) with
    | none => rfl
    | some p =>
      rcases new _ p z with y | y
      · rw [k2] at y; cases y
      · rw [q] at y; cases y
theorem ROk.vok {u : V} {v : Vl} {H₀ : Hp} (hs : Same H₀ H) (h : ROk K F' H' H u v) : VOk K H₀ F' H' σ ρ α u v := by
  cases v with
  | d x => exact h
  | tmp x =>
    obtain ⟨a, e, h0, hf, ho⟩ := h
    exact ⟨a, e, hs.free h0, hf, ho⟩
  | bor i x => exact False.elim h
theorem res_of {Q : VK} {v : Vl} (p : PV K σ F H c α Q v c₁) (w : Wf K F₁ H₁ σ c₁.env α) (t : Tr K c.env c₁.env α F H F₁ H₁) : Res K F₁ H₁ v Q := by
  intro u F' H' hs fs s' new r
  obtain ⟨w', t'⟩ := w.res hs fs s' new
  exact p u F' H' w' (t.trans t') (r.vok t.same)
/-- a sub-expression, from a state on the way -/
theorem sn {r : C → R Vl} {β : Type} {k : Vl → C → R β} {okP : β → C → Prop} {R' : V → Hp → Prop} (w : Wf K F₁ H₁ σ c₁.env α) (t : Tr K c.env c₁.env α F H F₁ H₁)
    (h : WpR ((r c₁).bind k) okP (PX K W σ F H c α))
    (go : ∀ v c₂ u F₂ H₂, Wf K F₂ H₂ σ c₂.env α → Tr K c₁.env c₂.env α F₁ H₁ F₂ H₂ → VOk K H₁ F₂ H₂ σ c₂.env α u v → WpR (k v c₂) okP (PX K W σ F H c α) → R' u H₂) :
    tV K W r σ H₁ R' :=
  ⟨F₁, c₁, α, w, h.bind.mono (fun v c₂ hk u F₂ H₂ w₂ t₂ v₂ => go v c₂ u F₂ H₂ w₂ t₂ v₂ hk) fun _ _ hq => hq.on t⟩
theorem snT {r : C → R Bool} {β : Type} {k : Bool → C → R β} {okP : β → C → Prop} {R' : Bool → Hp → Prop} (w : Wf K F₁ H₁ σ c₁.env α) (t : Tr K c.env c₁.env α F H F₁ H₁)
    (h : WpR ((r c₁).bind k) okP (PX K W σ F H c α))
    (go : ∀ b c₂ F₂ H₂, Wf K F₂ H₂ σ c₂.env α → Tr K c₁.env c₂.env α F₁ H₁ F₂ H₂ → WpR (k b c₂) okP (PX K W σ F H c α) → R' b H₂) :
    tTt K W r σ H₁ R' :=
  ⟨F₁, c₁, α, w, h.bind.mono (fun b c₂ hk F₂ H₂ w₂ t₂ => go b c₂ F₂ H₂ w₂ t₂ hk) fun _ _ hq => hq.on t⟩
theorem VOk.on {u : V} {v : Vl} (w : Wf K F H σ c.env α) (t : Tr K c.env c₁.env α F H F₁ H₁) (w₁ : Wf K F₁ H₁ σ c₁.env α) (t₁ : Tr K c₁.env c'.env α F₁ H₁ F' H') (h : VOk K H F₁ H₁ σ c₁.env α u v) : VOk K H F' H' σ c'.env α u v :=
  h.step w₁ t.same (cells w t) t₁
/-- the rest, from a state on the way -/
theorem rest {r : C → R Vl} {Q : VK} (w : Wf K F₁ H₁ σ c₁.env α) (t : Tr K c.env c₁.env α F H F₁ H₁) (h : WpR (r c₁) (PV K σ F H c α Q) (PX K W σ F H c α)) : tV K W r σ H₁ Q :=
  ⟨F₁, c₁, α, w, h.mono (fun v c₂ p u F₂ H₂ w₂ t₂ v₂ => p u F₂ H₂ w₂ (t.trans t₂) (by
    cases v with
    | d x => exact v₂
    | tmp x =>
      obtain ⟨a, e, h0, hf, ho⟩ := v₂
      exact ⟨a, e, t.same.free h0, hf, ho⟩
    | bor i x => exact v₂)) fun _ _ hq => hq.on t⟩
theorem restT {r : C → R Bool} {Q : Bool → Hp → Prop} (w : Wf K F₁ H₁ σ c₁.env α) (t : Tr K c.env c₁.env α F H F₁ H₁) (h : WpR (r c₁) (PB K σ F H c α Q) (PX K W σ F H c α)) : tTt K W r σ H₁ Q :=
  ⟨F₁, c₁, α, w, h.mono (fun v c₂ p F₂ H₂ w₂ t₂ => p F₂ H₂ w₂ (t.trans t₂)) fun _ _ hq => hq.on t⟩
end

section
variable {X : Cx} {W : WX} {L : Lk} {P : Pg} {call : CallT} {a b d : Expr} {ra rb rd : C → R Vl} {pos : Pos}
theorem vis_of {sc : Scope} {x : PySem.Str} (h : visB sc x = true) : Vis sc x := by
  unfold visB at h
  unfold Vis
  split at h <;> simp_all
theorem loc_of {sc : Scope} {x : PySem.Str} (h : locB sc x = true) : L2.Loc sc x := by
  unfold locB at h
  unfold L2.Loc
  split at h <;> simp_all
theorem gl_of {x : PySem.Str} (h : glB X.env.scope x = true) : Gl X x ∧ (x == ("__debug__" : PySem.Str)) = false ∧ x ≠ "__name__" := by
  unfold glB at h
  simp only [Bool.and_eq_true, decide_eq_true_eq, Bool.not_eq_true'] at h
  refine ⟨?_, h.1.2, h.2⟩
  have q := h.1.1
  unfold Gl Env.kindOf
  split at q <;> simp_all
theorem e_var {i : Nat} {x : PySem.Str} (h : varB X.N X.env.scope i x = true) : PE X (.Name x pos) (tV X.K W (rdV i)) := by
  unfold varB at h
  simp only [Bool.and_eq_true, decide_eq_true_eq, Bool.not_eq_true'] at h
  refine pe_mono (pe_var (i := i) h.1.1.1 (vis_of h.1.1.2) h.1.2 h.2) fun σ H Q ⟨F, c, α, w, hw⟩ => ?_
  unfold rdV C.get at hw
  have k := w.slot i
  cases e : getS c.env i with
  | no => rw [e] at hw; exact False.elim hw
  | dat x =>
    rw [e] at hw k
    obtain ⟨v, k1, k2⟩ := k
    exact ⟨v, k1, hw v F H w .refl k2⟩
  | own x =>
    rw [e] at hw k
    obtain ⟨k1, k2, k3⟩ := k
    exact ⟨_, k1, hw _ F H w .refl ⟨rfl, k1, .inl e⟩⟩
theorem e_con {e : Expr} {v : V} {dd : D} (h : PE X e (tC v)) (r : ∀ F, Rep X.K F v dd) : PE X e (tV X.K W fun c => .ok (.d dd) c) :=
  pe_mono h fun σ H Q ⟨F, c, α, w, hw⟩ => hw v F H w .refl (r F)
theorem e_str {x : PySem.Str} {l : List Nat} {k : Nat} (h1 : x.cps.toList = l) (h2 : okS x = true) : PE X (.Constant (.str x) k pos) (tV X.K W fun c => .ok (.d (.str l)) c) := by
  subst h1
  exact e_con pe_str fun F => .str x h2
theorem e_glob (hy : Hyp L P call W X) {g : Nat} {x : PySem.Str} (h : glB X.env.scope x = true) (hc : L.hc g x = true) : PE X (.Name x pos) (tV X.K W fun c => ofO ((P.cs g).map Vl.d) c) := by
  obtain ⟨h1, h2, _⟩ := gl_of h
  cases q : P.cs g with
  | none => exact ⟨fun pins s σ H Q I ⟨F, c, α, w, hw⟩ => False.elim hw⟩
  | some dd =>
    obtain ⟨u, v, m1, m2, m3⟩ := hy.consts g dd x hc q
    exact e_con (pe_glob h1 m1 m2 h2) m3
theorem e_bin {o : BOp} {p : Operator} (hp : bopOk o p = true) (ha : PE X a (tV X.K W ra)) (hb : PE X b (tV X.K W rb)) :
    PE X (.BinOp a p b pos) (tV X.K W fun c => (ra c).bind fun v c => (rb c).bind fun u c => ofO (binD o v.rd u.rd) c) := by
  refine pe_mono (pe_op (o_bin hp) ha hb) fun σ H Q ⟨F, c, α, w, hw⟩ => ?_
  refine sn w .refl hw fun v c1 u1 F1 H1 w1 t1 v1 h1 => ?_
  refine sn w1 t1 h1 fun v' c2 u2 F2 H2 w2 t2 v2 h2 => ?_
  obtain ⟨z, e, hz⟩ := h2.ofO
  exact ⟨F2, _, _, z, w2.sub, (v1.on w t1 w1 t2).rdb w2, v2.rdb w2, e, res_of hz w2 (t1.trans t2)⟩
theorem e_neg (ha : PE X a (tV X.K W ra)) : PE X (.UnaryOp .USub a pos) (tV X.K W fun c => (ra c).bind fun v c => match v.rd with
    | .int i => .ok (.d (.int (-i))) c
    | _ => .st) := by
  refine pe_mono (pe_un un_neg ha) fun σ H Q ⟨F, c, α, w, hw⟩ => ?_
  refine sn w .refl hw fun v c1 u1 F1 H1 w1 t1 v1 h1 => ?_
  have q := v1.rdb w1
  cases e : v.rd with
  | int i =>
    rw [e] at h1 q
    exact ⟨i, q.int, h1 _ F1 H1 w1 t1 (.int _)⟩
  | _ => rw [e] at h1; exact False.elim h1
theorem no_set {b : Expr} {op : CmpOp} (h : ∀ x y z, b ≠ .Set x y z) : behindInMarks op b = false := by
  cases b <;> first | rfl | exact absurd rfl (h _ _ _)
theorem c2 {o : COp} {Q : V → Hp → Prop} {β : Type} {σ : L2.St} {F H : Hp} {c : C} {α : Nat → Addr} {k : Option Bool → C → R β} {okP : β → C → Prop} (w : Wf X.K F H σ c.env α)
    (hw : WpR ((ra c).bind fun v c => (rb c).bind fun u c => k (cmpD o v.rd u.rd) c) okP (PX X.K W σ F H c α))
    (go : ∀ z c2 F2 H2, Wf X.K F2 H2 σ c2.env α → Tr X.K c.env c2.env α F H F2 H2 → WpR (k z c2) okP (PX X.K W σ F H c α) → ∃ t, z = some t ∧ Q (.bl t) H2) : tOp (rCmp X.K o) (tV X.K W ra) (tV X.K W rb) σ H Q := by
  refine sn w .refl hw fun v c1 u1 F1 H1 w1 t1 v1 h1 => ?_
  refine sn w1 t1 h1 fun v' c2 u2 F2 H2 w2 t2 v2 h2 => ?_
  obtain ⟨t, e, q⟩ := go _ c2 F2 H2 w2 (t1.trans t2) h2
  exact ⟨F2, _, _, t, w2.sub, (v1.on w t1 w1 t2).rdb w2, v2.rdb w2, e, q⟩
theorem e_cmp (hy : Hyp L P call W X) {o : COp} {p : CmpOp} (hp : copOk o p = true) (hm : ∀ x y z, b ≠ .Set x y z) (ha : PE X a (tV X.K W ra)) (hb : PE X b (tV X.K W rb)) :
    PE X (.Compare a [p] [b] pos) (tV X.K W fun c => (ra c).bind fun v c => (rb c).bind fun u c => ofO ((cmpD o v.rd u.rd).map fun t => .d (.bl t)) c) := by
  refine pe_mono (pe_cmpR (o_cmp hy.units hp) ha hb (no_set hm)) fun σ H Q ⟨F, c, α, w, hw⟩ => ?_
  refine c2 (k := fun z c => ofO (z.map fun t => Vl.d (.bl t)) c) w hw fun z c2 F2 H2 w2 t2 h2 => ?_
  obtain ⟨y, e, q⟩ := h2.ofO
  obtain ⟨t, e1, rfl⟩ := Option.map_eq_some_iff.mp e
  exact ⟨t, e1, q _ F2 H2 w2 t2 (.bl _)⟩
theorem t_cmp (hy : Hyp L P call W X) {o : COp} {p : CmpOp} (hp : copOk o p = true) (hm : ∀ x y z, b ≠ .Set x y z) (ha : PE X a (tV X.K W ra)) (hb : PE X b (tV X.K W rb)) :
    PT X (.Compare a [p] [b] pos) (tTt X.K W fun c => (ra c).bind fun v c => (rb c).bind fun u c => ofO (cmpD o v.rd u.rd) c) := by
  refine pt_mono (pt_cmpR (o_cmp hy.units hp) ha hb (no_set hm)) fun σ H Q ⟨F, c, α, w, hw⟩ => ?_
  refine c2 (k := fun z c => ofO z c) w hw fun z c2 F2 H2 w2 t2 h2 => ?_
  obtain ⟨y, e, q⟩ := h2.ofO
  exact ⟨y, e, y, rfl, q F2 H2 w2 t2⟩
theorem c3 {o p : COp} {Q : V → Hp → Prop} {β : Type} {σ : L2.St} {F H : Hp} {c : C} {α : Nat → Addr} {kt : Bool → β} {okP : β → C → Prop} (w : Wf X.K F H σ c.env α)
    (hw : WpR ((ra c).bind fun v c => (rb c).bind fun u c => (ofO (cmpD o v.rd u.rd) c).bind fun t c => if t then (rd c).bind fun z c => ofO ((cmpD p u.rd z.rd).map kt) c else .ok (kt false) c) okP (PX X.K W σ F H c α))
    (go : ∀ t c2 F2 H2, Wf X.K F2 H2 σ c2.env α → Tr X.K c.env c2.env α F H F2 H2 → okP (kt t) c2 → Q (.bl t) H2) : tChain (rCmp X.K o) (rCmp X.K p) (tV X.K W ra) (tV X.K W rb) (tV X.K W rd) σ H Q := by
  refine sn w .refl hw fun v c1 u1 F1 H1 w1 t1 v1 h1 => ?_
  refine sn w1 t1 h1 fun v' c2 u2 F2 H2 w2 t2 v2 h2 => ?_
  obtain ⟨t, e, q⟩ := h2.bind.ofO
  refine ⟨F2, _, _, t, w2.sub, (v1.on w t1 w1 t2).rdb w2, v2.rdb w2, e, t, rfl, ?_⟩
  cases t with
  | false =>
    simp only [Bool.false_eq_true, if_false] at q ⊢
    exact go _ c2 F2 H2 w2 (t1.trans t2) q
  | true =>
    simp only [if_true] at q ⊢
    refine sn w2 (t1.trans t2) q fun z c3 u3 F3 H3 w3 t3 v3 h3 => ?_
    obtain ⟨y, e3, q3⟩ := h3.ofO
    obtain ⟨t', e4, rfl⟩ := Option.map_eq_some_iff.mp e3
    have v2' : VOk X.K H F2 H2 σ c2.env α u2 v' := by
      cases v' with
      | d x => exact v2
      | tmp x =>
        obtain ⟨a, e, h0, hf, ho⟩ := v2
        exact ⟨a, e, t1.same.free h0, hf, ho⟩
      | bor i x => exact v2
    exact ⟨F3, _, _, t', w3.sub, (v2'.on w (t1.trans t2) w2 t3).rdb w3, v3.rdb w3, e4, go _ c3 F3 H3 w3 ((t1.trans t2).trans t3) q3⟩
theorem e_chain (hy : Hyp L P call W X) {o o' : COp} {p p' : CmpOp} (hp : copOk o p = true) (hp' : copOk o' p' = true) (hm : ∀ x y z, d ≠ .Set x y z) (ha : PE X a (tV X.K W ra)) (hb : PE X b (tV X.K W rb)) (hd : PE X d (tV X.K W rd)) :
    PE X (.Compare a [p, p'] [b, d] pos) (tV X.K W fun c => (ra c).bind fun v c => (rb c).bind fun u c => (ofO (cmpD o v.rd u.rd) c).bind fun t c =>
      if t then (rd c).bind fun z c => ofO ((cmpD o' u.rd z.rd).map fun t => .d (.bl t)) c else .ok (.d (.bl false)) c) := by
  refine pe_mono (pe_chain (o_cmp hy.units hp) (o_cmp hy.units hp') ha hb hd (no_set hm)) fun σ H Q ⟨F, c, α, w, hw⟩ => ?_
  exact c3 (kt := fun t => Vl.d (.bl t)) (okP := PV X.K σ F H c α Q) w hw fun t c2 F2 H2 w2 t2 q => q _ F2 H2 w2 t2 (.bl _)
theorem opt_id {α : Type} (o : Option α) : o.map (fun t => t) = o := by cases o <;> rfl
theorem t_chain (hy : Hyp L P call W X) {o o' : COp} {p p' : CmpOp} (hp : copOk o p = true) (hp' : copOk o' p' = true) (hm : ∀ x y z, d ≠ .Set x y z) (ha : PE X a (tV X.K W ra)) (hb : PE X b (tV X.K W rb)) (hd : PE X d (tV X.K W rd)) :
    PT X (.Compare a [p, p'] [b, d] pos) (tTt X.K W fun c => (ra c).bind fun v c => (rb c).bind fun u c => (ofO (cmpD o v.rd u.rd) c).bind fun t c =>
      if t then (rd c).bind fun z c => ofO (cmpD o' u.rd z.rd) c else .ok false c) := by
  refine pt_mono (pt_chain (o_cmp hy.units hp) (o_cmp hy.units hp') ha hb hd (no_set hm)) fun σ H Q ⟨F, c, α, w, hw⟩ => ?_
  show tChain _ _ _ _ _ σ H fun x H1 => ∃ k, x = .bl k ∧ Q k H1
  refine c3 (kt := fun t => t) (okP := PB X.K σ F H c α Q) w (by simpa only [opt_id] using hw) fun t c2 F2 H2 w2 t2 q => ⟨t, rfl, q F2 H2 w2 t2⟩
/-! and, or, not -/
theorem e_one {op : BoolOp} {r : C → R Vl} (h : PE X a (tV X.K W r)) : PE X (.BoolOp op [a] pos) (tV X.K W r) := pe_one h
variable {rs : List Expr}
theorem e_and (ha : PE X a (tV X.K W ra)) (hb : PE X (.BoolOp .And (b :: rs) pos) (tV X.K W rb)) :
    PE X (.BoolOp .And (a :: b :: rs) pos) (tV X.K W fun c => (ra c).bind fun v c => match v.rd with
    | .bl true => rb c
    | .bl false => .ok (.d (.bl false)) c
    | _ => .st) := by
  refine pe_mono (pe_and ha hb) fun σ H Q ⟨F, c, α, w, hw⟩ => ?_
  refine sn w .refl hw fun v c1 u1 F1 H1 w1 t1 v1 h1 => ?_
  have q := v1.rdb w1
  cases e : v.rd with
  | bl t =>
    rw [e] at h1 q
    refine ⟨t, q.bl, ?_⟩
    cases t with
    | true => exact rest w1 t1 h1
    | false => exact h1 _ F1 H1 w1 t1 (.bl _)
  | _ => rw [e] at h1; exact False.elim h1
theorem e_or (ha : PE X a (tV X.K W ra)) (hb : PE X (.BoolOp .Or (b :: rs) pos) (tV X.K W rb)) :
    PE X (.BoolOp .Or (a :: b :: rs) pos) (tV X.K W fun c => (ra c).bind fun v c => match v.rd with
    | .bl true => .ok (.d (.bl true)) c
    | .bl false => rb c
    | _ => .st) := by
  refine pe_mono (pe_or ha hb) fun σ H Q ⟨F, c, α, w, hw⟩ => ?_
  refine sn w .refl hw fun v c1 u1 F1 H1 w1 t1 v1 h1 => ?_
  have q := v1.rdb w1
  cases e : v.rd with
  | bl t =>
    rw [e] at h1 q
    refine ⟨t, q.bl, ?_⟩
    cases t with
    | false => exact rest w1 t1 h1
    | true => exact h1 _ F1 H1 w1 t1 (.bl _)
  | _ => rw [e] at h1; exact False.elim h1
theorem e_not (ha : PE X a (tV X.K W ra)) : PE X (.UnaryOp .Not a pos) (tV X.K W fun c => (ra c).bind fun v c => match v.rd with
    | .bl t => .ok (.d (.bl !t)) c
    | _ => .st) := by
  refine pe_mono (pe_not ha) fun σ H Q ⟨F, c, α, w, hw⟩ => ?_
  refine sn w .refl hw fun v c1 u1 F1 H1 w1 t1 v1 h1 => ?_
  have q := v1.rdb w1
  cases e : v.rd with
  | bl t =>
    rw [e] at h1 q
    exact ⟨t, q.bl, h1 _ F1 H1 w1 t1 (.bl _)⟩
  | _ => rw [e] at h1; exact False.elim h1
variable {qa qb qd : C → R Bool}
theorem t_one {op : BoolOp} (h : PT X a (tTt X.K W qa)) : PT X (.BoolOp op [a] pos) (tTt X.K W qa) := by
  cases op with
  | And => exact (pw_and1 h).pt
  | Or => exact (pw_or1 h).pt
theorem w_and1 (ha : PT X a (tTt X.K W qa)) : PW X (.BoolOp .And [a] pos) (tTt X.K W qa) := pw_and1 ha
theorem w_or1 (ha : PT X a (tTt X.K W qa)) : PW X (.BoolOp .Or [a] pos) (tTt X.K W qa) := pw_or1 ha
theorem pw_mono {X : Cx} {e : Expr} {t t' : TT} (h : PW X e t) (m : ∀ σ H Q, t' σ H Q → t σ H Q) : PW X e t' := ⟨fun wh pins s σ H Q I q => h.run wh pins s σ H Q I (m σ H Q q)⟩
theorem w_and (ha : PT X a (tTt X.K W qa)) (hb : PW X (.BoolOp .And (b :: rs) pos) (tTt X.K W qb)) :
    PW X (.BoolOp .And (a :: b :: rs) pos) (tTt X.K W fun c => (qa c).bind fun t c => if t then qb c else .ok false c) := by
  refine pw_mono (pw_and ha hb) fun σ H Q ⟨F, c, α, w, hw⟩ => ?_
  refine snT w .refl hw fun t c1 F1 H1 w1 t1 h1 => ?_
  cases t with
  | true => exact restT w1 t1 h1
  | false => exact h1 F1 H1 w1 t1
theorem w_or (ha : PT X a (tTt X.K W qa)) (hb : PW X (.BoolOp .Or (b :: rs) pos) (tTt X.K W qb)) :
    PW X (.BoolOp .Or (a :: b :: rs) pos) (tTt X.K W fun c => (qa c).bind fun t c => if t then .ok true c else qb c) := by
  refine pw_mono (pw_or ha hb) fun σ H Q ⟨F, c, α, w, hw⟩ => ?_
  refine snT w .refl hw fun t c1 F1 H1 w1 t1 h1 => ?_
  cases t with
  | false => exact restT w1 t1 h1
  | true => exact h1 F1 H1 w1 t1
theorem t_not (ha : PT X a (tTt X.K W qa)) : PT X (.UnaryOp .Not a pos) (tTt X.K W fun c => (qa c).bind fun t c => .ok (!t) c) := by
  refine pt_mono (pt_not ha) fun σ H Q ⟨F, c, α, w, hw⟩ => ?_
  exact snT w .refl hw fun t c1 F1 H1 w1 t1 h1 => h1 F1 H1 w1 t1
theorem e_ite (hc : PT X d (tTt X.K W qd)) (ha : PE X a (tV X.K W ra)) (hb : PE X b (tV X.K W rb)) :
    PE X (.IfExp d a b pos) (tV X.K W fun c => (qd c).bind fun t c => if t then ra c else rb c) := by
  refine pe_mono (pe_ifExp hc ha hb) fun σ H Q ⟨F, c, α, w, hw⟩ => ?_
  refine snT w .refl hw fun t c1 F1 H1 w1 t1 h1 => ?_
  cases t with
  | true => exact rest w1 t1 h1
  | false => exact rest w1 t1 h1
/-- a list -/
theorem e_isl (ha : PE X a (tV X.K W ra)) : PE X a (tV X.K W fun c => (ra c).bind kIsl) := by
  refine pe_mono ha fun σ H Q ⟨F, c, α, w, hw⟩ => ?_
  refine ⟨F, c, α, w, hw.bind.mono (fun v c1 h => ?_) fun _ _ q => q⟩
  unfold kIsl at h
  cases e : v.rd <;> rw [e] at h <;> first | exact h | exact False.elim h
/-- a or b, by truth -/
theorem e_orv (ha : PE X a (tV X.K W ra)) (hb : PE X (.BoolOp .Or (b :: rs) pos) (tV X.K W rb)) :
    PE X (.BoolOp .Or (a :: b :: rs) pos) (tV X.K W fun c => (ra c).bind fun v c => (ofO (truD v.rd) c).bind fun t c => if t then .ok v c else rb c) := by
  refine pe_mono (pe_orT ha hb) fun σ H Q ⟨F, c, α, w, hw⟩ => ?_
  refine sn w .refl hw fun v c1 u1 F1 H1 w1 t1 v1 h1 => ?_
  obtain ⟨t, e, q⟩ := h1.bind.ofO
  refine ⟨t, x_tru w1.sub (v1.rdb w1) e, ?_⟩
  cases t with
  | true => exact q u1 F1 H1 w1 t1 v1
  | false => exact rest w1 t1 q
/-- a value as a test -/
theorem t_val {e : Expr} {r : C → R Vl} (h : PE X e (tV X.K W r)) (he : ∀ whole, isTrue e X.env whole = (do let v ← whole; standAt e.pos; holding [v] (truthy v))) : PT X e (tTt X.K W fun c => (r c).bind asB) := by
  refine pt_mono (pt_truth h he) fun σ H Q ⟨F, c, α, w, hw⟩ => ?_
  refine sn w .refl hw fun v c1 u1 F1 H1 w1 t1 v1 h1 => ?_
  obtain ⟨t, e, q⟩ := h1.ofO
  exact ⟨t, x_tru w1.sub (v1.rdb w1) e, q F1 H1 w1 t1⟩

/-! ### arguments, displays -/
theorem VOk.base {K : Fg} {H₀ H₁ F H : Hp} {σ : L2.St} {ρ : List Sl} {α : Nat → Addr} {u : V} {v : Vl} (hs : Same H₀ H₁) (h : VOk K H₁ F H σ ρ α u v) : VOk K H₀ F H σ ρ α u v := by
  cases v with
  | d x => exact h
  | tmp x =>
    obtain ⟨a, e, h0, hf, ho⟩ := h
    exact ⟨a, e, hs.free h0, hf, ho⟩
  | bor i x => exact h
theorem VsOk.base {K : Fg} {H₀ H₁ F H : Hp} {σ : L2.St} {ρ : List Sl} {α : Nat → Addr} (hs : Same H₀ H₁) : ∀ {us : List V} {vs : List Vl}, VsOk K H₁ F H σ ρ α us vs → VsOk K H₀ F H σ ρ α us vs
  | [], [], _ => trivial
  | _ :: _, _ :: _, ⟨a, b, c⟩ => ⟨a.base hs, b.base hs, c⟩
theorem tmps_fresh {K : Fg} {H₀ F H : Hp} {σ : L2.St} {ρ : List Sl} {α : Nat → Addr} {u : V} : ∀ {us : List V} {vs : List Vl}, VsOk K H₀ F H σ ρ α us vs → u ∈ tmpsOf us vs → ∃ a, u = .ref a ∧ H₀ a = none
  | [], [], _, h => by simp [tmpsOf] at h
  | w :: us, v :: vs, ⟨a, b, c⟩, h => by
    cases v with
    | tmp x =>
      rcases List.mem_cons.mp h with rfl | h
      · obtain ⟨p, e, h0, _⟩ := a
        exact ⟨p, e, h0⟩
      · exact tmps_fresh b h
    | d x => exact tmps_fresh b h
    | bor i x => exact tmps_fresh b h
variable {es : List Expr} {rs' : C → R (List Vl)}
theorem a_nil : PA X [] (tVs X.K W fun c => .ok [] c) := pa_mono pa_nil fun σ H Q ⟨F, c, α, w, hw⟩ => hw [] F H w .refl trivial
theorem a_cons {e : Expr} (he : ∀ x y, e ≠ .Starred x y) (ha : PE X e (tV X.K W ra)) (hr : PA X es (tVs X.K W rs')) :
    PA X (e :: es) (tVs X.K W fun c => (ra c).bind fun v c => (rs' c).bind fun vs c => .ok (v :: vs) c) := by
  have hst : starEach (e :: es) X.env = (false, eval e X.env) :: starEach es X.env := by
    cases e <;> first | rfl | exact absurd rfl (he _ _)
  refine pa_mono (pa_cons ha hr hst) fun σ H Q ⟨F, c, α, w, hw⟩ => ?_
  refine sn w .refl hw fun v c1 u1 F1 H1 w1 t1 v1 h1 => ?_
  refine ⟨F1, c1, α, w1, h1.bind.mono (fun vs c2 hk us F2 H2 w2 t2 vs2 => ?_) fun _ _ hq => hq.on t1⟩
  refine hk _ F2 H2 w2 (t1.trans t2) ⟨v1.on w t1 w1 t2, vs2.base t1.same, fun x e hm => ?_⟩
  subst e
  obtain ⟨a, e1, h0, hf, ho⟩ := v1
  obtain ⟨o, q⟩ := ho.there
  obtain ⟨p, e2, h2⟩ := tmps_fresh vs2 hm
  rw [e1] at e2
  cases e2
  rw [q] at h2; cases h2
/-- all at hand are frozen -/
theorem all_frozen {σ : L2.St} {F H F₁ H₁ : Hp} {c c₁ : C} {α : Nat → Addr} {us : List V} {vs : List Vl} (w : Wf X.K F H σ c.env α) (t : Tr X.K c.env c₁.env α F H F₁ H₁) (w₁ : Wf X.K F₁ H₁ σ c₁.env α) (h : VsOk X.K H F₁ H₁ σ c₁.env α us vs) :
    ∃ F₂, Wf X.K F₂ H₁ σ (frzs vs c₁).env α ∧ Reps X.K F₂ us (vs.map Vl.rd) ∧ Tr X.K c.env (frzs vs c₁).env α F H F₂ H₁ ∧ Same F₁ F₂ ∧ (∀ a o, F₂ a = some o → F₁ a = some o ∨ H a = none ∨ ∃ i x, getS c₁.env i = .own x ∧ a = α i) := by
  obtain ⟨F₂, z⟩ := freezes c₁.sto w₁ (cells w t) h
  refine ⟨F₂, z.wf, z.rep, ⟨t.same, t.sub.trans z.sub, fun a o q => ?_, fun i x q => t.back i x (z.back i x q), fun i x q => ?_⟩, z.sub, z.new⟩
  · rcases z.new a o q with q | q | ⟨i, x, q, e⟩
    · exact t.new a o q
    · exact .inr (.inl q)
    · exact .inr (.inr ⟨i, x, t.back i x q, e⟩)
  · rcases t.keep i x q with q | q
    · exact z.keep i x q
    · exact .inr ⟨q.1.mono z.sub, fun y p => q.2 y (z.back i y p)⟩
theorem WpR.imp {α : Type} {r : R α} {p p' : α → C → Prop} {q q' : Xc → C → Prop} (h : WpR r p q) (hp : ∀ a c, r = .ok a c → p a c → p' a c) (hq : ∀ x c, q x c → q' x c) : WpR r p' q' := by
  cases r with
  | st => exact h
  | ok a c => exact hp _ _ rfl h
  | ex x c => exact hq _ _ h
/-- the arguments are short -/
def Short (r : C → R (List Vl)) : Prop := ∀ c vs c', r c = .ok vs c' → vs.length ≤ 1000
theorem small (n : Nat) (h : n ≤ 1000) : n ≤ sizeLine := by rw [PySem.sizeLine_eq]; omega
theorem e_tup {x1} (hl : Short rs') (h : PA X es (tVs X.K W rs')) : PE X (.Tuple es x1 pos) (tV X.K W fun c => (rs' c).bind fun vs c => .ok (.d (.tup (vs.map Vl.rd))) (frzs vs c)) := by
  refine pe_mono (pe_tup h) fun σ H Q ⟨F, c, α, w, hw⟩ => ?_
  refine ⟨F, c, α, w, hw.bind.imp (fun vs c1 e hk us F1 H1 w1 t1 v1 => ?_) fun _ _ hq => hq⟩
  obtain ⟨F2, w2, r2, t2, _⟩ := all_frozen w t1 w1 v1
  exact ⟨small _ (by rw [v1.length]; exact hl _ _ _ e), (res_of hk w2 t2).newT w2.sub r2⟩
theorem e_lst (hl : Short rs') (h : PA X es (tVs X.K W rs')) : PE X (.List es pos) (tV X.K W fun c => (rs' c).bind fun vs c => .ok (.tmp (.lst (vs.map Vl.rd))) (frzs vs c)) := by
  refine pe_mono (pe_lst h) fun σ H Q ⟨F, c, α, w, hw⟩ => ?_
  refine ⟨F, c, α, w, hw.bind.imp (fun vs c1 e hk us F1 H1 w1 t1 v1 => ?_) fun _ _ hq => hq⟩
  obtain ⟨F2, w2, r2, t2, _⟩ := all_frozen w t1 w1 v1
  exact ⟨small _ (by rw [v1.length]; exact hl _ _ _ e), (res_of hk w2 t2).newL w2.sub r2⟩

/-! ### subscripts, slices -/
theorem e_ix (hb' : ∀ x y z, b ≠ .Slice x y none z) (ha : PE X a (tV X.K W ra)) (hb : PE X b (tV X.K W rb)) :
    PE X (.Subscript a b pos) (tV X.K W fun c => (ra c).bind fun v c => (rb c).bind (doIx v)) := by
  have hp : PlainIx b := fun o i => by
    cases b <;> first | rfl | skip
    rename_i x y s z
    cases s with
    | none => exact absurd rfl (hb' _ _ _)
    | some s => rfl
  refine pe_mono (pe_ix x_ix ha hb hp) fun σ H Q ⟨F, c, α, w, hw⟩ => ?_
  refine sn w .refl hw fun v c1 u1 F1 H1 w1 t1 v1 h1 => ?_
  refine sn w1 t1 h1 fun v' c2 u2 F2 H2 w2 t2 v2 h2 => ?_
  obtain ⟨z, e, hz⟩ := h2.ofO
  obtain ⟨d, e1, rfl⟩ := Option.map_eq_some_iff.mp e
  exact ⟨F2, _, _, d, w2.sub, (v1.on w t1 w1 t2).rdb w2, v2.rdb w2, e1, fun u r => (res_of hz w2 (t1.trans t2)).d w2.sub u r⟩
def tO (K : Fg) (W : WX) (r : C → R (Option Int)) : TO := fun σ H Q => ∃ F c α, Wf K F H σ c.env α ∧ WpR (r c) (PB K σ F H c α Q) (PX K W σ F H c α)
theorem po_mono {X : Cx} {e : Option Expr} {t t' : TO} (h : PO X e t) (m : ∀ σ H Q, t' σ H Q → t σ H Q) : PO X e t' := ⟨fun pins s σ H Q I q => h.run pins s σ H Q I (m σ H Q q)⟩
theorem p_none : PO X none (tO X.K W fun c => .ok none c) := po_mono po_none fun σ H Q ⟨F, c, α, w, hw⟩ => hw F H w .refl
theorem p_some (ha : PE X a (tV X.K W ra)) : PO X (some a) (tO X.K W fun c => (ra c).bind fun v c => match v.rd with
    | .int i => .ok (some i) c
    | _ => .st) := by
  refine po_mono (po_some ha) fun σ H Q ⟨F, c, α, w, hw⟩ => ?_
  refine sn w .refl hw fun v c1 u1 F1 H1 w1 t1 v1 h1 => ?_
  have q := v1.rdb w1
  cases e : v.rd with
  | int i =>
    rw [e] at h1 q
    exact ⟨i, q.int, h1 F1 H1 w1 t1⟩
  | _ => rw [e] at h1; exact False.elim h1
theorem snO {K : Fg} {σ : L2.St} {F H F₁ H₁ : Hp} {c c₁ : C} {α : Nat → Addr} {r : C → R (Option Int)} {β : Type} {k : Option Int → C → R β} {okP : β → C → Prop} {R' : Option Int → Hp → Prop} (w : Wf K F₁ H₁ σ c₁.env α) (t : Tr K c.env c₁.env α F H F₁ H₁)
    (h : WpR ((r c₁).bind k) okP (PX K W σ F H c α))
    (go : ∀ b c₂ F₂ H₂, Wf K F₂ H₂ σ c₂.env α → Tr K c₁.env c₂.env α F₁ H₁ F₂ H₂ → WpR (k b c₂) okP (PX K W σ F H c α) → R' b H₂) :
    tO K W r σ H₁ R' :=
  ⟨F₁, c₁, α, w, h.bind.mono (fun b c₂ hk F₂ H₂ w₂ t₂ => go b c₂ F₂ H₂ w₂ t₂ hk) fun _ _ hq => hq.on t⟩
theorem e_sl {lo hi : Option Expr} {rl rh : C → R (Option Int)} {p2 : Pos} (ha : PE X a (tV X.K W ra)) (hl : PO X lo (tO X.K W rl)) (hh : PO X hi (tO X.K W rh)) :
    PE X (.Subscript a (.Slice lo hi none p2) pos) (tV X.K W fun c => (ra c).bind fun v c => (rl c).bind fun l c => (rh c).bind fun h c => ofO (slD v.rd l h) c) := by
  refine pe_mono (pe_slice x_sl ha hl hh) fun σ H Q ⟨F, c, α, w, hw⟩ => ?_
  refine sn w .refl hw fun v c1 u1 F1 H1 w1 t1 v1 h1 => ?_
  refine snO w1 t1 h1 fun l c2 F2 H2 w2 t2 h2 => ?_
  refine snO w2 (t1.trans t2) h2 fun h c3 F3 H3 w3 t3 h3 => ?_
  obtain ⟨z, e, hz⟩ := h3.ofO
  exact ⟨F3, _, z, w3.sub, (v1.on w t1 w1 (t2.trans t3)).rdb w3, e, res_of hz w3 ((t1.trans t2).trans t3)⟩
theorem e_rev {k : Nat} {p1 p2 p3 : Pos} (ha : PE X a (tV X.K W ra)) : PE X (.Subscript a (.Slice none none (some (.UnaryOp .USub (.Constant (.int 1) k p1) p2)) p3) pos) (tV X.K W fun c => (ra c).bind fun v c => match v.rd with
    | .lst xs => .ok (.tmp (.lst xs.reverse)) c
    | .tup xs => .ok (.d (.tup xs.reverse)) c
    | _ => .st) := by
  refine pe_mono (pe_or2 (pe_revL ha) (pe_revT ha)) fun σ H Q ⟨F, c, α, w, hw⟩ => ?_
  simp only at hw
  cases hr : ra c with
  | st => rw [hr] at hw; exact False.elim hw
  | ex x c' =>
    left
    refine ⟨F, c, α, w, ?_⟩
    rw [hr] at hw ⊢
    exact hw
  | ok v c1 =>
    rw [hr] at hw
    cases e : v.rd with
    | lst xs =>
      left
      refine ⟨F, c, α, w, ?_⟩
      rw [hr]
      intro u1 F1 H1 w1 t1 v1
      have q := v1.rdb w1
      have h1 : WpR ((match v.rd with
        | .lst xs => .ok (.tmp (.lst xs.reverse)) c1
        | .tup xs => .ok (.d (.tup xs.reverse)) c1
        | _ => .st) : R Vl) (PV X.K σ F H c α Q) (PX X.K W σ F H c α) := hw
      rw [e] at h1 q
      obtain ⟨l, vs, rfl, g, r⟩ := q.list w1.sub
      exact ⟨l, vs, rfl, g, (res_of h1 w1 t1).newL w1.sub r.reverse⟩
    | tup xs =>
      right
      refine ⟨F, c, α, w, ?_⟩
      rw [hr]
      intro u1 F1 H1 w1 t1 v1
      have q := v1.rdb w1
      have h1 : WpR ((match v.rd with
        | .lst xs => .ok (.tmp (.lst xs.reverse)) c1
        | .tup xs => .ok (.d (.tup xs.reverse)) c1
        | _ => .st) : R Vl) (PV X.K σ F H c α Q) (PX X.K W σ F H c α) := hw
      rw [e] at h1 q
      obtain ⟨l, vs, rfl, g, _, r⟩ := q.tup w1.sub
      exact ⟨l, vs, rfl, g, (res_of h1 w1 t1).newT w1.sub r.reverse⟩
    | _ =>
      have h1 : WpR ((match v.rd with
        | .lst xs => .ok (.tmp (.lst xs.reverse)) c1
        | .tup xs => .ok (.d (.tup xs.reverse)) c1
        | _ => .st) : R Vl) (PV X.K σ F H c α Q) (PX X.K W σ F H c α) := hw
      rw [e] at h1; exact False.elim h1

/-! ### built-in functions -/
theorem rdbs_of {σ : L2.St} {H F₁ H₁ : Hp} {ρ : List Sl} {α : Nat → Addr} (w : Wf X.K F₁ H₁ σ ρ α) : ∀ {us : List V} {vs : List Vl}, VsOk X.K H F₁ H₁ σ ρ α us vs → Rdbs X.K F₁ H₁ us (vs.map Vl.rd)
  | [], [], _ => .nil
  | _ :: _, _ :: _, ⟨a, b, _⟩ => .cons (a.rdb w) (rdbs_of w b)
theorem cb_of {f : Blt} {σ : L2.St} {H : Hp} {Q : VK} (h : tV X.K W (fun c => (rs' c).bind (doBlt f)) σ H Q) : tCB (rBlt X.K f) (tVs X.K W rs') σ H Q := by
  obtain ⟨F, c, α, w, hw⟩ := h
  refine ⟨F, c, α, w, hw.bind.mono (fun vs c1 hk us F1 H1 w1 t1 v1 => ?_) fun _ _ hq => hq⟩
  obtain ⟨z, e, hz⟩ := hk.ofO
  exact ⟨F1, _, z, w1.sub, rdbs_of w1 v1, e, res_of hz w1 t1⟩
theorem boot_of (f : Blt) : bootBuiltins (bltName f) = some (bltVal f) := by cases f <;> decide +kernel
theorem bltName_mem (f : Blt) : bltName f ∈ bltNames := by cases f <;> decide +kernel
theorem args_ok {e : Expr} (he : ∀ x y, e ≠ .Starred x y) : starEach (e :: es) X.env = (false, eval e X.env) :: starEach es X.env := by
  cases e <;> first | rfl | exact absurd rfl (he _ _)
theorem no_star : ∀ {l : List Expr}, (∀ e ∈ l, ∀ x y, e ≠ .Starred x y) → (starEach l X.env).any (·.1) = false
  | [], _ => rfl
  | e :: l, h => by
    rw [args_ok (h e List.mem_cons_self)]
    simp only [List.any_cons, Bool.false_or]
    exact no_star fun z hz => h z (List.mem_cons_of_mem _ hz)
theorem back_any (p : Pos) (l : List (Bool × Sem Value)) : (backTo p l).any (·.1) = l.any (·.1) := by
  unfold backTo
  rw [List.any_map]; rfl
theorem back_no {l : List Expr} (h : ∀ e ∈ l, ∀ x y, e ≠ .Starred x y) (p : Pos) : (backTo p (starEach l X.env)).any (·.1) = false := by rw [back_any]; exact no_star h
theorem callB {f : Blt} (hc : X.calm = true) : (∀ id, bltVal f = .builtin id → CallR X (.builtin id) (rBlt X.K f)) ∧ (∀ T, bltVal f = .type T → CallR X (.type T) (rBlt X.K f)) := by
  cases f <;> refine ⟨fun id h => ?_, fun T h => ?_⟩ <;> cases h
  · exact b_len
  · exact b_int
  · exact b_ord
  · exact b_min hc
  · exact b_max hc
  · exact b_tuple
  · exact b_list
  · exact b_all hc
  · exact b_any hc
  · exact b_sum hc
  · exact b_sorted
theorem e_blt (hy : Hyp L P call W X) {f : Blt} {x : PySem.Str} {p : Pos} {e : Expr} (hg : glB X.env.scope x = true) (hx : x = bltName f) (hst : ∀ z ∈ e :: es, ∀ x y, z ≠ .Starred x y) (ha : PA X (e :: es) (tVs X.K W rs')) :
    PE X (.Call (.Name x p) (e :: es) [] pos) (tV X.K W fun c => (rs' c).bind (doBlt f)) := by
  subst hx
  obtain ⟨h1, h2, h3⟩ := gl_of hg
  have hm := hy.blt _ (bltName_mem f)
  have hb := boot_of f
  have a1 := args_ok (X := X) (es := es) (hst e List.mem_cons_self)
  have a2 := back_no (X := X) (l := es) (fun z hz => hst z (List.mem_cons_of_mem _ hz)) pos
  cases e1 : bltVal f with
  | builtin id =>
    rw [e1] at hb
    exact pe_mono (pe_callB ((callB hy.calm).1 id e1) h1 hm hb ha h3 h2 a1 a2) fun σ H Q h => cb_of h
  | type T =>
    rw [e1] at hb
    exact pe_mono (pe_callTy ((callB hy.calm).2 T e1) h1 hm hb ha h3 h2 a1 a2) fun σ H Q h => cb_of h
  | _ => cases f <;> cases e1
theorem tyBoot (t : Ty) : bootBuiltins (tyName t) = some (.type (tyVal t)) := by cases t <;> decide +kernel
theorem tyName_mem (t : Ty) : tyName t ∈ bltNames := by cases t <;> decide +kernel
theorem e_isi (hy : Hyp L P call W X) {t : Ty} {x y : PySem.Str} {p p2 : Pos} (hst : ∀ x y, a ≠ .Starred x y) (hg : glB X.env.scope x = true) (hx : x = ("isinstance" : PySem.Str)) (hg2 : glB X.env.scope y = true) (hy2 : y = tyName t) (ha : PE X a (tV X.K W ra)) :
    PE X (.Call (.Name x p) [a, .Name y p2] [] pos) (tV X.K W fun c => (ra c).bind (doIsi t)) := by
  subst hx hy2
  obtain ⟨h1, h2, h3⟩ := gl_of hg
  obtain ⟨g1, g2, g3⟩ := gl_of hg2
  have hm := hy.blt "isinstance" (by decide +kernel)
  have hty : PE X (.Name (tyName t) p2) (tC (.ty (tyVal t))) := pe_bltn g1 (hy.blt _ (tyName_mem t)) (tyBoot t) rfl g3 g2
  refine pe_mono (pe_callB (b_isi (t := t)) h1 hm (by decide +kernel) (pa_cons ha (pa_cons hty pa_nil) (args_ok hst)) h3 h2 (args_ok hst) rfl) fun σ H Q ⟨F, c, α, w, hw⟩ => ?_
  refine sn w .refl hw fun v c1 u1 F1 H1 w1 t1 v1 h1 => ?_
  obtain ⟨z, e, hz⟩ := h1.ofO
  obtain ⟨b, e1, rfl⟩ := Option.map_eq_some_iff.mp e
  exact ⟨F1, u1, _, b, rfl, w1.sub, v1.rdb w1, e1, (res_of hz w1 t1).d w1.sub _ (.bl _)⟩

/-! ### calls -/
theorem thin_back {K : Fg} {σ : L2.St} {F₁ H₁ F₂ F' H' : Hp} {ρ : List Sl} {α : Nat → Addr} (w : Wf K F₁ H₁ σ ρ α) (s12 : Same F₁ F₂) (hs : Same H₁ H') (fs : Same F₂ F') (s' : Same F' H') :
    ∃ F'', Wf K F'' H' σ ρ α ∧ Same F₁ F'' ∧ (∀ a o, F'' a = some o → F' a = some o) ∧ LessL F' F'' ∧ (∀ a o, F'' a = some o → ∀ i x, getS ρ i = .own x → a ≠ α i) := by
  classical
  let F'' : Hp := fun a => if ∃ i x, getS ρ i = Sl.own x ∧ a = α i then none else F' a
  have e1 : ∀ a, (∃ i x, getS ρ i = Sl.own x ∧ a = α i) → F'' a = none := fun a h => if_pos h
  have e2 : ∀ a, ¬ (∃ i x, getS ρ i = Sl.own x ∧ a = α i) → F'' a = F' a := fun a h => if_neg h
  have s1 : Same F₁ F'' := fun a o q => by
    rw [e2 a]
    · exact fs _ _ (s12 _ _ q)
    · rintro ⟨i, x, h, rfl⟩
      rw [(w.cell h).2.1] at q; cases q
  have sub : ∀ a o, F'' a = some o → F' a = some o := fun a o q => by
    by_cases h : ∃ i x, getS ρ i = Sl.own x ∧ a = α i
    · rw [e1 a h] at q; cases q
    · rw [e2 a h] at q; exact q
  refine ⟨F'', ⟨fun a o q => s' _ _ (sub a o q), w.len, fun i => ?_, w.inj⟩, s1, sub, fun a o q => ?_, fun a o q i x h e => ?_⟩
  · have k := w.slot i
    cases e : getS ρ i with
    | no => trivial
    | dat x =>
      rw [e] at k
      obtain ⟨v, k1, k2⟩ := k
      exact ⟨v, k1, k2.mono s1⟩
    | own x =>
      rw [e] at k
      obtain ⟨k1, k2, k3⟩ := k
      obtain ⟨o, q⟩ := k3.there
      exact ⟨k1, e1 _ ⟨i, x, e, rfl⟩, k3.mono s1 (by rw [q]; exact hs _ _ q)⟩
  · by_cases h : ∃ i x, getS ρ i = Sl.own x ∧ a = α i
    · right
      obtain ⟨i, x, h, rfl⟩ := h
      obtain ⟨xs, vs, _, q1, _⟩ := (w.cell h).2.2.ls
      have q2 := s' _ _ q
      rw [hs _ _ q1] at q2
      cases q2; exact ⟨_, rfl⟩
    · left; rw [e2 a h]; exact q
  · rw [e1 a ⟨i, x, h, e⟩] at q; cases q
theorem free_thin {K : Fg} {F' F'' H' H : Hp} {u : V} {v : Rv} (hl : LessL F' F'') (sub : ∀ a o, F'' a = some o → F' a = some o) (h : ROk K F' H' H u v.vl) (hf : v.free = true) : ROk K F'' H' H u v.vl := by
  cases v with
  | d x => exact Rep.thin hl h hf
  | own x =>
    obtain ⟨a, e, h0, hF, ho⟩ := h
    cases x <;> first | (cases hf; done) | skip
    obtain ⟨vs, q, r⟩ := ho
    refine ⟨a, e, h0, ?_, vs, q, Reps.thin hl r hf⟩
    cases z : F'' a with
    | none => rfl
    | some o => rw [sub a o z] at hF; cases hF
/-- f(..), a function of the text -/
theorem c_call {g : Nat} {σ : L2.St} {H : Hp} {Q : VK} (h : tV X.K W (fun c => (rs' c).bind (doCall call g)) σ H Q) : tCallS (spC X.K call g) (WE W) (tVs X.K W rs') σ H Q := by
  obtain ⟨F, c, α, w, hw⟩ := h
  refine ⟨F, c, α, w, hw.bind.mono (fun vs c1 hk us F1 H1 w1 t1 v1 => ?_) fun _ _ hq => hq⟩
  obtain ⟨F2, w2, r2, t2, s12, new2⟩ := all_frozen w t1 w1 v1
  refine ⟨F2, vs.map Vl.rd, c1.sto, w2.sub, r2, ?_⟩
  unfold doCall at hk
  cases e : call g (vs.map Vl.rd) c1.sto with
  | st => rw [e] at hk; exact hk
  | ok v s =>
    rw [e] at hk
    intro u F' H' hs fs s' new r
    cases hf : v.free with
    | false =>
      have hk' : PV X.K σ F H c α Q v.vl ⟨(frzs vs c1).env, s⟩ := by simpa only [called, hf, Bool.false_eq_true, if_false, WpR] using hk
      obtain ⟨w', t'⟩ := w2.res hs fs s' new
      exact hk' u F' H' w' (t2.trans t') (r.vok t2.same)
    | true =>
      have hk' : PV X.K σ F H c α Q v.vl ⟨c1.env, s⟩ := by simpa only [called, hf, if_true, WpR] using hk
      obtain ⟨F'', w', s1, sub, less, apart⟩ := thin_back w1 s12 hs fs s'
      refine hk' u F'' H' w' ⟨t1.same.trans hs, t1.sub.trans s1, fun a o q => ?_, t1.back, fun i x q => ?_⟩ ((free_thin less sub r hf).vok t1.same)
      · rcases new a o (sub a o q) with z | z
        · rcases new2 a o z with z | z | ⟨i, x, z, e⟩
          · exact t1.new a o z
          · exact .inr (.inl z)
          · exact absurd e (apart a o q i x z)
        · exact .inr (.inl (t1.same.free z))
      · rcases t1.keep i x q with z | z
        · exact .inl z
        · exact .inr ⟨z.1.mono s1, z.2⟩
  | ex x s =>
    rw [e] at hk
    intro cls d F' H' hs fs s' new xk
    obtain ⟨w', t'⟩ := w2.res hs fs s' new
    exact hk cls d F' H' w' (t2.trans t') xk
theorem e_call (hy : Hyp L P call W X) (hF : Fns L P call X) {g : Nat} {x : PySem.Str} {p : Pos} {e : Expr} (hg : glB X.env.scope x = true) (hx : x = L.fn g) (hlt : L.hf g = true) (hst : ∀ z ∈ e :: es, ∀ x y, z ≠ .Starred x y) (ha : PA X (e :: es) (tVs X.K W rs')) :
    PE X (.Call (.Name x p) (e :: es) [] pos) (tV X.K W fun c => (rs' c).bind (doCall call g)) := by
  subst hx
  obtain ⟨h1, h2, h3⟩ := gl_of hg
  obtain ⟨f, fd, ps, k, F, hr, hm, hk, hb⟩ := (hF.fns g hlt).ok
  exact pe_mono (pe_callS (E := WE W) F hr h1 hm hk hb (fun σ => passAt hy.takes σ) ha h2 (args_ok (hst e List.mem_cons_self)) (back_no (fun z hz => hst z (List.mem_cons_of_mem _ hz)) pos)) fun σ H Q h => c_call h
theorem e_call0 (hy : Hyp L P call W X) (hF : Fns L P call X) {g : Nat} {x : PySem.Str} {p : Pos} (hg : glB X.env.scope x = true) (hx : x = L.fn g) (hlt : L.hf g = true) :
    PE X (.Call (.Name x p) [] [] pos) (tV X.K W fun c => (R.ok [] c).bind (doCall call g)) := by
  subst hx
  obtain ⟨h1, h2, h3⟩ := gl_of hg
  obtain ⟨f, fd, ps, k, F, hr, hm, hk, hb⟩ := (hF.fns g hlt).ok
  refine ⟨fun pins s σ H Q I h => ?_⟩
  obtain ⟨F0, c, α, w, hw⟩ := c_call (rs' := fun c => R.ok [] c) h
  refine wpAny_Call_Name_kw (ld_glob I h1 hm ?_ h2)
  exact PySem.W.callWith_K0 I.kIn hk (run_fnS (us := []) (E := WE W) F hr hb (passAt hy.takes σ) I .nil (hw [] F0 H w .refl trivial))
end
end Ev
end
section
set_option maxRecDepth 100000
set_option maxHeartbeats 1000000
/-! Ev6o: fields, methods, new instances. -/
namespace Ev
open PySem L2
theorem clsAt_inj {K : Fg} {g : Nat} {C D : Addr} (h : clsAt K g C) (h' : clsAt K g D) : C = D := by
  unfold clsAt at h h'
  rw [h] at h'
  cases h'; rfl
theorem zip_lookup : ∀ {ns : List PySem.Str} {vs : List V} {f : Nat} {n : PySem.Str} {v : V}, ns.Nodup → ns[f]? = some n → vs[f]? = some v → (ns.zip vs).lookup n = some v
  | [], _, _, _, _, _, h, _ => by simp at h
  | _ :: _, [], _, _, _, _, _, h => by simp at h
  | m :: ns, w :: vs, 0, n, v, hd, h1, h2 => by
    simp only [List.getElem?_cons_zero, Option.some.injEq] at h1 h2
    subst h1 h2
    simp [List.lookup]
  | m :: ns, w :: vs, f + 1, n, v, hd, h1, h2 => by
    simp only [List.getElem?_cons_succ] at h1 h2
    have hn : n ∈ ns := List.mem_of_getElem? h1
    have hm : (n == m) = false := by
      rw [beq_eq_false_iff_ne]
      rintro rfl
      exact (List.nodup_cons.mp hd).1 hn
    simp only [List.zip_cons_cons, List.lookup, hm]
    exact zip_lookup (List.nodup_cons.mp hd).2 h1 h2
theorem zip_none : ∀ {ns : List PySem.Str} {vs : List V} {m : PySem.Str}, ns.contains m = false → (ns.zip vs).lookup m = none
  | [], vs, m, _ => by cases vs <;> rfl
  | n :: ns, [], m, _ => rfl
  | n :: ns, w :: vs, m, h => by
    simp only [List.contains_cons, Bool.or_eq_false_iff] at h
    simp only [List.zip_cons_cons, List.lookup, h.1]
    exact zip_none h.2
theorem fields_nodup (g : Nat) : (clsFields g).Nodup := by
  match g with
  | 0 => decide +kernel
  | 1 => decide +kernel
  | n + 2 => exact List.nodup_nil
structure MOk (L : Lk) (call : CallT) (X : Cx) (g' g : Nat) : Prop where
  ok : ∃ C f fd ps k, KOk X.K g' C ∧ Meth X.K C (L.fn g) f ∧ FnOk X.prog X.w X.K X.mg X.base (L2.CX X.prog X.w) k f fd ps (spC X.K call g) ∧ Room k X.A ∧ Binds X.K fd ps [] ∧ (clsFields g').contains (L.fn g) = false
section
variable {X : Cx} {W : WX} {L : Lk} {P : Pg} {call : CallT} {pos apos : Pos} {a : Expr} {es : List Expr} {ra : C → R Vl} {rs' : C → R (List Vl)}
theorem base_of (h : baseOk a = true) (n : PySem.Str) (env : Env) : attributeBase a n env (eval a env) = eval a env := by
  cases a <;> first | (cases h; done) | rfl
theorem e_fld {g f : Nat} {n : PySem.Str} (hf : (clsFields g)[f]? = some n) (hb : baseOk a = true) (hk : ∃ C, KOk X.K g C) (ha : PE X a (tV X.K W ra)) : PE X (.Attribute a n pos) (tV X.K W fun c => (ra c).bind (doFld g f)) := by
  obtain ⟨C, k⟩ := hk
  refine pe_mono (pe_fld (pos := pos) ha (base_of hb n X.env)) fun σ H Q ⟨F, c, α, w, hw⟩ => ?_
  refine ⟨F, c, α, w, hw.bind.mono (fun v c1 hk u F1 H1 w1 t1 v1 => ?_) fun _ _ hq => hq⟩
  cases v <;> first | exact False.elim hk | skip
  rename_i d
  cases d <;> first | exact False.elim hk | skip
  rename_i g' ds
  unfold doFld at hk
  simp only at hk
  split at hk
  · rename_i e
    subst e
    obtain ⟨y, e1, hy⟩ := hk.ofO
    obtain ⟨d, e2, rfl⟩ := Option.map_eq_some_iff.mp e1
    have r : Rep X.K F1 u (.obj g' ds) := v1
    cases r with
    | obj kc ea ed ez rr =>
      obtain ⟨z, q1, q2⟩ := rr.get e2
      have := clsAt_inj kc k.at_
      subst this
      refine ⟨_, _, _, _, _, rfl, w1.sub _ _ ea, k.cls, k.fld _ (List.mem_of_getElem? hf), ?_, hy z F1 H1 w1 t1 q2⟩
      rw [ez]
      exact zip_lookup (fields_nodup g') hf q1
  · exact False.elim hk
theorem passF (tk : Takes X W) : Passes (L2.CX X.prog X.w) X (fun _ _ _ => False) := fun _ σ _ _ e s' I c => tk e s' (XE.of_call I (fun _ _ _ h => False.elim h) c)
theorem c_meth {g' g : Nat} {C : Addr} {m : PySem.Str} {σ : L2.St} {H : Hp} {Q : VK} (k : KOk X.K g' C) (hm : (clsFields g').contains m = false)
    (h : tV X.K W (fun c => (ra c).bind fun a c => if isObj g' a then (rs' c).bind (doMeth call g a) else .st) σ H Q) : tMeth C m (spC X.K call g) [] (fun _ _ _ => False) (tV X.K W ra) (tVs X.K W rs') σ H Q := by
  obtain ⟨F, c, α, w, hw⟩ := h
  refine ⟨F, c, α, w, hw.bind.mono (fun v c0 hk u F0 H0 w0 t0 v0 => ?_) fun _ _ hq => hq⟩
  cases v <;> first | exact False.elim hk | skip
  rename_i d
  cases d <;> first | exact False.elim hk | skip
  rename_i g2 ds
  by_cases eg : g2 = g'
  case neg =>
    have : isObj g' (.d (.obj g2 ds)) = false := by simp [isObj, eg]
    rw [this] at hk
    exact False.elim hk
  subst eg
  have e0 : isObj g2 (.d (.obj g2 ds)) = true := by simp [isObj]
  rw [e0] at hk
  simp only [if_true] at hk
  have r0 : Rep X.K F0 u (.obj g2 ds) := v0
  have r00 := r0
  cases r0 with
  | obj kc ea ed ez rr =>
    have := clsAt_inj kc k.at_
    subst this
    refine ⟨_, _, _, rfl, w0.sub _ _ ea, by rw [ez]; exact zip_none hm, F0, c0, α, w0, hk.bind.mono (fun vs c1 hk us F1 H1 w1 t01 v1 => ?_) fun _ _ hq => hq.on t0⟩
    have t1 := t0.trans t01
    have v1 := VsOk.base t0.same v1
    obtain ⟨F2, w2, r2, t2, s12, new2⟩ := all_frozen w t1 w1 v1
    simp only [List.append_nil]
    refine ⟨F2, .obj g2 ds :: vs.map Vl.rd, c1.sto, w2.sub, .cons (r00.mono (t01.sub.trans s12)) r2, ?_⟩
    unfold doMeth doCall at hk
    simp only [List.map_cons] at hk
    have er : (Vl.d (D.obj g2 ds)).rd = .obj g2 ds := rfl
    rw [er] at hk
    cases e : call g (.obj g2 ds :: vs.map Vl.rd) c1.sto with
    | st => rw [e] at hk; exact hk
    | ok v s =>
      rw [e] at hk
      intro u F' H' hs fs s' new r
      cases hf : v.free with
      | false =>
        have hk' : PV X.K σ F H c α Q v.vl ⟨(frzs vs c1).env, s⟩ := by simpa only [called, noexc, frzs, frz, hf, Bool.false_eq_true, if_false, WpR] using hk
        obtain ⟨w', t'⟩ := w2.res hs fs s' new
        exact hk' u F' H' w' (t2.trans t') (r.vok t2.same)
      | true =>
        have hk' : PV X.K σ F H c α Q v.vl ⟨c1.env, s⟩ := by simpa only [called, noexc, hf, if_true, WpR] using hk
        obtain ⟨F'', w', s1, sub, less, apart⟩ := thin_back w1 s12 hs fs s'
        refine hk' u F'' H' w' ⟨t1.same.trans hs, t1.sub.trans s1, fun a o q => ?_, t1.back, fun i x q => ?_⟩ ((free_thin less sub r hf).vok t1.same)
        · rcases new a o (sub a o q) with z | z
          · rcases new2 a o z with z | z | ⟨i, x, z, e⟩
            · exact t1.new a o z
            · exact .inr (.inl z)
            · exact absurd e (apart a o q i x z)
          · exact .inr (.inl (t1.same.free z))
        · rcases t1.keep i x q with z | z
          · exact .inl z
          · exact .inr ⟨z.1.mono s1, z.2⟩
    | ex x s => rw [e] at hk; exact False.elim hk
theorem few_ok {as : List Expr} (h : (backTo pos (starEach as X.env)).any (·.1) = false) (hl : as.length < 29) : methodCallForm (as.length + ([] : List Keyword).length) (backTo pos (starEach as X.env)) (backToKw pos (keywordEach [] X.env)) = true := by
  have h1 : (backTo pos (starEach as X.env)).all (fun x => !x.1) = true := by
    rw [List.all_eq_true]
    rw [List.any_eq_false] at h
    intro x hx
    have := h x hx
    simpa using this
  have h2 : backToKw pos (keywordEach [] X.env) = [] := rfl
  unfold methodCallForm
  rw [h1, h2]
  simp only [List.all_nil, List.isEmpty_nil, if_true, Bool.true_and, List.length_nil, decide_eq_true_eq]
  omega
theorem meth_form {m : PySem.Str} {as : List Expr} (hb : nameOk a = true) (hf : methodCallForm (as.length + ([] : List Keyword).length) (backTo pos (starEach as X.env)) (backToKw pos (keywordEach [] X.env)) = true) (hl : (apos.endLine == pos.line) = true) :
    eval (.Call (.Attribute a m apos) as [] pos) X.env = (do
      let ov ← eval a X.env
      standAt apos.atName
      let (f, first) ← holding [ov] (getMethod ov m (do return (← importBound a X.env).getD true))
      callWith pos f first (backTo pos (starEach as X.env)) (backToKw pos (keywordEach [] X.env))) := by
  have e1 : eval (.Call (.Attribute a m apos) as [] pos) X.env = (do
      let ov ← attributeBase a m X.env (eval a X.env)
      standAt apos.atName
      methodCall a m apos pos X.env ov (as.length + ([] : List Keyword).length) (backTo pos (starEach as X.env)) (backToKw pos (keywordEach [] X.env))) := rfl
  have e2 : attributeBase a m X.env (eval a X.env) = eval a X.env := by
    cases a <;> first | (cases hb; done) | rfl
  rw [e1, e2]
  unfold methodCall calleeOf methodCallPos
  rw [hf, hl]
  rfl
theorem e_meth (hy : Hyp L P call W X) {g' g : Nat} {e : Expr} (hb : nameOk a = true) (hl : (apos.endLine == pos.line) = true) (hn29 : (e :: es).length < 29) (hM : MOk L call X g' g) (hst : ∀ z ∈ e :: es, ∀ x y, z ≠ .Starred x y) (ha : PE X a (tV X.K W ra)) (hs : PA X (e :: es) (tVs X.K W rs')) :
    PE X (.Call (.Attribute a (L.fn g) apos) (e :: es) [] pos) (tV X.K W fun c => (ra c).bind fun a c => if isObj g' a then (rs' c).bind (doMeth call g a) else .st) := by
  obtain ⟨C, f, fd, ps, k, ko, hm, F, hr, hbd, hn⟩ := hM.ok
  have h1 := args_ok (X := X) (es := es) (hst e List.mem_cons_self)
  have h2 := back_no (X := X) (l := es) (fun z hz => hst z (List.mem_cons_of_mem _ hz)) pos
  have h3 := back_no (X := X) (l := e :: es) hst pos
  exact pe_mono (pe_meth ha ko.cls hm F hr hbd .nil (passF hy.takes) hs h1 h2 (meth_form hb (few_ok h3 hn29) hl)) fun σ H Q h => c_meth ko hn h
theorem e_new (hy : Hyp L P call W X) {g : Nat} {p : Pos} {e : Expr} (hg : glB X.env.scope (clsName g) = true) (hn : L.hn g = true) (hst : ∀ z ∈ e :: es, ∀ x y, z ≠ .Starred x y) (hs : PA X (e :: es) (tVs X.K W rs')) :
    PE X (.Call (.Name (clsName g) p) (e :: es) [] pos) (tV X.K W fun c => (rs' c).bind (doNew g)) := by
  obtain ⟨C, f, fd, ps, k, ko, hm, M, F, hr, hbd⟩ := hy.news g hn
  obtain ⟨h1, h2, h3⟩ := gl_of hg
  refine pe_mono (pe_make M F hr h1 hm hbd .nil (passF hy.takes) hs h2 (args_ok (hst e List.mem_cons_self)) (back_no (fun z hz => hst z (List.mem_cons_of_mem _ hz)) pos)) fun σ H Q ⟨F0, c, α, w, hw⟩ => ?_
  refine ⟨F0, c, α, w, hw.bind.mono (fun vs c1 hk us F1 H1 w1 t1 v1 x dx hx hdx hne => ?_) fun _ _ hq => hq⟩
  obtain ⟨F2, w2, r2, t2, s12, new2⟩ := all_frozen w t1 w1 v1
  unfold doNew at hk
  obtain ⟨fs, ef, hk⟩ := hk.bind.ofO
  have fx : F2 x = none := w2.sub.free hx
  have fdx : F2 dx = none := w2.sub.free hdx
  have s2 : Same F2 (upd F2 dx (.own x)) := same_upd fdx
  have hsub : Same (upd F2 dx (.own x)) (upd (upd H1 dx (.own x)) x (.ins C dx [])) := fun b o z => by
    by_cases hbx : b = x
    · subst hbx
      rw [upd_ne (Ne.symm hne), fx] at z; cases z
    · rw [upd_ne hbx]
      by_cases hbd2 : b = dx
      · subst hbd2; rw [upd_same] at z ⊢; exact z
      · rw [upd_ne hbd2] at z ⊢; exact w2.sub b o z
  simp only [List.append_nil]
  refine ⟨x, C, dx, us, upd F2 dx (.own x), vs.map Vl.rd, fs, rfl, ko.at_, upd_same, hsub, by rw [upd_ne (Ne.symm hne)]; exact fx, r2.mono s2, ef, fun H' ws kept atx rw' => ⟨rfl, ?_⟩⟩
  let F' := upd (upd F2 dx (.own x)) x (.ins C dx ((clsFields g).zip ws))
  have s3 : Same (upd F2 dx (.own x)) F' := same_upd (by rw [upd_ne (Ne.symm hne)]; exact fx)
  have sH : Same H1 H' := fun b o z => by
    have b1 : b ≠ x := by rintro rfl; rw [hx] at z; cases z
    have b2 : b ≠ dx := by rintro rfl; rw [hdx] at z; cases z
    exact kept b o b1 (by rw [upd_ne b1, upd_ne b2]; exact z)
  have s' : Same F' H' := fun b o z => by
    by_cases hbx : b = x
    · subst hbx
      have : F' b = some (.ins C dx ((clsFields g).zip ws)) := upd_same
      rw [this] at z; cases z
      exact atx
    · have : F' b = upd F2 dx (.own x) b := upd_ne hbx
      rw [this] at z
      exact kept b o hbx (hsub b o z)
  have new : ∀ b o, F' b = some o → F2 b = some o ∨ H1 b = none := fun b o z => by
    by_cases hbx : b = x
    · subst hbx; exact .inr hx
    · have e1 : F' b = upd F2 dx (.own x) b := upd_ne hbx
      rw [e1] at z
      by_cases hbd2 : b = dx
      · subst hbd2; exact .inr hdx
      · rw [upd_ne hbd2] at z; exact .inl z
  obtain ⟨w', t'⟩ := w2.res sH (s2.trans s3) s' new
  have hk' : PV X.K σ F0 H c α Q (.d (.obj g fs)) (frzs vs c1) := hk
  refine hk' (.ref x) F' H' w' (t2.trans t') ?_
  refine .obj (dx := dx) (C := C) (vs := ws) ko.at_ upd_same ?_ rfl (rw'.mono s3)
  show upd (upd F2 dx (.own x)) x _ dx = _
  rw [upd_ne hne, upd_same]
end
end Ev
end
section
set_option maxRecDepth 100000
set_option maxHeartbeats 1000000
/-! Ev7e: enumerate of a tuple, of a text. -/
namespace Ev
open PySem L2
open Sem (wp)

theorem meets_enum1 {src : Value} {ob : Obj} {Pr : Heap → Prop} (bg : Begins src ob Pr) :
    Meets (Builtin.«enumerate.__new__» ⟨[.type "enumerate", src], []⟩) (fun _ R st => Pr st.heap ∧
      R (.ok (.ret (.ref (st.heap.push ob).objs.size))) { st with heap := (st.heap.push ob).push { cls := .type "enumerate", data := .fields #[.none, .bool false, .ref st.heap.objs.size, rawInt 0, .none, .none] } }) :=
  .of_wp fun prog w A R st hyp => by
    obtain ⟨hp, g, dr, tk, os⟩ := st
    obtain ⟨h1, hyp⟩ := hyp
    have hsub := sub_enumerate
    have it1 : ∀ {B' : Around} {E : Value → Shared → Prop} {Q : Value → Shared → Prop}, Q (.ref hp.objs.size) ⟨hp.push ob, g, dr, tk, os⟩ → wpAny (model prog w) B' (pyIter src) Q E ⟨hp, g, dr, tk, os⟩ :=
      fun hq => bg.iter _ _ _ _ _ _ h1 hq
    wp_walk using it1
    refine wpAny_stack_any fun sk => wpAny_pure ?_
    split
    · rename_i c _ _ _ _ _
      cases (c == Value.type "enumerate")
      · (wp_walk using it1); exact ⟨_, rfl, hyp⟩
      · (wp_walk using it1); exact ⟨_, rfl, hyp⟩
    · (wp_walk using it1); exact ⟨_, rfl, hyp⟩
section
variable {prog : Program} {w : World} {A : Around} {E : Value → Shared → Prop} {s : Shared}
theorem enum1_begins {src : Value} {ob : Obj} {Pr : Heap → Prop} {Q : Value → Shared → Prop} (bg : Begins src ob Pr) (h1 : Pr s.heap)
    (k : ∀ h', IsEnum h' (s.heap.objs.size + 1) s.heap.objs.size 0 .none → h'.get? s.heap.objs.size = some ob → (∀ b o, s.heap.get? b = some o → h'.get? b = some o) → Q (.ref (s.heap.objs.size + 1)) { s with heap := h' }) :
    wpAny (model prog w) A (call (.type "enumerate") [src]) Q E s := by
  refine callType_new F.called_enumerate (by decide) (F.typeCall_enumerate_1 _) (F.newCall_enumerate_1 _) (fun obj => F.args_object_init_2 obj _) F.entry_enumerate_new (meets_enum1 bg) ⟨h1, ?_⟩
  have ez : (s.heap.push ob).objs.size = s.heap.objs.size + 1 := Heap.size_push ..
  show _ ∧ _
  rw [ez]
  have en := Heap.get?_push_size (s.heap.push ob) (o := { cls := .type "enumerate", data := .fields #[.none, .bool false, .ref s.heap.objs.size, rawInt 0, .none, .none] }) rfl
  rw [ez] at en
  exact ⟨⟨_, en, rfl⟩, k _ en (Heap.get?_push_of_some _ (Heap.get?_push_size _ bg.free)) fun b o x => Heap.get?_push_of_some _ (Heap.get?_push_of_some _ x)⟩
end
/-- the tuple at a, numbered -/
def IteT (K : Fg) (a : Addr) : It :=
  ⟨fun i H => ∃ (xs : List V) (x : V), SqT K H a xs ∧ xs[i]? = some x, fun i H v H' => ∃ T x, v = .ref T ∧ H T = none ∧ H' = upd H T (.tup [.int (i : Nat), x]) ∧ ∀ xs, SqT K H a xs → xs[i]? = some x, fun i H => ∃ xs : List V, SqT K H a xs ∧ xs.length = i⟩
/-- the text z, numbered -/
def IteS (z : PySem.Str) : It :=
  ⟨fun i _ => i < z.cps.size, fun i H v H' => ∃ T c, v = .ref T ∧ H T = none ∧ H' = upd H T (.tup [.int (i : Nat), .str ⟨#[c]⟩]) ∧ z.cps[i]? = some c, fun i _ => z.cps.size = i⟩
theorem tup_lt {X : Cx} {pins : List (Addr × Obj)} {σ : L2.St} {H : Hp} {s : Shared} {a : Addr} {xs : List V} (I : L2.Inv X pins σ H s) (h : SqT X.K H a xs) {b : Addr} (hb : FpOk X pins H b) : b ≠ a := by
  rintro rfl
  rcases h with (h | ⟨o, h⟩) | ⟨o, its, n, hk, _⟩
  · rw [hb.1] at h; cases h
  · rw [hb.1] at h; cases h
  · have := I.ok.mod.kin _ _ hk
    have h2 := (I.bs _ _ this).1
    rcases hb.2.2.2.1 with h3 | h3
    · exact I.ok.noex _ _ this h3
    · have h4 := Heap.lt_size this
      have h5 := I.ok.bsz
      exact absurd (Nat.lt_of_lt_of_le h4 (Nat.le_trans h5 h3)) (Nat.lt_irrefl _)
/-- a numbered item comes -/
theorem enum_item {X : Cx} {elts : List Expr} {kk : Nat} {tpos : Pos} {e it : Addr} {fp : List Addr} {n i : Nat} {Pv : Nat → Value → Prop} {St : Nat → Heap → Prop} {tn : Nat → Heap → Prop} {pins : List (Addr × Obj)} {s : Shared} {σ : L2.St} {H : Hp} {E : Value → Shared → Prop} {J : It}
    (I : L2.Inv X pins σ H s) (dw : Draws X.prog X.w X.A.in1 it fp n Pv St) (hf : ∀ b ∈ [e, it], FpOk X pins H b) {old : Value} (he : IsEnum s.heap e it ((i : Nat) : Int) old) (hst : St i s.heap) (hlt : i < n) (hne : e ≠ it) (hef : e ∉ fp) (hif : it ∈ fp)
    (htn : ∀ h', (∃ old, IsEnum h' e it ((i + 1 : Nat) : Int) old) → St (i + 1) h' → tn (i + 1) h')
    (hy : ∀ u T, Pv i u → H T = none → ∃ x, RelV x u ∧ J.yld i H (.ref T) (upd H T (.tup [.int (i : Nat), x]))) :
    wpAny (model X.prog X.w) X.A (pyNext (.ref e)) (fun r s1 => ∃ u, r = some u ∧
      wpAny (model X.prog X.w) X.A (letOwnedTupleGo (.Tuple elts kk tpos) (.ref e) u) (fun _ s2 => ∃ x H', L2.Inv X pins σ H' s2 ∧ RelV x u ∧ J.yld i H x H' ∧ tn (i + 1) s2.heap ∧ ∀ b ∈ [e, it], H' b = none) E s1) E s := by
  have hel : e < s.heap.objs.size := Heap.lt_size he
  have hil : it < s.heap.objs.size := by obtain ⟨_, q⟩ := dw.live _ _ hst; exact Heap.lt_size q
  refine wpAny_pyNext_enum_itemD dw he hst hlt hne hef fun x h' tk hP ho hs' hT hsz hk => ?_
  refine ⟨_, rfl, wpAny_letOwnedTupleGo_enum (s := { s with heap := h', toks := tk + 1 }) ho fun h'' he' sb => ?_⟩
  obtain ⟨y, ry, hyld⟩ := hy x s.heap.objs.size hP (I.hok.fresh (Nat.le_refl _))
  have hT2 : h''.get? s.heap.objs.size = some { cls := .type "tuple", data := .seq #[.int i tk, x] } := (sb.2 _ (Nat.ne_of_gt hel)).trans hT
  have new : ObjOk X.prog X.w (upd H s.heap.objs.size (.tup [.int (i : Nat), y])) h'' s.heap.objs.size (.tup [.int (i : Nat), y]) :=
    ⟨by show 2 ≤ sizeLine; decide, [.int i tk, x], .cons ⟨_, rfl⟩ (.cons ry .nil), ⟨_, hT2, rfl, _, rfl⟩⟩
  have I1 : L2.Inv X pins σ (upd H s.heap.objs.size (.tup [.int (i : Nat), y])) { s with heap := h'', toks := tk + 1 } :=
    I.turnedNew (ch := [e, it]) (fun b ob hb q => (sb.2 b (fun z => hb (by simp [z]))).trans (hk b ob (fun z => hb (by simp [z])) (fun z => hb (by simp [z])) q)) hf (Nat.le_refl _) new
  refine ⟨.ref s.heap.objs.size, _, I1, rfl, hyld, htn _ ⟨x, ?_⟩ (dw.frame _ _ _ hs' fun b hb o q => (sb.2 b (fun z => hef (z ▸ hb))).trans q), fun b hb => ?_⟩
  · have e1 : ((i + 1 : Nat) : Int) = (i : Int) + 1 := by omega
    rw [e1]; exact he'
  · have hb' : b < s.heap.objs.size := by
      have e' : b = e ∨ b = it := by simpa using hb
      rcases e' with z | z
      · rw [z]; exact hel
      · rw [z]; exact hil
    rw [upd_ne (Nat.ne_of_lt hb')]
    exact (hf b hb).1
theorem enum_done {X : Cx} {e it : Addr} {fp : List Addr} {n : Nat} {i : Int} {Pv : Nat → Value → Prop} {St : Nat → Heap → Prop} {pins : List (Addr × Obj)} {s : Shared} {σ : L2.St} {H : Hp} {E : Value → Shared → Prop}
    (I : L2.Inv X pins σ H s) (dw : Draws X.prog X.w X.A.in1 it fp n Pv St) (hf : ∀ b ∈ [e, it], FpOk X pins H b) {old : Value} (he : IsEnum s.heap e it i old) (hst : St n s.heap) :
    wpAny (model X.prog X.w) X.A (pyNext (.ref e)) (fun r s1 => r = none ∧ L2.Inv X pins σ H s1) E s := by
  obtain ⟨f0, f1, f2, f3, f4, f5⟩ := hf it (by simp)
  exact wpAny_pyNext_enum_endD dw he hst fun h' eb => ⟨rfl, I.turned (t' := s.toks) (fun b o hb q => eb b o hb q) f0 f1 f3 f4 f5⟩
theorem turn_enumT {P : Program} {w : World} {K : Fg} {elts : List Expr} {kk : Nat} {tpos : Pos} (a e it : Addr) :
    Turn P w K (.Tuple elts kk tpos) (IteT K a) [e, it] e (fun i h => (∃ old, IsEnum h e it ((i : Nat) : Int) old) ∧ h.IsTupleIter it a i ∧ e ≠ it) where
  mem := by simp
  obj := fun i h st b hb => by
    obtain ⟨⟨old, he⟩, ⟨o, ho, hc, hd⟩, _⟩ := st
    have e' : b = e ∨ b = it := by simpa using hb
    rcases e' with z | z
    · rw [z]; exact ⟨_, he, fun v q => nomatch q⟩
    · rw [z]; exact ⟨o, ho, fun v q => by rw [hd] at q; cases q⟩
  keep := fun i h h' st k => let ⟨⟨old, he⟩, hi, hne⟩ := st; ⟨⟨old, k e (by simp) _ he⟩, hi.at fun o q => k it (by simp) o q, hne⟩
  item := by
    intro X hP hw hK hc i pins s σ H E I hf st hg
    subst hP hw hK
    obtain ⟨⟨old, he⟩, hit, hne⟩ := st
    obtain ⟨xs, x, hq, hx⟩ := hg
    obtain ⟨its, rv, p, hz⟩ := I.tuple hq
    have hne2 : a ≠ it := (tup_lt I hq (hf it (by simp))).symm
    have hne3 : e ≠ a := tup_lt I hq (hf e (by simp))
    have hi : i < its.toArray.size := by
      have := (List.getElem?_eq_some_iff.mp hx).1
      have := rv.length
      simp; omega
    refine enum_item (J := IteT X.K a) (tn := fun i h => (∃ old, IsEnum h e it ((i : Nat) : Int) old) ∧ h.IsTupleIter it a i ∧ e ≠ it) I (Draws.tuple (A := X.A.in1) (I.ok.hd hc) it a hne2 its.toArray) hf he ⟨hit, p⟩ hi hne (by simp [hne, hne3]) (by simp) (fun h' h1 h2 => ⟨h1, h2.1, hne⟩) fun u T hP hT => ?_
    have hP : its[i]? = some u := by simpa using hP
    obtain ⟨u', hu', ru⟩ := rv.get hx
    rw [hP] at hu'; cases hu'
    exact ⟨x, ru, T, x, rfl, hT, rfl, fun ys hy => by rw [I.tuple_inj hy hq]; exact hx⟩
  done := by
    intro X hP hw hK hc i pins s σ H E I hf st hg
    subst hP hw hK
    obtain ⟨⟨old, he⟩, hit, hne⟩ := st
    obtain ⟨xs, hq, hx⟩ := hg
    obtain ⟨its, rv, p, hz⟩ := I.tuple hq
    have hne2 : a ≠ it := (tup_lt I hq (hf it (by simp))).symm
    have en : i = its.toArray.size := by
      have := rv.length
      simp; omega
    subst en
    exact enum_done I (Draws.tuple (A := X.A.in1) (I.ok.hd hc) it a hne2 its.toArray) hf he ⟨hit, p⟩
  self := fun A i s Q E st h => let ⟨⟨_, he⟩, _⟩ := st; wpAny_pyIter_enum he h
theorem turn_enumS {P : Program} {w : World} {K : Fg} {elts : List Expr} {kk : Nat} {tpos : Pos} (z : PySem.Str) (t : Tok) (e it : Addr) :
    Turn P w K (.Tuple elts kk tpos) (IteS z) [e, it] e (fun i h => (∃ old, IsEnum h e it ((i : Nat) : Int) old) ∧ h.IsStrIter it (strIterType z) z t i ∧ e ≠ it) where
  mem := by simp
  obj := fun i h st b hb => by
    obtain ⟨⟨old, he⟩, ⟨o, ho, hc, hd⟩, _⟩ := st
    have e' : b = e ∨ b = it := by simpa using hb
    rcases e' with q | q
    · rw [q]; exact ⟨_, he, fun v q => nomatch q⟩
    · rw [q]; exact ⟨o, ho, fun v q => by rw [hd] at q; cases q⟩
  keep := fun i h h' st k => let ⟨⟨old, he⟩, ⟨o, ho, hr⟩, hne⟩ := st; ⟨⟨old, k e (by simp) _ he⟩, ⟨o, k it (by simp) o ho, hr⟩, hne⟩
  item := by
    intro X hP hw hK hc i pins s σ H E I hf st hg
    subst hP hw hK
    obtain ⟨⟨old, he⟩, hit, hne⟩ := st
    have hg : i < z.cps.size := hg
    refine enum_item (J := IteS z) (tn := fun i h => (∃ old, IsEnum h e it ((i : Nat) : Int) old) ∧ h.IsStrIter it (strIterType z) z t i ∧ e ≠ it) I (Draws.text (A := X.A.in1) (I.ok.hd hc) it z t) hf he hit hg hne (by simp [hne]) (by simp) (fun h' h1 h2 => ⟨h1, h2, hne⟩) fun u T hP hT => ?_
    obtain ⟨c, tk, hcx, rfl⟩ := hP
    exact ⟨.str ⟨#[c]⟩, ⟨_, rfl⟩, T, c, rfl, hT, rfl, hcx⟩
  done := by
    intro X hP hw hK hc i pins s σ H E I hf st hg
    subst hP hw hK
    obtain ⟨⟨old, he⟩, hit, hne⟩ := st
    have hg : z.cps.size = i := hg
    subst hg
    exact enum_done I (Draws.text (A := X.A.in1) (I.ok.hd hc) it z t) hf he hit
  self := fun A i s Q E st h => let ⟨⟨_, he⟩, _⟩ := st; wpAny_pyIter_enum he h
/-- enumerate(v), v a list, a tuple, a text -/
def iEnumA (K : Fg) (te : TE) : TI := fun σ H R => te σ H fun v H1 => (∃ a xs, v = .ref a ∧ SqL K H1 a xs ∧ R (Ite K a) H1) ∨ (∃ a xs, v = .ref a ∧ SqT K H1 a xs ∧ R (IteT K a) H1) ∨ ∃ z, v = .str z ∧ R (IteS z) H1
theorem pi_enumA {X : Cx} {e : Expr} {te : TE} {p pos tpos : Pos} {elts : List Expr} {kk : Nat} (hg : Gl X "enumerate") (hm : X.mg "enumerate" = none) (he : PE X e te) (hs : starEach [e] X.env = (false, eval e X.env) :: starEach [] X.env) :
    PI X (.Tuple elts kk tpos) (.Call (.Name "enumerate" p) [e] [] pos) (iEnumA X.K te) := by
  refine ⟨fun pins s σ H R I h => ?_⟩
  refine PyProof.Rows.Call_ (ld_blt I hg hm PyProof.Rows.boot_enumerate (PyProof.Rows.callWith_type1 (PyProof.Rows.args_cons (thn (he.run pins s σ H _ I h) fun u s1 ⟨v, H1, I1, r1, q1⟩ => PyProof.Rows.args_nil ?_) hs) hs rfl))
  have fresh : ∀ b, b ∈ [s1.heap.objs.size + 1, s1.heap.objs.size] → FpOk X pins H1 b := fun b hb => by
    have e' : b = s1.heap.objs.size + 1 ∨ b = s1.heap.objs.size := by simpa using hb
    have hle : s1.heap.objs.size ≤ b := by
      rcases e' with z | z
      · rw [z]; exact Nat.le_add_right _ _
      · rw [z]; exact Nat.le_refl _
    exact I1.fpOk hle (I1.hok.fresh hle)
  rcases q1 with ⟨a, xs, rfl, hq, q⟩ | ⟨a, xs, rfl, hq, q⟩ | ⟨z, rfl, q⟩
  · cases r1
    obtain ⟨its, rv, p', hz⟩ := I1.list hq
    refine call_enumerate_list p'.isList fun h' he hit hsz hk => wpAny_pyIter_enum he ?_
    exact ⟨_, [s1.heap.objs.size + 1, s1.heap.objs.size], _, _, H1, rfl, I1.kept (t' := s1.toks) hk, turn_enum a _ s1.heap.objs.size, ⟨⟨.none, he⟩, hit, Nat.succ_ne_self _⟩, fresh, q⟩
  · cases r1
    obtain ⟨its, rv, p', hz⟩ := I1.tuple hq
    refine enum1_begins (begins_tuple a its.toArray) p' fun h' he ho hk => wpAny_pyIter_enum he ?_
    exact ⟨_, [s1.heap.objs.size + 1, s1.heap.objs.size], _, _, H1, rfl, I1.kept (t' := s1.toks) hk, turn_enumT a _ s1.heap.objs.size, ⟨⟨.none, he⟩, ⟨_, ho, rfl, rfl⟩, Nat.succ_ne_self _⟩, fresh, q⟩
  · obtain ⟨t, rfl⟩ := r1
    refine enum1_begins (begins_text z t) trivial fun h' he ho hk => wpAny_pyIter_enum he ?_
    exact ⟨_, [s1.heap.objs.size + 1, s1.heap.objs.size], _, _, H1, rfl, I1.kept (t' := s1.toks) hk, turn_enumS z t _ s1.heap.objs.size, ⟨⟨.none, he⟩, ⟨_, ho, rfl, rfl⟩, Nat.succ_ne_self _⟩, fresh, q⟩
end Ev
end
section
set_option maxRecDepth 100000
set_option maxHeartbeats 1000000
/-! Zp1: zip over iterators of lists, each from the front or from the end. -/
namespace Zp
open PySem PySem.Spec PyProof.Rows L2
open PySem.Sem (wp)
/-- an iterator at the list l of n items, k of them given -/
def IsIt (h : Heap) (it l : Addr) (rv : Bool) (n k : Nat) : Prop := match rv with
  | true => k ≤ n ∧ h.IsRevIter it l ((n : Int) - 1 - ((k : Nat) : Int))
  | false => h.IsListIter it l k
def itPos (rv : Bool) (n k : Nat) : Nat := match rv with
  | true => n - 1 - k
  | false => k
theorem IsIt.at {h h' : Heap} {it l : Addr} {rv : Bool} {n k : Nat} (x : IsIt h it l rv n k) (e : ∀ o, h.get? it = some o → h'.get? it = some o) : IsIt h' it l rv n k := by
  cases rv with
  | true => exact ⟨x.1, x.2.at e⟩
  | false => exact Heap.IsListIter.at x e
theorem IsIt.extBut {h h' : Heap} {it l z : Addr} {rv : Bool} {n k : Nat} (x : IsIt h it l rv n k) (e : Heap.ExtBut z h h') (ne : it ≠ z) : IsIt h' it l rv n k := x.at fun o q => e _ _ ne q
theorem IsIt.there {h : Heap} {it l : Addr} {rv : Bool} {n k : Nat} (x : IsIt h it l rv n k) : ∃ o, h.get? it = some o ∧ ∀ v, o.data ≠ .cell v := by
  cases rv with
  | true =>
    obtain ⟨_, o, e, _, d⟩ := x
    exact ⟨o, e, fun v z => by rw [d] at z; cases z⟩
  | false =>
    obtain ⟨o, e, _, d⟩ := x
    exact ⟨o, e, fun v z => by rw [d] at z; cases z⟩
section
variable {prog : Program} {w : World} {A : Around} {E : Value → Shared → Prop} {s : Shared}
theorem rev_item {it l : Addr} {i : Nat} {items : Array Value} {x : Value} {Q : Value → Shared → Prop} (hit : s.heap.IsRevIter it l (i : Int)) (hl : s.heap.IsList l items) (hx : items[i]? = some x)
    (hQ : ∀ h', h'.IsRevIter it l ((i : Int) - 1) → Heap.SameBut it s.heap h' → Q x { s with heap := h' }) : wpAny (model prog w) A (Builtin.SmallTypes.nextOf (.ref it)) Q E s := by
  obtain ⟨o, ho, hc, hd⟩ := id hit
  obtain ⟨ol, hol, _, nl, hdl⟩ := hl
  unfold Builtin.SmallTypes.nextOf
  refine wpAny_bind (wpAny_callSpecial?_slot (name := Str.ofString "__next__") hit.typeIs F.slot_lri_next
    (wpAny_call_entry F.slot_lri_next hit.typeIs F.entry_lri_next ?_ (F.args_lri_next_1 _)))
  unfold Builtin.«list_reverseiterator.__next__»
  refine wpAny_bind (wpAny_of_eq (a := (Value.ref it, [])) rfl ?_)
  try dsimp only
  refine wpAny_bind (wpAny_field ho hd (x := rawInt (i : Int)) rfl ?_)
  show wpAny _ _ (if (i : Int) < 0 then _ else _) _ _ s
  rw [if_neg (by omega)]
  show wpAny _ _ (field (.ref it) 0 >>= _) _ _ s
  refine wpAny_bind (wpAny_field ho hd (x := .ref l) rfl ?_)
  show wpAny _ _ (seqItems? (.ref l) >>= _) _ _ s
  refine wpAny_bind (wpAny_seqItems hol hdl ?_)
  simp only [Int.toNat_natCast, hx]
  refine wpAny_bind (wpAny_setField ho hd (by simp) ?_)
  first
  | refine wpAny_pure ⟨x, rfl, wpAny_pure (hQ _ ?_ (Heap.SameBut.update ..))⟩
  | refine wpAny_bind (wpAny_pure (wpAny_pure ⟨x, rfl, wpAny_pure (hQ _ ?_ (Heap.SameBut.update ..))⟩))
  exact ⟨_, Heap.get?_update_self _ ho (Obj.isFreed_of_fields (Obj.data_mapFields hd _)), (Obj.cls_mapFields ..).trans hc, by
    rw [Obj.data_mapFields hd]; simp⟩
theorem rev_end {it l : Addr} {Q : Value → Shared → Prop} (hh : A.handled = none) (hit : s.heap.IsRevIter it l (-1))
    (hE : ∀ h' e, Heap.ExtBut it s.heap h' → (∃ o, h'.get? e = some o ∧ o.cls = .type "StopIteration") → E (.ref e) { s with heap := h' }) : wpAny (model prog w) A (Builtin.SmallTypes.nextOf (.ref it)) Q E s := by
  obtain ⟨o, ho, hc, hd⟩ := id hit
  unfold Builtin.SmallTypes.nextOf
  refine wpAny_bind (wpAny_callSpecial?_slot (name := Str.ofString "__next__") hit.typeIs F.slot_lri_next
    (wpAny_call_entry F.slot_lri_next hit.typeIs F.entry_lri_next ?_ (F.args_lri_next_1 _)))
  unfold Builtin.«list_reverseiterator.__next__»
  refine wpAny_bind (wpAny_of_eq (a := (Value.ref it, [])) rfl ?_)
  try dsimp only
  refine wpAny_bind (wpAny_field ho hd (x := rawInt (-1)) rfl ?_)
  show wpAny _ _ (if (-1 : Int) < 0 then _ else _) _ _ s
  rw [if_pos (by decide)]
  refine wpAny_bind (wpAny_rule ?_)
  first
  | show wpAny _ _ (newExc (.type "StopIteration") [] >>= _) _ _ _
  | (refine wpAny_bind ?_; show wpAny _ _ (newExc (.type "StopIteration") [] >>= _) _ _ _)
  refine wpAny_bind ?_
  simp only [newExc, newTuple]
  refine wpAny_bind (wpAny_newObj_type ?_ (by size_fits))
  refine wpAny_bind (m := firstArgMember _ _) (wpAny_of_eq (a := Value.none) (by first | rfl | (simp only [firstArgMember]; rfl)) ?_)
  refine wpAny_newObj_type ?_ (by size_fits)
  simp only [raiseNew]
  refine wpAny_bind (wpAny_handled ?_)
  first | rw [show A.in1.handled = none from hh] | rw [hh]
  refine wpAny_bind (wpAny_pure (wpAny_throw ?_))
  exact hE _ _ (((Heap.ExtBut.refl _ _).push _).push _) ⟨_, Heap.get?_push_size _ rfl, rfl⟩

theorem nx_item {it l : Addr} {rv : Bool} {n k : Nat} {xs : Array Value} {x : Value} {Q : Value → Shared → Prop} (hit : IsIt s.heap it l rv n k) (hl : s.heap.IsList l xs) (hk : k < n) (hx : xs[itPos rv n k]? = some x)
    (hQ : ∀ h', IsIt h' it l rv n (k + 1) → Heap.SameBut it s.heap h' → Q x { s with heap := h' }) : wpAny (model prog w) A (Builtin.SmallTypes.nextOf (.ref it)) Q E s := by
  cases rv with
  | true =>
    obtain ⟨h1, h2⟩ := hit
    have e1 : (n : Int) - 1 - ((k : Nat) : Int) = ((n - 1 - k : Nat) : Int) := by omega
    rw [e1] at h2
    refine rev_item h2 hl hx fun h' q sb => hQ h' ⟨hk, ?_⟩ sb
    have e2 : ((n - 1 - k : Nat) : Int) - 1 = (n : Int) - 1 - ((k + 1 : Nat) : Int) := by omega
    rw [← e2]
    exact q
  | false => exact wpAny_nextOf_list_item hit hl hx fun h' q sb => hQ h' q sb
theorem nx_end {it l : Addr} {rv : Bool} {n k : Nat} {xs : Array Value} {Q : Value → Shared → Prop} (hh : A.handled = none) (hit : IsIt s.heap it l rv n k) (hl : s.heap.IsList l xs) (hk : n ≤ k) (hn : xs.size = n)
    (hE : ∀ h' e, Heap.ExtBut it s.heap h' → (∃ o, h'.get? e = some o ∧ o.cls = .type "StopIteration") → E (.ref e) { s with heap := h' }) : wpAny (model prog w) A (Builtin.SmallTypes.nextOf (.ref it)) Q E s := by
  cases rv with
  | true =>
    obtain ⟨h1, h2⟩ := hit
    have e1 : (n : Int) - 1 - ((k : Nat) : Int) = -1 := by omega
    rw [e1] at h2
    exact rev_end hh h2 hE
  | false => exact wpAny_nextOf_list_end hh hit hl (Array.getElem?_eq_none (by omega)) hE

theorem zz_item {z TI TO i1 i2 l1 l2 : Addr} {r1 r2 : Bool} {n1 n2 k : Nat} {xs ys : Array Value} {x y a b : Value} {Q : Value → Shared → Prop} (D : ZipApart z TI TO i1 i2 l1 l2)
    (hz : IsZip s.heap z TI TO .none) (hTI : IsPair s.heap TI (.ref i1) (.ref i2)) (hTO : IsPair s.heap TO a b)
    (h1 : IsIt s.heap i1 l1 r1 n1 k) (h2 : IsIt s.heap i2 l2 r2 n2 k) (hl1 : s.heap.IsList l1 xs) (hl2 : s.heap.IsList l2 ys) (hk1 : k < n1) (hk2 : k < n2) (hx : xs[itPos r1 n1 k]? = some x) (hy : ys[itPos r2 n2 k]? = some y)
    (hQ : ∀ h', IsZip h' z TI TO (rawInt s.heap.objs.size) → IsPair h' TO x y → IsIt h' i1 l1 r1 n1 (k + 1) → IsIt h' i2 l2 r2 n2 (k + 1) → IsPair h' s.heap.objs.size x y → h'.objs.size = s.heap.objs.size + 1 →
      (∀ c o, c ≠ z → c ≠ TO → c ≠ i1 → c ≠ i2 → s.heap.get? c = some o → h'.get? c = some o) → Q (.ref s.heap.objs.size) { s with heap := h' }) :
    wpAny (model prog w) A (Builtin.«zip.__next__» ⟨[.ref z], []⟩) (fun fin s' => ∃ v, fin = .done (.ret v) ∧ Q v s') E s := by
  show wpAny _ _ (field (.ref z) 2 >>= _) _ _ _
  refine wpAny_bind (wpAny_field hz rfl (x := .bool false) rfl ?_)
  show wpAny _ _ (field (.ref z) 3 >>= _) _ _ _
  refine wpAny_bind (wpAny_field hz rfl (x := .ref TI) rfl ?_)
  refine wpAny_bind (wpAny_seqItems hTI rfl ?_)
  show wpAny _ _ (Builtin.SmallTypes.ownedTupleIsFree (.ref z) >>= _) _ _ _
  refine wpAny_bind ?_
  unfold Builtin.SmallTypes.ownedTupleIsFree
  refine wpAny_bind (wpAny_field hz rfl (x := .none) rfl (wpAny_pure ?_))
  simp only [if_true]
  refine wpAny_bind (wpAny_rule ?_)
  refine wpAny_bind (wpAny_field hz rfl (x := .ref TO) rfl ?_)
  refine wpAny_bind (wpAny_setField_rec hz (by simp) fun h₁ hz₁ hs₁ => ?_)
  replace hz₁ : IsZip h₁ z TI TO .ellipsis := hz₁
  refine wpAny_bind ?_
  simp only [List.zipIdx_cons, List.zipIdx_nil, List.forIn_cons, List.forIn_nil]

  refine wpAny_bind (wpAny_bind (wpAny_onRaise ?_))
  show wpAny _ _ (Builtin.SmallTypes.nextOf (.ref i1) >>= _) _ _ _
  refine wpAny_bind (nx_item (h1.extBut hs₁.extBut D.i1z) (hl1.extBut hs₁.extBut D.l1z) hk1 hx fun h₂ h1₂ hs₂ => wpAny_pure ?_)
  have hTO₂ : IsPair h₂ TO a b := hs₂.extBut _ _ D.TOi1 (hs₁.extBut _ _ D.TOz hTO)
  refine wpAny_bind (wpAny_seqItems hTO₂ rfl ?_)
  refine wpAny_bind (wpAny_updateSeq_pair hTO₂ fun h₃ hTO₃ hs₃ => ?_)
  replace hTO₃ : IsPair h₃ TO x b := hTO₃
  refine wpAny_bind (wpAny_letGo (wpAny_pure ?_))

  refine wpAny_bind (wpAny_bind (wpAny_onRaise ?_))
  show wpAny _ _ (Builtin.SmallTypes.nextOf (.ref i2) >>= _) _ _ _
  refine wpAny_bind (nx_item (((h2.extBut hs₁.extBut D.i2z).extBut hs₂.extBut D.i12.symm).extBut hs₃.extBut D.TOi2.symm)
    (((hl2.extBut hs₁.extBut D.l2z).extBut hs₂.extBut D.l2i1).extBut hs₃.extBut D.l2TO) hk2 hy fun h₄ h2₄ hs₄ => wpAny_pure ?_)
  have hTO₄ : IsPair h₄ TO x b := hs₄.extBut _ _ D.TOi2 hTO₃
  refine wpAny_bind (wpAny_seqItems hTO₄ rfl ?_)
  refine wpAny_bind (wpAny_updateSeq_pair hTO₄ fun h₅ hTO₅ hs₅ => ?_)
  replace hTO₅ : IsPair h₅ TO x y := hTO₅
  refine wpAny_bind (wpAny_letGo (wpAny_pure (wpAny_pure ?_)))

  refine wpAny_bind (wpAny_seqItems hTO₅ rfl ?_)
  refine wpAny_bind (wpAny_newTuple ?_)
  have hsz : h₅.objs.size = s.heap.objs.size := by rw [hs₅.1, hs₄.1, hs₃.1, hs₂.1, hs₁.1]
  have hz₅ : IsZip h₅ z TI TO .ellipsis := hs₅.extBut _ _ D.TOz.symm (hs₄.extBut _ _ D.i2z.symm (hs₃.extBut _ _ D.TOz.symm (hs₂.extBut _ _ D.i1z.symm hz₁)))
  have hk₅ : ∀ c o, c ≠ z → c ≠ TO → c ≠ i1 → c ≠ i2 → s.heap.get? c = some o → h₅.get? c = some o := fun c o c1 c2 c3 c4 e =>
    hs₅.extBut _ _ c2 (hs₄.extBut _ _ c4 (hs₃.extBut _ _ c2 (hs₂.extBut _ _ c3 (hs₁.extBut _ _ c1 e))))
  have h1₅ : IsIt h₅ i1 l1 r1 n1 (k + 1) := ((h1₂.extBut hs₃.extBut D.TOi1.symm).extBut hs₄.extBut D.i12).extBut hs₅.extBut D.TOi1.symm
  have h2₅ : IsIt h₅ i2 l2 r2 n2 (k + 1) := h2₄.extBut hs₅.extBut D.TOi2.symm
  have hzlt : z < h₅.objs.size := Heap.lt_size hz₅
  have hTOlt : TO < h₅.objs.size := Heap.lt_size hTO₅
  have hi1lt : i1 < h₅.objs.size := by obtain ⟨_, e, _⟩ := h1₅.there; exact Heap.lt_size e
  have hi2lt : i2 < h₅.objs.size := by obtain ⟨_, e, _⟩ := h2₅.there; exact Heap.lt_size e
  show wpAny _ _ (Builtin.SmallTypes.ownedTupleHandOut (.ref z) (.ref h₅.objs.size) >>= _) _ _ _
  refine wpAny_bind ?_
  unfold Builtin.SmallTypes.ownedTupleHandOut
  have hz₆ : IsZip (h₅.push { cls := .type "tuple", data := .seq #[x, y] }) z TI TO .ellipsis := Heap.get?_push_of_some _ hz₅
  refine wpAny_bind (wpAny_setField_rec hz₆ (by simp) fun h₇ hz₇ hs₇ => ?_)
  replace hz₇ : IsZip h₇ z TI TO (rawInt h₅.objs.size) := hz₇
  refine wpAny_setField_rec hz₇ (by simp) fun h₈ hz₈ hs₈ => ?_
  replace hz₈ : IsZip h₈ z TI TO (rawInt h₅.objs.size) := hz₈
  have up : ∀ c o, c ≠ z → h₅.get? c = some o → h₈.get? c = some o := fun c o c1 e => hs₈.extBut _ _ c1 (hs₇.extBut _ _ c1 (Heap.get?_push_of_some _ e))
  have hT₈ : IsPair h₈ h₅.objs.size x y := hs₈.extBut _ _ (Nat.ne_of_gt hzlt) (hs₇.extBut _ _ (Nat.ne_of_gt hzlt) (Heap.get?_push_size _ rfl))
  have hz8 : h₈.objs.size = h₅.objs.size + 1 := by rw [hs₈.1, hs₇.1, Heap.size_push]
  rw [hsz] at hz₈ hT₈ hz8
  refine wpAny_pure ⟨_, rfl, ?_⟩
  show Q (.ref h₅.objs.size) _
  rw [hsz]
  exact hQ h₈ hz₈ (up _ _ D.TOz hTO₅) (h1₅.at fun o e => up _ o D.i1z e) (h2₅.at fun o e => up _ o D.i2z e) hT₈ hz8 fun c o c1 c2 c3 c4 e => up c o c1 (hk₅ c o c1 c2 c3 c4 e)

theorem zz_end {z TI TO i1 i2 l1 l2 : Addr} {r1 r2 : Bool} {n1 n2 k : Nat} {xs ys : Array Value} {a b : Value} {Q : Fin → Shared → Prop} (hh : A.handled = none) (D : ZipApart z TI TO i1 i2 l1 l2)
    (hz : IsZip s.heap z TI TO .none) (hTI : IsPair s.heap TI (.ref i1) (.ref i2)) (hTO : IsPair s.heap TO a b)
    (h1 : IsIt s.heap i1 l1 r1 n1 k) (h2 : IsIt s.heap i2 l2 r2 n2 k) (hl1 : s.heap.IsList l1 xs) (hl2 : s.heap.IsList l2 ys) (e1 : xs.size = n1) (e2 : ys.size = n2) (hend : n1 ≤ k ∨ n2 ≤ k)
    (hE : ∀ h' e, (∀ c o, c ≠ z → c ≠ TO → c ≠ i1 → c ≠ i2 → s.heap.get? c = some o → h'.get? c = some o) → (∃ o, h'.get? e = some o ∧ o.cls = .type "StopIteration") → E (.ref e) { s with heap := h' }) :
    wpAny (model prog w) A (Builtin.«zip.__next__» ⟨[.ref z], []⟩) Q E s := by
  show wpAny _ _ (field (.ref z) 2 >>= _) _ _ _
  refine wpAny_bind (wpAny_field hz rfl (x := .bool false) rfl ?_)
  show wpAny _ _ (field (.ref z) 3 >>= _) _ _ _
  refine wpAny_bind (wpAny_field hz rfl (x := .ref TI) rfl ?_)
  refine wpAny_bind (wpAny_seqItems hTI rfl ?_)
  show wpAny _ _ (Builtin.SmallTypes.ownedTupleIsFree (.ref z) >>= _) _ _ _
  refine wpAny_bind ?_
  unfold Builtin.SmallTypes.ownedTupleIsFree
  refine wpAny_bind (wpAny_field hz rfl (x := .none) rfl (wpAny_pure ?_))
  simp only [if_true]
  refine wpAny_bind (wpAny_rule ?_)
  refine wpAny_bind (wpAny_field hz rfl (x := .ref TO) rfl ?_)
  refine wpAny_bind (wpAny_setField_rec hz (by simp) fun h₁ hz₁ hs₁ => ?_)
  replace hz₁ : IsZip h₁ z TI TO .ellipsis := hz₁
  refine wpAny_bind ?_
  simp only [List.zipIdx_cons, List.zipIdx_nil, List.forIn_cons, List.forIn_nil]
  refine wpAny_bind (wpAny_bind (wpAny_onRaise ?_))
  show wpAny _ _ (Builtin.SmallTypes.nextOf (.ref i1) >>= _) _ _ _
  by_cases hk1 : n1 ≤ k
  · refine wpAny_bind (nx_end hh (h1.extBut hs₁.extBut D.i1z) (hl1.extBut hs₁.extBut D.l1z) hk1 e1 fun h₂ e hs₂ he => ?_)
    obtain ⟨oe, hoe, hce⟩ := he
    have hz₂ : IsZip h₂ z TI TO .ellipsis := hs₂ _ _ D.i1z.symm hz₁
    have hez : e ≠ z := fun x => by subst x; rw [hz₂] at hoe; cases hoe; simp at hce
    refine wpAny_setField_rec hz₂ (by simp) fun h₃ _ hs₃ => hE h₃ e (fun c o c1 _ c3 _ x => hs₃.extBut _ _ c1 (hs₂ _ _ c3 (hs₁.extBut _ _ c1 x))) ⟨oe, hs₃.extBut _ _ hez hoe, hce⟩
  · have hk2 : n2 ≤ k := by rcases hend with h | h; exact absurd h hk1; exact h
    have hp : itPos r1 n1 k < xs.size := by cases r1 <;> simp only [itPos] <;> omega
    refine wpAny_bind (nx_item (h1.extBut hs₁.extBut D.i1z) (hl1.extBut hs₁.extBut D.l1z) (by omega) (Array.getElem?_eq_getElem hp) fun h₂ h1₂ hs₂ => wpAny_pure ?_)
    have hTO₂ : IsPair h₂ TO a b := hs₂.extBut _ _ D.TOi1 (hs₁.extBut _ _ D.TOz hTO)
    refine wpAny_bind (wpAny_seqItems hTO₂ rfl ?_)
    refine wpAny_bind (wpAny_updateSeq_pair hTO₂ fun h₃ hTO₃ hs₃ => ?_)
    refine wpAny_bind (wpAny_letGo (wpAny_pure ?_))
    refine wpAny_bind (wpAny_bind (wpAny_onRaise ?_))
    show wpAny _ _ (Builtin.SmallTypes.nextOf (.ref i2) >>= _) _ _ _
    refine wpAny_bind (nx_end hh (((h2.extBut hs₁.extBut D.i2z).extBut hs₂.extBut D.i12.symm).extBut hs₃.extBut D.TOi2.symm)
      (((hl2.extBut hs₁.extBut D.l2z).extBut hs₂.extBut D.l2i1).extBut hs₃.extBut D.l2TO) hk2 e2 fun h₄ e hs₄ he => ?_)
    obtain ⟨oe, hoe, hce⟩ := he
    have hz₄ : IsZip h₄ z TI TO .ellipsis := hs₄ _ _ D.i2z.symm (hs₃.extBut _ _ D.TOz.symm (hs₂.extBut _ _ D.i1z.symm hz₁))
    have hez : e ≠ z := fun x => by subst x; rw [hz₄] at hoe; cases hoe; simp at hce
    refine wpAny_setField_rec hz₄ (by simp) fun h₅ _ hs₅ => hE h₅ e (fun c o c1 c2 c3 c4 x => hs₅.extBut _ _ c1 (hs₄ _ _ c4 (hs₃.extBut _ _ c2 (hs₂.extBut _ _ c3 (hs₁.extBut _ _ c1 x))))) ⟨oe, hs₅.extBut _ _ hez hoe, hce⟩

theorem pyNext_zz_item {z TI TO i1 i2 l1 l2 : Addr} {r1 r2 : Bool} {n1 n2 k : Nat} {xs ys : Array Value} {x y a b : Value} {Q : Option Value → Shared → Prop} (D : ZipApart z TI TO i1 i2 l1 l2)
    (hz : IsZip s.heap z TI TO .none) (hTI : IsPair s.heap TI (.ref i1) (.ref i2)) (hTO : IsPair s.heap TO a b)
    (h1 : IsIt s.heap i1 l1 r1 n1 k) (h2 : IsIt s.heap i2 l2 r2 n2 k) (hl1 : s.heap.IsList l1 xs) (hl2 : s.heap.IsList l2 ys) (hk1 : k < n1) (hk2 : k < n2) (hx : xs[itPos r1 n1 k]? = some x) (hy : ys[itPos r2 n2 k]? = some y)
    (hQ : ∀ h', IsZip h' z TI TO (rawInt s.heap.objs.size) → IsPair h' TO x y → IsIt h' i1 l1 r1 n1 (k + 1) → IsIt h' i2 l2 r2 n2 (k + 1) → IsPair h' s.heap.objs.size x y → h'.objs.size = s.heap.objs.size + 1 →
      (∀ c o, c ≠ z → c ≠ TO → c ≠ i1 → c ≠ i2 → s.heap.get? c = some o → h'.get? c = some o) → Q (some (.ref s.heap.objs.size)) { s with heap := h' }) :
    wpAny (model prog w) A (pyNext (.ref z)) Q E s := by
  have hT : s.TypeIs (.ref z) "zip" := ⟨_, hz, rfl⟩
  unfold pyNext
  exact wpAny_bind (wpAny_attempt (wpAny_callSpecial?_slot (name := Str.ofString "__next__") hT F.slot_zip_next
    (wpAny_call_entry F.slot_zip_next hT F.entry_zip_next
      (zz_item D hz hTI hTO h1 h2 hl1 hl2 hk1 hk2 hx hy fun h' a1 a2 a3 a4 a5 a6 a7 => wpAny_pure (hQ h' a1 a2 a3 a4 a5 a6 a7)) (F.args_zip_next_1 _))))
theorem pyNext_zz_end {z TI TO i1 i2 l1 l2 : Addr} {r1 r2 : Bool} {n1 n2 k : Nat} {xs ys : Array Value} {a b : Value} {Q : Option Value → Shared → Prop} (hh : A.handled = none) (D : ZipApart z TI TO i1 i2 l1 l2)
    (hz : IsZip s.heap z TI TO .none) (hTI : IsPair s.heap TI (.ref i1) (.ref i2)) (hTO : IsPair s.heap TO a b)
    (h1 : IsIt s.heap i1 l1 r1 n1 k) (h2 : IsIt s.heap i2 l2 r2 n2 k) (hl1 : s.heap.IsList l1 xs) (hl2 : s.heap.IsList l2 ys) (e1 : xs.size = n1) (e2 : ys.size = n2) (hend : n1 ≤ k ∨ n2 ≤ k)
    (hQ : ∀ h', (∀ c o, c ≠ z → c ≠ TO → c ≠ i1 → c ≠ i2 → s.heap.get? c = some o → h'.get? c = some o) → Q none { s with heap := h' }) : wpAny (model prog w) A (pyNext (.ref z)) Q E s := by
  have hT : s.TypeIs (.ref z) "zip" := ⟨_, hz, rfl⟩
  unfold pyNext
  refine wpAny_bind (wpAny_attempt (wpAny_callSpecial?_slot (name := Str.ofString "__next__") hT F.slot_zip_next
    (wpAny_call_entry F.slot_zip_next hT F.entry_zip_next (zz_end hh D hz hTI hTO h1 h2 hl1 hl2 e1 e2 hend fun h' e hk he => ?_) (F.args_zip_next_1 _))))
  obtain ⟨o, ho, hc⟩ := he
  refine wpAny_bind (wpAny_isInstance (T := "StopIteration") (b := true) ⟨o, ho, hc⟩ isSubtype_stop ?_)
  exact wpAny_pure (hQ _ hk)
end
end Zp
end
section
set_option maxRecDepth 100000
set_option maxHeartbeats 1000000
/-! Zp2: what a loop over such a zip is given. -/
namespace Zp
open PySem PySem.Spec PyProof.Rows L2
open PySem.Sem (wp)
def Itzz (K : PySem.W.Frag) (r1 r2 : Bool) (n1 n2 : Nat) (a b : Addr) : It :=
  ⟨fun i H => ∃ (xs ys : List V) (x y : V), SqL K H a xs ∧ SqL K H b ys ∧ i < n1 ∧ i < n2 ∧ xs[itPos r1 n1 i]? = some x ∧ ys[itPos r2 n2 i]? = some y,
    fun i H v H' => ∃ T x y, v = .ref T ∧ H T = none ∧ H' = upd H T (.tup [x, y]) ∧ (∀ xs, SqL K H a xs → xs[itPos r1 n1 i]? = some x) ∧ ∀ ys, SqL K H b ys → ys[itPos r2 n2 i]? = some y,
    fun i H => ∃ xs ys : List V, SqL K H a xs ∧ SqL K H b ys ∧ xs.length = n1 ∧ ys.length = n2 ∧ (n1 ≤ i ∨ n2 ≤ i)⟩
theorem turn_zz {P : Program} {w : World} {K : PySem.W.Frag} {elts : List Expr} {kk : Nat} {tpos : Pos} {r1 r2 : Bool} {n1 n2 : Nat} {a b z TI TO i1 i2 : Addr} (D : ZipApart z TI TO i1 i2 a b) :
    Turn P w K (.Tuple elts kk tpos) (Itzz K r1 r2 n1 n2 a b) [z, TI, TO, i1, i2] z (fun i h => IsZip h z TI TO .none ∧ IsPair h TI (.ref i1) (.ref i2) ∧ (∃ x y, IsPair h TO x y) ∧ IsIt h i1 a r1 n1 i ∧ IsIt h i2 b r2 n2 i) where
  mem := by simp
  obj := fun i h st c hc => by
    obtain ⟨hz, hTI, ⟨x, y, hTO⟩, h1, h2⟩ := st
    obtain ⟨o1, e1, d1⟩ := h1.there
    obtain ⟨o2, e2, d2⟩ := h2.there
    have e' : c = z ∨ c = TI ∨ c = TO ∨ c = i1 ∨ c = i2 := by simpa using hc
    rcases e' with q | q | q | q | q
    · rw [q]; exact ⟨_, hz, fun v q => nomatch q⟩
    · rw [q]; exact ⟨_, hTI, fun v q => nomatch q⟩
    · rw [q]; exact ⟨_, hTO, fun v q => nomatch q⟩
    · rw [q]; exact ⟨o1, e1, d1⟩
    · rw [q]; exact ⟨o2, e2, d2⟩
  keep := fun i h h' st k => by
    obtain ⟨hz, hTI, ⟨x, y, hTO⟩, h1, h2⟩ := st
    exact ⟨k z (by simp) _ hz, k TI (by simp) _ hTI, ⟨x, y, k TO (by simp) _ hTO⟩, h1.at fun o q => k i1 (by simp) o q, h2.at fun o q => k i2 (by simp) o q⟩
  item := by
    intro X hP hw hK hc i pins s σ H E I hf st hg
    subst hP hw hK
    obtain ⟨hz, hTI, ⟨x0, y0, hTO⟩, h1, h2⟩ := st
    obtain ⟨xs, ys, x, y, hqx, hqy, hk1, hk2, hx, hy⟩ := hg
    obtain ⟨its, rv, p, _⟩ := I.list hqx
    obtain ⟨its2, rv2, p2, _⟩ := I.list hqy
    obtain ⟨u, hu, ru⟩ := rv.get hx
    obtain ⟨u2, hu2, ru2⟩ := rv2.get hy
    have hzl : z < s.heap.objs.size := Heap.lt_size hz
    refine pyNext_zz_item D hz hTI hTO h1 h2 p.isList p2.isList hk1 hk2 (x := u) (y := u2) (by simpa using hu) (by simpa using hu2) fun h' z' TO' h1' h2' hT hsz hk => ?_
    refine ⟨_, rfl, wpAny_letOwnedTupleGo_zip (s := { s with heap := h' }) z' fun h'' z'' sb => ?_⟩
    have hT2 : h''.get? s.heap.objs.size = some { cls := .type "tuple", data := .seq #[u, u2] } := (sb.2 _ (Nat.ne_of_gt hzl)).trans hT
    have new : ObjOk X.prog X.w (upd H s.heap.objs.size (.tup [x, y])) h'' s.heap.objs.size (.tup [x, y]) :=
      ⟨by show 2 ≤ sizeLine; decide, [u, u2], .cons ru (.cons ru2 .nil), ⟨_, hT2, rfl, _, rfl⟩⟩
    have I1 : Inv X pins σ (upd H s.heap.objs.size (.tup [x, y])) { s with heap := h'' } :=
      I.turnedNew (t' := s.toks) (ch := [z, TI, TO, i1, i2]) (fun c o hb q => (sb.2 c (fun q' => hb (by simp [q']))).trans (hk c o (fun q' => hb (by simp [q'])) (fun q' => hb (by simp [q'])) (fun q' => hb (by simp [q'])) (fun q' => hb (by simp [q'])) q)) hf (Nat.le_refl _) new
    refine ⟨.ref s.heap.objs.size, _, I1, rfl, ⟨_, x, y, rfl, I.hok.fresh (Nat.le_refl _), rfl, fun l hl => by rw [I.list_inj hl hqx]; exact hx, fun l hl => by rw [I.list_inj hl hqy]; exact hy⟩, ⟨z'', ?_, ⟨u, u2, ?_⟩, ?_, ?_⟩, fun c hcm => ?_⟩
    · exact (sb.2 _ D.TIz).trans (hk _ _ D.TIz D.TITO D.TIi1 D.TIi2 hTI)
    · exact (sb.2 _ D.TOz).trans TO'
    · exact h1'.at fun o q => (sb.2 _ D.i1z).trans q
    · exact h2'.at fun o q => (sb.2 _ D.i2z).trans q
    · have hlt : c < s.heap.objs.size := by
        have e' : c = z ∨ c = TI ∨ c = TO ∨ c = i1 ∨ c = i2 := by simpa using hcm
        rcases e' with q | q | q | q | q
        · rw [q]; exact hzl
        · rw [q]; exact Heap.lt_size hTI
        · rw [q]; exact Heap.lt_size hTO
        · rw [q]; obtain ⟨_, e1, _⟩ := h1.there; exact Heap.lt_size e1
        · rw [q]; obtain ⟨_, e2, _⟩ := h2.there; exact Heap.lt_size e2
      rw [upd_ne (Nat.ne_of_lt hlt)]
      exact (hf c hcm).1
  done := by
    intro X hP hw hK hc i pins s σ H E I hf st hg
    subst hP hw hK
    obtain ⟨hz, hTI, ⟨x0, y0, hTO⟩, h1, h2⟩ := st
    obtain ⟨xs, ys, hqx, hqy, e1, e2, hend⟩ := hg
    obtain ⟨its, rv, p, _⟩ := I.list hqx
    obtain ⟨its2, rv2, p2, _⟩ := I.list hqy
    have l1 := rv.length
    have l2 := rv2.length
    exact pyNext_zz_end (I.ok.hd hc) D hz hTI hTO h1 h2 p.isList p2.isList (by simp; omega) (by simp; omega) hend fun h' hk => ⟨rfl, I.turnedL (t' := s.toks) (ch := [z, TI, TO, i1, i2]) (fun c o hb q =>
      hk c o (fun q' => hb (by simp [q'])) (fun q' => hb (by simp [q'])) (fun q' => hb (by simp [q'])) (fun q' => hb (by simp [q'])) q) hf⟩
  self := fun A i s Q E st h => wpAny_pyIter_zip st.1 h

/-! ### zip's own making -/
abbrev yH1 (h : Heap) (i1 i2 : Addr) : Heap := h.push { cls := .type "tuple", data := .seq #[.ref i1, .ref i2] }
abbrev yH2 (h : Heap) (i1 i2 : Addr) : Heap := (yH1 h i1 i2).push { cls := .type "tuple", data := .seq #[.none, .none] }
abbrev yH3 (h : Heap) (i1 i2 : Addr) : Heap := (yH2 h i1 i2).push { cls := .type "zip", data := .fields #[.none, .bool false, .bool false, .ref h.objs.size, .ref (yH1 h i1 i2).objs.size] }
abbrev xH1 (h : Heap) (l2 : Addr) : Heap := h.push { cls := .type "list_iterator", data := .fields #[.ref l2, .int 0 0] }
theorem meets_zip_rl (i1 l1 l2 : Addr) (i : Int) (ys : Array Value) :
    Meets (Builtin.«zip.__new__» ⟨[.type "zip", .ref i1, .ref l2], []⟩) (fun _ R s => s.heap.IsRevIter i1 l1 i ∧ s.heap.IsList l2 ys ∧
      R (.ok (.ret (.ref (yH2 (xH1 s.heap l2) i1 s.heap.objs.size).objs.size))) { s with heap := yH3 (xH1 s.heap l2) i1 s.heap.objs.size }) :=
  .of_wp fun prog w A R s h => by
    obtain ⟨hp, g, d, tk, os⟩ := s; obtain ⟨hl1, hl2, h⟩ := h
    have hsub := sub_zip
    have hL1 : Heap.IsRevIter (Shared.heap ⟨hp, g, d, tk, os⟩) i1 l1 i := hl1
    have hL2 : Heap.IsList (Shared.heap ⟨hp, g, d, tk, os⟩) l2 ys := hl2
    wp_walk using wpAny_pyIter_revIter hL1, wpAny_pyIter_list hL2
    exact ⟨_, rfl, h⟩
theorem meets_zip_rr (i1 l1 i2 l2 : Addr) (i j : Int) :
    Meets (Builtin.«zip.__new__» ⟨[.type "zip", .ref i1, .ref i2], []⟩) (fun _ R s => s.heap.IsRevIter i1 l1 i ∧ s.heap.IsRevIter i2 l2 j ∧
      R (.ok (.ret (.ref (yH2 s.heap i1 i2).objs.size))) { s with heap := yH3 s.heap i1 i2 }) :=
  .of_wp fun prog w A R s h => by
    obtain ⟨hp, g, d, tk, os⟩ := s; obtain ⟨hl1, hl2, h⟩ := h
    have hsub := sub_zip
    have hL1 : Heap.IsRevIter (Shared.heap ⟨hp, g, d, tk, os⟩) i1 l1 i := hl1
    have hL2 : Heap.IsRevIter (Shared.heap ⟨hp, g, d, tk, os⟩) i2 l2 j := hl2
    wp_walk using wpAny_pyIter_revIter hL1, wpAny_pyIter_revIter hL2
    exact ⟨_, rfl, h⟩
theorem yFacts (h : Heap) (i1 i2 : Addr) : IsZip (yH3 h i1 i2) (h.objs.size + 2) h.objs.size (h.objs.size + 1) .none ∧ IsPair (yH3 h i1 i2) h.objs.size (.ref i1) (.ref i2) ∧ IsPair (yH3 h i1 i2) (h.objs.size + 1) .none .none ∧
    (yH2 h i1 i2).objs.size = h.objs.size + 2 ∧ ∀ c o, h.get? c = some o → (yH3 h i1 i2).get? c = some o := by
  have z1 : (yH1 h i1 i2).objs.size = h.objs.size + 1 := Heap.size_push ..
  have z2 : (yH2 h i1 i2).objs.size = h.objs.size + 2 := by rw [Heap.size_push, z1]
  have g3 : (yH3 h i1 i2).get? (yH2 h i1 i2).objs.size = some _ := Heap.get?_push_size _ rfl
  have g2 : (yH3 h i1 i2).get? (yH1 h i1 i2).objs.size = some _ := Heap.get?_push_of_some _ (Heap.get?_push_size _ rfl)
  have g1 : (yH3 h i1 i2).get? h.objs.size = some _ := Heap.get?_push_of_some _ (Heap.get?_push_of_some _ (Heap.get?_push_size _ rfl))
  rw [z1, z2] at g3
  rw [z1] at g2
  exact ⟨g3, g1, g2, z2, fun c o x => Heap.get?_push_of_some _ (Heap.get?_push_of_some _ (Heap.get?_push_of_some _ x))⟩
section
variable {prog : Program} {w : World} {A : Around} {E : Value → Shared → Prop} {s : Shared}
theorem call_zip_rl {i1 l1 l2 : Addr} {i : Int} {ys : Array Value} {Q : Value → Shared → Prop} (hl1 : s.heap.IsRevIter i1 l1 i) (hl2 : s.heap.IsList l2 ys)
    (h : ∀ h', IsZip h' (s.heap.objs.size + 3) (s.heap.objs.size + 1) (s.heap.objs.size + 2) .none → IsPair h' (s.heap.objs.size + 1) (.ref i1) (.ref s.heap.objs.size) →
      IsPair h' (s.heap.objs.size + 2) .none .none → h'.IsListIter s.heap.objs.size l2 0 →
      (∀ c o, s.heap.get? c = some o → h'.get? c = some o) → Q (.ref (s.heap.objs.size + 3)) { s with heap := h' }) :
    wpAny (model prog w) A (call (.type "zip") [.ref i1, .ref l2]) Q E s := by
  refine callType_new F.called_zip (by decide) (F.typeCall_zip_2 _ _) (F.newCall_zip_2 _ _) (fun obj => F.args_object_init_3 obj _ _) F.entry_zip_new
    (meets_zip_rl i1 l1 l2 i ys) ⟨hl1, hl2, ?_⟩
  have z0 : (xH1 s.heap l2).objs.size = s.heap.objs.size + 1 := Heap.size_push ..
  obtain ⟨a1, a2, a3, a4, a5⟩ := yFacts (xH1 s.heap l2) i1 s.heap.objs.size
  have g0 : (xH1 s.heap l2).get? s.heap.objs.size = some _ := Heap.get?_push_size _ rfl
  rw [z0] at a1 a2 a3 a4
  show _ ∧ _
  rw [a4]
  exact ⟨⟨_, a1, rfl⟩, h _ a1 a2 a3 ⟨_, a5 _ _ g0, rfl, rfl⟩ fun c o x => a5 c o (Heap.get?_push_of_some _ x)⟩
theorem call_zip_rr {i1 l1 i2 l2 : Addr} {i j : Int} {Q : Value → Shared → Prop} (hl1 : s.heap.IsRevIter i1 l1 i) (hl2 : s.heap.IsRevIter i2 l2 j)
    (h : ∀ h', IsZip h' (s.heap.objs.size + 2) s.heap.objs.size (s.heap.objs.size + 1) .none → IsPair h' s.heap.objs.size (.ref i1) (.ref i2) →
      IsPair h' (s.heap.objs.size + 1) .none .none → (∀ c o, s.heap.get? c = some o → h'.get? c = some o) → Q (.ref (s.heap.objs.size + 2)) { s with heap := h' }) :
    wpAny (model prog w) A (call (.type "zip") [.ref i1, .ref i2]) Q E s := by
  refine callType_new F.called_zip (by decide) (F.typeCall_zip_2 _ _) (F.newCall_zip_2 _ _) (fun obj => F.args_object_init_3 obj _ _) F.entry_zip_new
    (meets_zip_rr i1 l1 i2 l2 i j) ⟨hl1, hl2, ?_⟩
  obtain ⟨a1, a2, a3, a4, a5⟩ := yFacts s.heap i1 i2
  show _ ∧ _
  rw [a4]
  exact ⟨⟨_, a1, rfl⟩, h _ a1 a2 a3 a5⟩
end
end Zp
end
section
set_option maxRecDepth 100000
set_option maxHeartbeats 1000000
/-! Zp3: the readings of zip(reversed(a), b) and zip(reversed(a), reversed(b)). -/
namespace Zp
open PySem PySem.Spec PyProof.Rows L2 RT RZ ClX
open PySem.Sem (wp)
theorem fp_pin {X : Cx} {pins : List (Addr × Obj)} {σ σ2 : L2.St} {H H1 H2 : Hp} {s s2 : Shared} {o : Obj} {b : Addr} (f : FpOk X pins H b) (hn : H2 b = none) : FpOk X pins H2 b := ⟨hn, f.2⟩
/-- the tracked lists -/
def iZrl (K : PySem.W.Frag) (t1 t2 : TE) : TI := fun σ H R => t1 σ H fun v H1 => ∃ (a : Addr) (xs : List V), v = .ref a ∧ SqL K H1 a xs ∧ t2 σ H1 fun v2 H2 => ∃ (b : Addr) (ys xs' : List V), v2 = .ref b ∧ SqL K H2 a xs' ∧ SqL K H2 b ys ∧ R (Itzz K true false xs.length ys.length a b) H2
def iZrr (K : PySem.W.Frag) (t1 t2 : TE) : TI := fun σ H R => t1 σ H fun v H1 => ∃ (a : Addr) (xs : List V), v = .ref a ∧ SqL K H1 a xs ∧ t2 σ H1 fun v2 H2 => ∃ (b : Addr) (ys xs' : List V), v2 = .ref b ∧ SqL K H2 a xs' ∧ SqL K H2 b ys ∧ R (Itzz K true true xs.length ys.length a b) H2
theorem lst_rev {h : Heap} {l it l' : Addr} {items : Array Value} {i : Int} (hl : h.IsList l items) (hr : h.IsRevIter it l' i) : l ≠ it := fun z => by
  obtain ⟨o, e, c, n, d⟩ := hl
  obtain ⟨o', e', c', d'⟩ := hr
  rw [z, e'] at e
  cases e
  rw [d] at d'
  cases d'
theorem apart_rl (N i1 l1 l2 : Nat) (h1 : l1 < N) (h2 : l2 < N) (h3 : i1 < N) (n1 : l1 ≠ i1) (n2 : l2 ≠ i1) : ZipApart (N + 3) (N + 1) (N + 2) i1 N l1 l2 := by
  constructor <;> first | exact n1 | exact n2 | (refine PySem.W.neN ?_; omega)
theorem apart_rr (N i1 l1 l2 : Nat) (h1 : l1 < N) (h2 : l2 < N) (h3 : i1 < N) (n1 : l1 ≠ i1) (n2 : l2 ≠ i1) : ZipApart (N + 1 + 2) (N + 1) (N + 1 + 1) i1 N l1 l2 := by
  constructor <;> first | exact n1 | exact n2 | (refine PySem.W.neN ?_; omega)
section
variable {X : Cx}
theorem pi_zip_rl {e e2 : Expr} {t1 t2 : TE} {p p2 pos pos2 tpos : Pos} {elts : List Expr} {kk : Nat} (hg : Gl X "zip") (hm : X.mg "zip" = none) (hg2 : Gl X "reversed") (hm2 : X.mg "reversed" = none) (h1 : PE X e t1) (h2 : PE X e2 t2)
    (hs : starEach [e] X.env = (false, eval e X.env) :: starEach [] X.env)
    (hs1 : starEach [.Call (.Name "reversed" p2) [e] [] pos2, e2] X.env = (false, eval (.Call (.Name "reversed" p2) [e] [] pos2) X.env) :: starEach [e2] X.env)
    (hs2 : starEach [e2] X.env = (false, eval e2 X.env) :: starEach [] X.env)
    (hpl : (backTo pos (starEach [e2] X.env)).any (·.1) = false) :
    PI X (.Tuple elts kk tpos) (.Call (.Name "zip" p) [.Call (.Name "reversed" p2) [e] [] pos2, e2] [] pos) (iZrl X.K t1 t2) := by
  refine ⟨fun pins s σ H R I h => ?_⟩
  refine Call_ (ld_blt I hg hm PyProof.Rows.boot_zip (PyProof.Rows.callWith_type1 (args_cons (Call_ (ld_blt I hg2 hm2 PyProof.Rows.boot_reversed (PyProof.Rows.callWith_type1 (args_cons (thn (h1.run pins s σ H _ I h) fun u s1 ⟨v, H1, I1, r1, q1⟩ => args_nil ?_) hs) hs rfl))) hs1) hs1 hpl))
  obtain ⟨a, xs, ev, hq, q⟩ := q1
  subst ev
  obtain rfl : u = Value.ref a := r1
  obtain ⟨its, rv, p', hz⟩ := I1.list hq
  have hl := rv.length
  refine call_reversed_list p'.isList ?_
  have g1 : (s1.heap.push (revObj a ((its.toArray.size : Int) - 1))).get? s1.heap.objs.size = some (revObj a ((its.toArray.size : Int) - 1)) := Heap.get?_push_size _ rfl
  have I2 : Inv X ((s1.heap.objs.size, revObj a ((its.toArray.size : Int) - 1)) :: pins) σ H1 { s1 with heap := s1.heap.push (revObj a ((its.toArray.size : Int) - 1)) } :=
    pin_new (t' := s1.toks) I1 (fun b o e => Heap.get?_push_of_some _ e) (Nat.le_refl _) g1 fun v z => by cases z
  have fp1 : FpOk X pins H1 s1.heap.objs.size := I1.fpOk (Nat.le_refl _) (I1.hok.fresh (Nat.le_refl _))
  refine args_cons (thn (h2.run _ _ σ H1 _ I2 q) fun u2 s2 ⟨v2, H2, I3, r2, q3⟩ => args_nil ?_) hs2
  obtain ⟨b, ys, xs', ev, hqx, hqy, q⟩ := q3
  subst ev
  obtain rfl : u2 = Value.ref b := r2
  have hit : s2.heap.IsRevIter s1.heap.objs.size a ((its.toArray.size : Int) - 1) := ⟨_, pin_at I3, rfl, rfl⟩
  have hun : H2 s1.heap.objs.size = none := pin_un I3
  have I4 : Inv X pins σ H2 s2 := unpin I3
  obtain ⟨its1, rv1, p1, _⟩ := I4.list hqx
  obtain ⟨its2, rv2, p2', _⟩ := I4.list hqy
  have n1 := lst_rev p1.isList hit
  have n2 := lst_rev p2'.isList hit
  have la := p1.lt
  have lb := p2'.lt
  have li : s1.heap.objs.size < s2.heap.objs.size := by obtain ⟨o, eo, _⟩ := hit; exact Heap.lt_size eo
  refine call_zip_rl hit p2'.isList fun h' a1 a2 a3 a4 a5 => wpAny_pyIter_zip a1 ?_
  have I5 : Inv X pins σ H2 { s2 with heap := h' } := I4.kept (t' := s2.toks) a5
  have D : ZipApart (s2.heap.objs.size + 3) (s2.heap.objs.size + 1) (s2.heap.objs.size + 2) s1.heap.objs.size s2.heap.objs.size a b := apart_rl s2.heap.objs.size s1.heap.objs.size a b la lb li n1 n2
  have e1 : ((its.toArray.size : Nat) : Int) - 1 = (xs.length : Int) - 1 - ((0 : Nat) : Int) := by simp only [List.size_toArray]; omega
  rw [e1] at hit
  have q1 : IsIt h' s1.heap.objs.size a true xs.length 0 := ⟨Nat.zero_le _, hit.at fun o eo => a5 _ _ eo⟩
  have q2 : IsIt h' s2.heap.objs.size b false ys.length 0 := a4
  refine ⟨s2.heap.objs.size + 3, [s2.heap.objs.size + 3, s2.heap.objs.size + 1, s2.heap.objs.size + 2, s1.heap.objs.size, s2.heap.objs.size], _, _, H2, rfl, I5, turn_zz D, ⟨a1, a2, ⟨_, _, a3⟩, q1, q2⟩, fun c hcm => ?_, q⟩
  have e' : c = s2.heap.objs.size + 3 ∨ c = s2.heap.objs.size + 1 ∨ c = s2.heap.objs.size + 2 ∨ c = s1.heap.objs.size ∨ c = s2.heap.objs.size := by simpa using hcm
  rcases e' with z | z | z | z | z
  · rw [z]; exact I4.fpOk (Nat.le_add_right _ _) (I4.hok.fresh (Nat.le_add_right _ _))
  · rw [z]; exact I4.fpOk (Nat.le_add_right _ _) (I4.hok.fresh (Nat.le_add_right _ _))
  · rw [z]; exact I4.fpOk (Nat.le_add_right _ _) (I4.hok.fresh (Nat.le_add_right _ _))
  · rw [z]; exact ⟨hun, fp1.2⟩
  · rw [z]; exact I4.fpOk (Nat.le_refl _) (I4.hok.fresh (Nat.le_refl _))
theorem pi_zip_rr {e e2 : Expr} {t1 t2 : TE} {p p2 p3 pos pos2 pos3 tpos : Pos} {elts : List Expr} {kk : Nat} (hg : Gl X "zip") (hm : X.mg "zip" = none) (hg2 : Gl X "reversed") (hm2 : X.mg "reversed" = none) (h1 : PE X e t1) (h2 : PE X e2 t2)
    (hs : starEach [e] X.env = (false, eval e X.env) :: starEach [] X.env)
    (hs1 : starEach [.Call (.Name "reversed" p2) [e] [] pos2, .Call (.Name "reversed" p3) [e2] [] pos3] X.env = (false, eval (.Call (.Name "reversed" p2) [e] [] pos2) X.env) :: starEach [.Call (.Name "reversed" p3) [e2] [] pos3] X.env)
    (hs2 : starEach [.Call (.Name "reversed" p3) [e2] [] pos3] X.env = (false, eval (.Call (.Name "reversed" p3) [e2] [] pos3) X.env) :: starEach [] X.env)
    (hs3 : starEach [e2] X.env = (false, eval e2 X.env) :: starEach [] X.env)
    (hpl : (backTo pos (starEach [.Call (.Name "reversed" p3) [e2] [] pos3] X.env)).any (·.1) = false) :
    PI X (.Tuple elts kk tpos) (.Call (.Name "zip" p) [.Call (.Name "reversed" p2) [e] [] pos2, .Call (.Name "reversed" p3) [e2] [] pos3] [] pos) (iZrr X.K t1 t2) := by
  refine ⟨fun pins s σ H R I h => ?_⟩
  refine Call_ (ld_blt I hg hm PyProof.Rows.boot_zip (PyProof.Rows.callWith_type1 (args_cons (Call_ (ld_blt I hg2 hm2 PyProof.Rows.boot_reversed (PyProof.Rows.callWith_type1 (args_cons (thn (h1.run pins s σ H _ I h) fun u s1 ⟨v, H1, I1, r1, q1⟩ => args_nil ?_) hs) hs rfl))) hs1) hs1 hpl))
  obtain ⟨a, xs, ev, hq, q⟩ := q1
  subst ev
  obtain rfl : u = Value.ref a := r1
  obtain ⟨its, rv, p', hz⟩ := I1.list hq
  have hl := rv.length
  refine call_reversed_list p'.isList ?_
  have g1 : (s1.heap.push (revObj a ((its.toArray.size : Int) - 1))).get? s1.heap.objs.size = some (revObj a ((its.toArray.size : Int) - 1)) := Heap.get?_push_size _ rfl
  have I2 : Inv X ((s1.heap.objs.size, revObj a ((its.toArray.size : Int) - 1)) :: pins) σ H1 { s1 with heap := s1.heap.push (revObj a ((its.toArray.size : Int) - 1)) } :=
    pin_new (t' := s1.toks) I1 (fun b o e => Heap.get?_push_of_some _ e) (Nat.le_refl _) g1 fun v z => by cases z
  have fp1 : FpOk X pins H1 s1.heap.objs.size := I1.fpOk (Nat.le_refl _) (I1.hok.fresh (Nat.le_refl _))
  refine args_cons (Call_ (ld_blt I2 hg2 hm2 PyProof.Rows.boot_reversed (PyProof.Rows.callWith_type1 (args_cons (thn (h2.run _ _ σ H1 _ I2 q) fun u2 s2 ⟨v2, H2, I3, r2, q3⟩ => args_nil ?_) hs3) hs3 rfl))) hs2
  obtain ⟨b, ys, xs', ev, hqx, hqy, q⟩ := q3
  subst ev
  obtain rfl : u2 = Value.ref b := r2
  have hit : s2.heap.IsRevIter s1.heap.objs.size a ((its.toArray.size : Int) - 1) := ⟨_, pin_at I3, rfl, rfl⟩
  have hun : H2 s1.heap.objs.size = none := pin_un I3
  have I4 : Inv X pins σ H2 s2 := unpin I3
  obtain ⟨its1, rv1, p1, _⟩ := I4.list hqx
  obtain ⟨its2, rv2, p2', _⟩ := I4.list hqy
  have hl2 := rv2.length
  have n1 := lst_rev p1.isList hit
  have n2 := lst_rev p2'.isList hit
  have la := p1.lt
  have lb := p2'.lt
  have li : s1.heap.objs.size < s2.heap.objs.size := by obtain ⟨o, eo, _⟩ := hit; exact Heap.lt_size eo
  refine call_reversed_list p2'.isList (args_nil ?_)
  have hit2 : (s2.heap.push (revObj b ((its2.toArray.size : Int) - 1))).IsRevIter s2.heap.objs.size b ((its2.toArray.size : Int) - 1) := ⟨_, Heap.get?_push_size _ rfl, rfl, rfl⟩
  have hit1 : (s2.heap.push (revObj b ((its2.toArray.size : Int) - 1))).IsRevIter s1.heap.objs.size a ((its.toArray.size : Int) - 1) := hit.at fun o eo => Heap.get?_push_of_some _ eo
  have sz : (s2.heap.push (revObj b ((its2.toArray.size : Int) - 1))).objs.size = s2.heap.objs.size + 1 := Heap.size_push ..
  refine call_zip_rr (s := { s2 with heap := s2.heap.push (revObj b ((its2.toArray.size : Int) - 1)) }) hit1 hit2 fun h' a1 a2 a3 a5 => ?_
  rw [sz] at a1 a2 a3 ⊢
  refine wpAny_pyIter_zip a1 ?_
  have up : ∀ c o, s2.heap.get? c = some o → h'.get? c = some o := fun c o eo => a5 c o (Heap.get?_push_of_some _ eo)
  have I5 : Inv X pins σ H2 { s2 with heap := h' } := I4.kept (t' := s2.toks) up
  have D : ZipApart (s2.heap.objs.size + 1 + 2) (s2.heap.objs.size + 1) (s2.heap.objs.size + 1 + 1) s1.heap.objs.size s2.heap.objs.size a b := apart_rr s2.heap.objs.size s1.heap.objs.size a b la lb li n1 n2
  have e1 : ((its.toArray.size : Nat) : Int) - 1 = (xs.length : Int) - 1 - ((0 : Nat) : Int) := by simp only [List.size_toArray]; omega
  have e2 : ((its2.toArray.size : Nat) : Int) - 1 = (ys.length : Int) - 1 - ((0 : Nat) : Int) := by simp only [List.size_toArray]; omega
  rw [e1] at hit
  have hit3 : h'.IsRevIter s2.heap.objs.size b ((its2.toArray.size : Int) - 1) := hit2.at fun o eo => a5 _ _ eo
  rw [e2] at hit3
  have q1 : IsIt h' s1.heap.objs.size a true xs.length 0 := ⟨Nat.zero_le _, hit.at fun o eo => up _ _ eo⟩
  have q2 : IsIt h' s2.heap.objs.size b true ys.length 0 := ⟨Nat.zero_le _, hit3⟩
  refine ⟨s2.heap.objs.size + 1 + 2, [s2.heap.objs.size + 1 + 2, s2.heap.objs.size + 1, s2.heap.objs.size + 1 + 1, s1.heap.objs.size, s2.heap.objs.size], _, _, H2, rfl, I5, turn_zz D, ⟨a1, a2, ⟨_, _, a3⟩, q1, q2⟩, fun c hcm => ?_, q⟩
  have e' : c = s2.heap.objs.size + 1 + 2 ∨ c = s2.heap.objs.size + 1 ∨ c = s2.heap.objs.size + 1 + 1 ∨ c = s1.heap.objs.size ∨ c = s2.heap.objs.size := by simpa using hcm
  have le1 : s2.heap.objs.size ≤ s2.heap.objs.size + 1 + 2 := by omega
  have le2 : s2.heap.objs.size ≤ s2.heap.objs.size + 1 + 1 := by omega
  rcases e' with z | z | z | z | z
  · rw [z]; exact I4.fpOk le1 (I4.hok.fresh le1)
  · rw [z]; exact I4.fpOk (Nat.le_add_right _ _) (I4.hok.fresh (Nat.le_add_right _ _))
  · rw [z]; exact I4.fpOk le2 (I4.hok.fresh le2)
  · rw [z]; exact ⟨hun, fp1.2⟩
  · rw [z]; exact I4.fpOk (Nat.le_refl _) (I4.hok.fresh (Nat.le_refl _))
end
end Zp
end
section
set_option maxRecDepth 100000
set_option maxHeartbeats 1000000
/-! Ev7: what loops go over; list comprehensions. -/
namespace Ev
open PySem L2 RT RZ

structure Feed (K : Fg) (J : It) (us : List V) (ds its : List D) : Prop where
  go : ∀ k d F H, Same F H → Rdbs K F H us ds → its[k]? = some d → J.go k H
  yld : ∀ k d F H, Same F H → Rdbs K F H us ds → its[k]? = some d → ∀ x H', J.yld k H x H' → ∃ F', Same H H' ∧ Same F F' ∧ Same F' H' ∧ (∀ a o, F' a = some o → F a = some o ∨ H a = none) ∧ Rep K F' x d
  stop : ∀ F H, Same F H → Rdbs K F H us ds → J.stop its.length H
def tI (K : Fg) (W : WX) (w : Wk) (r : C → R (List Vl)) : TI := fun σ H R => ∃ F c α, Wf K F H σ c.env α ∧
  WpR (r c) (fun vs c1 => ∀ us F1 H1, Wf K F1 H1 σ c1.env α → Tr K c.env c1.env α F H F1 H1 → VsOk K H F1 H1 σ c1.env α us vs → ∃ its, wkD w (vs.map Vl.rd) = some its ∧ ∀ J, Feed K J us (vs.map Vl.rd) its → R J H1) (PX K W σ F H c α)
theorem pi_mono {X : Cx} {tg e : Expr} {t t' : TI} (h : PI X tg e t) (m : ∀ σ H R, t' σ H R → t σ H R) : PI X tg e t' := ⟨fun pins s σ H R I q => h.run pins s σ H R I (m σ H R q)⟩
theorem pi_or {X : Cx} {tg e : Expr} {t t' : TI} (h : PI X tg e t) (h' : PI X tg e t') : PI X tg e (fun σ H R => t σ H R ∨ t' σ H R) := ⟨fun pins s σ H R I q => q.elim (h.run pins s σ H R I) (h'.run pins s σ H R I)⟩

section
variable {K : Fg}
theorem rdbs1 {F H : Hp} {u : V} {d : D} (h : Rdbs K F H [u] [d]) : Rdb K F H u d := by
  cases h with
  | cons a b => exact a
theorem feed_list {a : Addr} {xs : List D} : Feed K (Itl K a) [.ref a] [.lst xs] xs where
  go := fun k d F H hs h e => by
    obtain ⟨b, vs, eb, g, r⟩ := (rdbs1 h).list hs
    cases eb
    obtain ⟨v, e1, _⟩ := r.get e
    exact ⟨vs, v, g, e1⟩
  yld := fun k d F H hs h e x H' y => by
    obtain ⟨b, vs, eb, g, r⟩ := (rdbs1 h).list hs
    cases eb
    obtain ⟨rfl, y⟩ := y
    obtain ⟨v, e1, rv⟩ := r.get e
    have := y vs g
    rw [e1] at this; cases this
    exact ⟨F, Same.refl _, Same.refl _, hs, fun _ _ q => .inl q, rv⟩
  stop := fun F H hs h => by
    obtain ⟨b, vs, eb, g, r⟩ := (rdbs1 h).list hs
    cases eb
    exact ⟨vs, g, by rw [r.length]; exact Nat.le_refl _⟩
theorem feed_tup {a : Addr} {xs : List D} : Feed K (Itt K a) [.ref a] [.tup xs] xs where
  go := fun k d F H hs h e => by
    obtain ⟨b, vs, eb, g, f, r⟩ := (rdbs1 h).tup hs
    cases eb
    obtain ⟨v, e1, _⟩ := r.get e
    exact ⟨vs, v, g, e1⟩
  yld := fun k d F H hs h e x H' y => by
    obtain ⟨b, vs, eb, g, f, r⟩ := (rdbs1 h).tup hs
    cases eb
    obtain ⟨rfl, y⟩ := y
    obtain ⟨v, e1, rv⟩ := r.get e
    have := y vs g
    rw [e1] at this; cases this
    exact ⟨F, Same.refl _, Same.refl _, hs, fun _ _ q => .inl q, rv⟩
  stop := fun F H hs h => by
    obtain ⟨b, vs, eb, g, f, r⟩ := (rdbs1 h).tup hs
    cases eb
    exact ⟨vs, g, by rw [r.length]; exact Nat.le_refl _⟩
theorem feed_str {z : PySem.Str} (hz : okS z = true) : Feed K (Its z) [.str z] [.str z.cps.toList] (z.cps.toList.map fun c => .str [c]) where
  go := fun k d F H hs h e => by
    have : k < z.cps.size := by
      have := (List.getElem?_eq_some_iff.mp e).1
      simpa using this
    exact this
  yld := fun k d F H hs h e x H' y => by
    obtain ⟨rfl, c, e1, rfl⟩ := y
    rw [List.getElem?_map] at e
    obtain ⟨c', e2, rfl⟩ := Option.map_eq_some_iff.mp e
    have e3 : z.cps[k]? = some c' := by simpa using e2
    rw [e1] at e3; cases e3
    exact ⟨F, Same.refl _, Same.refl _, hs, fun _ _ q => .inl q, rep_sign (okS_mem hz (List.mem_of_getElem? e2))⟩
  stop := fun F H hs h => by
    show z.cps.size ≤ _
    simp
theorem rngL_len : ∀ (n : Nat) (lo : Int), (rngL lo n).length = n
  | 0, _ => rfl
  | n + 1, lo => by simp [rngL, rngL_len n]
theorem rngL_get : ∀ (n : Nat) (lo : Int) (k : Nat) (d : D), (rngL lo n)[k]? = some d → k < n ∧ d = .int (lo + k)
  | 0, _, _, _, h => by simp [rngL] at h
  | n + 1, lo, 0, d, h => by simp [rngL] at h; subst h; simp
  | n + 1, lo, k + 1, d, h => by
    simp only [rngL, List.getElem?_cons_succ] at h
    obtain ⟨h1, h2⟩ := rngL_get n (lo + 1) k d h
    refine ⟨by omega, ?_⟩
    rw [h2]
    congr 1
    omega
theorem feed_rng {lo : Int} {n : Nat} {us : List V} {ds : List D} : Feed K (Itr lo n) us ds (rngL lo n) where
  go := fun k d F H hs h e => (rngL_get n lo k d e).1
  yld := fun k d F H hs h e x H' y => by
    obtain ⟨rfl, rfl⟩ := y
    obtain ⟨_, rfl⟩ := rngL_get n lo k d e
    exact ⟨F, Same.refl _, Same.refl _, hs, fun _ _ q => .inl q, .int _⟩
  stop := fun F H hs h => by
    show n ≤ _
    rw [rngL_len]; exact Nat.le_refl _
theorem feed_rev {a : Addr} {n : Nat} {xs : List D} (hn : xs.length = n) : Feed K (Itv K a n) [.ref a] [.lst xs] xs.reverse where
  go := fun k d F H hs h e => by
    obtain ⟨b, vs, eb, g, r⟩ := (rdbs1 h).list hs
    cases eb
    obtain ⟨v, e1, _⟩ := r.reverse.get e
    have hk : k < vs.length := by
      have := (List.getElem?_eq_some_iff.mp e1).1
      simpa using this
    have hl := r.length
    refine ⟨by omega, vs, v, g, ?_⟩
    rw [List.getElem?_reverse hk] at e1
    rw [← e1]; congr 1; omega
  yld := fun k d F H hs h e x H' y => by
    obtain ⟨b, vs, eb, g, r⟩ := (rdbs1 h).list hs
    cases eb
    obtain ⟨rfl, y⟩ := y
    obtain ⟨v, e1, rv⟩ := r.reverse.get e
    have hk : k < vs.length := by
      have := (List.getElem?_eq_some_iff.mp e1).1
      simpa using this
    have hl := r.length
    rw [List.getElem?_reverse hk] at e1
    have q := y vs g
    have ei : n - 1 - k = vs.length - 1 - k := by omega
    rw [ei, e1] at q; cases q
    exact ⟨F, Same.refl _, Same.refl _, hs, fun _ _ q => .inl q, rv⟩
  stop := fun F H hs h => by
    show n ≤ _
    simp [hn]
theorem feed_revT {a : Addr} {n : Nat} {xs : List D} (hn : xs.length = n) : Feed K (ItvT K a n) [.ref a] [.tup xs] xs.reverse where
  go := fun k d F H hs h e => by
    obtain ⟨b, vs, eb, g, f, r⟩ := (rdbs1 h).tup hs
    cases eb
    obtain ⟨v, e1, _⟩ := r.reverse.get e
    have hk : k < vs.length := by
      have := (List.getElem?_eq_some_iff.mp e1).1
      simpa using this
    have hl := r.length
    refine ⟨by omega, vs, v, g, ?_⟩
    rw [List.getElem?_reverse hk] at e1
    rw [← e1]; congr 1; omega
  yld := fun k d F H hs h e x H' y => by
    obtain ⟨b, vs, eb, g, f, r⟩ := (rdbs1 h).tup hs
    cases eb
    obtain ⟨rfl, y⟩ := y
    obtain ⟨v, e1, rv⟩ := r.reverse.get e
    have hk : k < vs.length := by
      have := (List.getElem?_eq_some_iff.mp e1).1
      simpa using this
    have hl := r.length
    rw [List.getElem?_reverse hk] at e1
    have q := y vs g
    have ei : n - 1 - k = vs.length - 1 - k := by omega
    rw [ei, e1] at q; cases q
    exact ⟨F, Same.refl _, Same.refl _, hs, fun _ _ q => .inl q, rv⟩
  stop := fun F H hs h => by
    show n ≤ _
    simp [hn]
theorem enumF_get : ∀ (xs : List D) (n k : Nat) (d : D), (enumF n xs)[k]? = some d → ∃ x, xs[k]? = some x ∧ d = .tup [.int (n + k : Nat), x]
  | [], _, _, _, h => by simp [enumF] at h
  | x :: xs, n, 0, d, h => by simp [enumF] at h; exact ⟨x, rfl, by simp [h]⟩
  | x :: xs, n, k + 1, d, h => by
    simp only [enumF, List.getElem?_cons_succ] at h
    obtain ⟨y, h1, h2⟩ := enumF_get xs (n + 1) k d h
    refine ⟨y, by simpa using h1, ?_⟩
    rw [h2, show n + 1 + k = n + (k + 1) by omega]
theorem enumF_len : ∀ (xs : List D) (n : Nat), (enumF n xs).length = xs.length
  | [], _ => rfl
  | x :: xs, n => by simp [enumF, enumF_len xs]
theorem new_pair {F H : Hp} {p : Addr} {u v : V} {d e : D} (hs : Same F H) (hp : H p = none) (r1 : Rep K F u d) (r2 : Rep K F v e) :
    ∃ F', Same H (upd H p (.tup [u, v])) ∧ Same F F' ∧ Same F' (upd H p (.tup [u, v])) ∧ (∀ a o, F' a = some o → F a = some o ∨ H a = none) ∧ Rep K F' (.ref p) (.tup [d, e]) := by
  have sf : Same F (upd F p (.tup [u, v])) := same_upd (free_sub hs hp)
  refine ⟨upd F p (.tup [u, v]), same_upd hp, sf, fun b o q => ?_, fun b o q => ?_, .tup (.inl (.inl upd_same)) (.cons (r1.mono sf) (.cons (r2.mono sf) .nil))⟩
  · by_cases e : b = p
    · subst e; rw [upd_same] at q ⊢; exact q
    · rw [upd_ne e] at q ⊢; exact hs b o q
  · by_cases e : b = p
    · subst e; exact .inr hp
    · rw [upd_ne e] at q; exact .inl q
theorem feed_enum {a : Addr} {xs : List D} : Feed K (Ite K a) [.ref a] [.lst xs] (enumF 0 xs) where
  go := fun k d F H hs h e => by
    obtain ⟨b, vs, eb, g, r⟩ := (rdbs1 h).list hs
    cases eb
    obtain ⟨y, e0, _⟩ := enumF_get xs 0 k d e
    obtain ⟨v, e1, _⟩ := r.get e0
    exact ⟨vs, v, g, e1⟩
  yld := fun k d F H hs h e x H' y => by
    obtain ⟨b, vs, eb, g, r⟩ := (rdbs1 h).list hs
    cases eb
    obtain ⟨z, e0, rfl⟩ := enumF_get xs 0 k d e
    obtain ⟨v, e1, rv⟩ := r.get e0
    obtain ⟨T, u, rfl, hT, rfl, y⟩ := y
    have := y vs g
    rw [e1] at this; cases this
    rw [Nat.zero_add]
    exact new_pair hs hT (.int _) rv
  stop := fun F H hs h => by
    obtain ⟨b, vs, eb, g, r⟩ := (rdbs1 h).list hs
    cases eb
    exact ⟨vs, g, by rw [r.length, enumF_len]; exact Nat.le_refl _⟩
theorem feed_enumT {a : Addr} {xs : List D} : Feed K (IteT K a) [.ref a] [.tup xs] (enumF 0 xs) where
  go := fun k d F H hs h e => by
    obtain ⟨b, vs, eb, g, f, r⟩ := (rdbs1 h).tup hs
    cases eb
    obtain ⟨y, e0, _⟩ := enumF_get xs 0 k d e
    obtain ⟨v, e1, _⟩ := r.get e0
    exact ⟨vs, v, g, e1⟩
  yld := fun k d F H hs h e x H' y => by
    obtain ⟨b, vs, eb, g, f, r⟩ := (rdbs1 h).tup hs
    cases eb
    obtain ⟨z, e0, rfl⟩ := enumF_get xs 0 k d e
    obtain ⟨v, e1, rv⟩ := r.get e0
    obtain ⟨T, u, rfl, hT, rfl, y⟩ := y
    have := y vs g
    rw [e1] at this; cases this
    rw [Nat.zero_add]
    exact new_pair hs hT (.int _) rv
  stop := fun F H hs h => by
    obtain ⟨b, vs, eb, g, f, r⟩ := (rdbs1 h).tup hs
    cases eb
    exact ⟨vs, g, by rw [r.length, enumF_len]⟩
theorem feed_enumS {z : PySem.Str} (hz : okS z = true) : Feed K (IteS z) [.str z] [.str z.cps.toList] (enumF 0 (z.cps.toList.map fun c => .str [c])) where
  go := fun k d F H hs h e => by
    have q := (List.getElem?_eq_some_iff.mp e).1
    rw [enumF_len] at q
    show k < z.cps.size
    simpa using q
  yld := fun k d F H hs h e x H' y => by
    obtain ⟨w, e0, rfl⟩ := enumF_get _ 0 k d e
    rw [List.getElem?_map] at e0
    obtain ⟨c', e2, rfl⟩ := Option.map_eq_some_iff.mp e0
    obtain ⟨T, c, rfl, hT, rfl, y⟩ := y
    have e3 : z.cps[k]? = some c' := by simpa using e2
    rw [y] at e3; cases e3
    rw [Nat.zero_add]
    exact new_pair hs hT (.int _) (rep_sign (okS_mem hz (List.mem_of_getElem? e2)))
  stop := fun F H hs h => by
    show z.cps.size = _
    simp [enumF_len]
theorem zipT_get : ∀ (xs ys : List D) (k : Nat) (d : D), (zipT xs ys)[k]? = some d → ∃ x y, xs[k]? = some x ∧ ys[k]? = some y ∧ d = .tup [x, y]
  | [], _, _, _, h => by simp [zipT] at h
  | _ :: _, [], _, _, h => by simp [zipT] at h
  | x :: xs, y :: ys, 0, d, h => by simp [zipT] at h; exact ⟨x, y, rfl, rfl, h.symm⟩
  | x :: xs, y :: ys, k + 1, d, h => by
    simp only [zipT, List.getElem?_cons_succ] at h
    obtain ⟨a, b, h1, h2, h3⟩ := zipT_get xs ys k d h
    exact ⟨a, b, by simpa using h1, by simpa using h2, h3⟩
theorem zipT_len : ∀ (xs ys : List D), (zipT xs ys).length = min xs.length ys.length
  | [], _ => by simp [zipT]
  | _ :: _, [] => by simp [zipT]
  | x :: xs, y :: ys => by simp only [zipT, List.length_cons, zipT_len xs ys]; omega
theorem rdbs2 {F H : Hp} {u v : V} {d e : D} (h : Rdbs K F H [u, v] [d, e]) : Rdb K F H u d ∧ Rdb K F H v e := by
  cases h with
  | cons a b => exact ⟨a, rdbs1 b⟩
theorem feed_zip {a b : Addr} {xs ys : List D} : Feed K (Itz K a b) [.ref a, .ref b] [.lst xs, .lst ys] (zipT xs ys) where
  go := fun k d F H hs h e => by
    obtain ⟨a', vs, ea, g, r⟩ := (rdbs2 h).1.list hs
    obtain ⟨b', ws, eb, g', r'⟩ := (rdbs2 h).2.list hs
    cases ea; cases eb
    obtain ⟨y, z, e0, e1, _⟩ := zipT_get xs ys k d e
    obtain ⟨v, e2, _⟩ := r.get e0
    obtain ⟨w, e3, _⟩ := r'.get e1
    exact ⟨vs, ws, v, w, g, g', e2, e3⟩
  yld := fun k d F H hs h e x H' y => by
    obtain ⟨a', vs, ea, g, r⟩ := (rdbs2 h).1.list hs
    obtain ⟨b', ws, eb, g', r'⟩ := (rdbs2 h).2.list hs
    cases ea; cases eb
    obtain ⟨p, q, e0, e1, rfl⟩ := zipT_get xs ys k d e
    obtain ⟨v, e2, rv⟩ := r.get e0
    obtain ⟨w, e3, rw'⟩ := r'.get e1
    obtain ⟨T, u, u', rfl, hT, rfl, y1, y2⟩ := y
    have t1 := y1 vs g
    have t2 := y2 ws g'
    rw [e2] at t1; rw [e3] at t2; cases t1; cases t2
    exact new_pair hs hT rv rw'
  stop := fun F H hs h => by
    obtain ⟨a', vs, ea, g, r⟩ := (rdbs2 h).1.list hs
    obtain ⟨b', ws, eb, g', r'⟩ := (rdbs2 h).2.list hs
    cases ea; cases eb
    exact ⟨vs, ws, g, g', by rw [r.length, r'.length, zipT_len]; omega⟩
theorem feed_zipT {a b : Addr} {xs ys : List D} : Feed K (ItzT K a b) [.ref a, .ref b] [.tup xs, .tup ys] (zipT xs ys) where
  go := fun k d F H hs h e => by
    obtain ⟨a', vs, ea, g, f, r⟩ := (rdbs2 h).1.tup hs
    obtain ⟨b', ws, eb, g', f', r'⟩ := (rdbs2 h).2.tup hs
    cases ea; cases eb
    obtain ⟨y, z, e0, e1, _⟩ := zipT_get xs ys k d e
    obtain ⟨v, e2, _⟩ := r.get e0
    obtain ⟨w, e3, _⟩ := r'.get e1
    exact ⟨vs, ws, v, w, g, g', e2, e3⟩
  yld := fun k d F H hs h e x H' y => by
    obtain ⟨a', vs, ea, g, f, r⟩ := (rdbs2 h).1.tup hs
    obtain ⟨b', ws, eb, g', f', r'⟩ := (rdbs2 h).2.tup hs
    cases ea; cases eb
    obtain ⟨p, q, e0, e1, rfl⟩ := zipT_get xs ys k d e
    obtain ⟨v, e2, rv⟩ := r.get e0
    obtain ⟨w, e3, rw'⟩ := r'.get e1
    obtain ⟨T, u, u', rfl, hT, rfl, y1, y2⟩ := y
    have t1 := y1 vs g
    have t2 := y2 ws g'
    rw [e2] at t1; rw [e3] at t2; cases t1; cases t2
    exact new_pair hs hT rv rw'
  stop := fun F H hs h => by
    obtain ⟨a', vs, ea, g, f, r⟩ := (rdbs2 h).1.tup hs
    obtain ⟨b', ws, eb, g', f', r'⟩ := (rdbs2 h).2.tup hs
    cases ea; cases eb
    exact ⟨vs, ws, g, g', by rw [r.length, r'.length, zipT_len]; omega⟩
end

/-! ### the walks' rules -/
section
variable {X : Cx} {W : WX} {L : Lk} {P : Pg} {call : CallT} {a b : Expr} {ra rb : C → R Vl} {tg : Expr}
/-- one argument as a list -/
def one (r : C → R Vl) : C → R (List Vl) := fun c => (r c).bind fun v c => .ok [v] c
theorem vs_one {K : Fg} {H₀ F H : Hp} {σ : L2.St} {ρ : List Sl} {α : Nat → Addr} {u : V} {v : Vl} (h : VOk K H₀ F H σ ρ α u v) : VsOk K H₀ F H σ ρ α [u] [v] := ⟨h, trivial, fun _ _ q => by simp [tmpsOf] at q⟩
theorem ti_one {w : Wk} {σ : L2.St} {H : Hp} {R' : It → Hp → Prop} (h : tI X.K W w (one ra) σ H R') (Qf : V → Hp → Prop)
    (go : ∀ v u F1 H1, Same F1 H1 → Rdb X.K F1 H1 u v → (∃ its, wkD w [v] = some its ∧ ∀ J, Feed X.K J [u] [v] its → R' J H1) → Qf u H1) : tV X.K W ra σ H Qf := by
  obtain ⟨F, c, α, w0, hw⟩ := h
  refine ⟨F, c, α, w0, hw.bind.mono (fun v c1 hk u F1 H1 w1 t1 v1 => ?_) fun _ _ hq => hq⟩
  exact go v.rd u F1 H1 w1.sub (v1.rdb w1) (hk [u] F1 H1 w1 t1 (vs_one v1))
theorem i_seq (ha : PE X a (tV X.K W ra)) : PI X tg a (tI X.K W .seq (one ra)) := by
  refine pi_mono (pi_or (pi_list ha) (pi_or (pi_tup ha) (pi_str ha))) fun σ H R' h => ?_
  obtain ⟨F, c, α, w0, hw⟩ := id h
  cases e : ra c with
  | st => simp only [one, e, R.bind, WpR] at hw
  | ex x c' =>
    left
    exact ⟨F, c, α, w0, by simpa only [one, e, R.bind, WpR] using hw⟩
  | ok v c1 =>
    simp only [one, e, R.bind, WpR] at hw
    have mk : ∀ (Qf : V → Hp → Prop), (∀ u F1 H1, Same F1 H1 → Rdb X.K F1 H1 u v.rd → (∃ its, wkD .seq [v.rd] = some its ∧ ∀ J, Feed X.K J [u] [v.rd] its → R' J H1) → Qf u H1) → tV X.K W ra σ H Qf := fun Qf go =>
      ⟨F, c, α, w0, by
        rw [e]
        exact fun u F1 H1 w1 t1 v1 => go u F1 H1 w1.sub (v1.rdb w1) (hw [u] F1 H1 w1 t1 (vs_one v1))⟩
    have none_of : ∀ {P' : Prop}, (∀ its, wkD .seq [v.rd] ≠ some its) → (∀ Qf : V → Hp → Prop, tV X.K W ra σ H Qf) := fun {P'} hn Qf => mk Qf fun u F1 H1 s1 r1 ⟨its, q, _⟩ => absurd q (hn its)
    cases ed : v.rd with
    | lst xs =>
      left
      refine mk _ fun u F1 H1 s1 r1 ⟨its, q, go⟩ => ?_
      rw [ed] at q r1 go
      cases q
      obtain ⟨l, vs, rfl, g, r⟩ := r1.list s1
      exact ⟨l, rfl, ⟨vs, g⟩, go _ feed_list⟩
    | tup xs =>
      right; left
      refine mk _ fun u F1 H1 s1 r1 ⟨its, q, go⟩ => ?_
      rw [ed] at q r1 go
      cases q
      obtain ⟨l, vs, rfl, g, f, r⟩ := r1.tup s1
      exact ⟨l, rfl, ⟨vs, g⟩, go _ feed_tup⟩
    | str z =>
      right; right
      refine mk _ fun u F1 H1 s1 r1 ⟨its, q, go⟩ => ?_
      rw [ed] at q r1 go
      obtain ⟨hl, q⟩ := some_ifp q
      subst q
      obtain ⟨z, rfl, ez, oz⟩ := r1.str
      subst ez
      exact ⟨z, rfl, go _ (feed_str oz)⟩
    | _ =>
      left
      exact none_of (P' := True) (fun its q => by rw [ed] at q; cases q) _
theorem i_enum (hy : Hyp L P call W X) {x : PySem.Str} {p pos tpos : Pos} {elts : List Expr} {kk : Nat} (hst : ∀ x y, a ≠ .Starred x y) (hg : glB X.env.scope x = true) (hx : x = ("enumerate" : PySem.Str)) (ha : PE X a (tV X.K W ra)) :
    PI X (.Tuple elts kk tpos) (.Call (.Name x p) [a] [] pos) (tI X.K W .enum (one ra)) := by
  subst hx
  obtain ⟨h1, h2, h3⟩ := gl_of hg
  refine pi_mono (pi_enumA h1 (hy.blt _ (by decide +kernel)) ha (args_ok hst)) fun σ H R' h => ?_
  refine ti_one h _ fun v u F1 H1 s1 r1 ⟨its, q, go⟩ => ?_
  cases v <;> first | (cases q; done) | skip
  · obtain ⟨hl, q⟩ := some_ifp q
    subst q
    obtain ⟨z, rfl, ez, oz⟩ := r1.str
    subst ez
    exact .inr (.inr ⟨z, rfl, go _ (feed_enumS oz)⟩)
  · cases q
    obtain ⟨l, vs, rfl, g, f, r⟩ := r1.tup s1
    exact .inr (.inl ⟨l, vs, rfl, g, go _ feed_enumT⟩)
  · cases q
    obtain ⟨l, vs, rfl, g, r⟩ := r1.list s1
    exact .inl ⟨l, vs, rfl, g, go _ feed_enum⟩
theorem i_rev (hy : Hyp L P call W X) {x : PySem.Str} {p pos : Pos} (hst : ∀ x y, a ≠ .Starred x y) (hg : glB X.env.scope x = true) (hx : x = ("reversed" : PySem.Str)) (ha : PE X a (tV X.K W ra)) :
    PI X tg (.Call (.Name x p) [a] [] pos) (tI X.K W .revd (one ra)) := by
  subst hx
  obtain ⟨h1, h2, h3⟩ := gl_of hg
  refine pi_mono (pi_revA h1 (hy.blt _ (by decide +kernel)) ha (args_ok hst)) fun σ H R' h => ?_
  refine ti_one h _ fun v u F1 H1 s1 r1 ⟨its, q, go⟩ => ?_
  cases v <;> first | (cases q; done) | skip
  · cases q
    obtain ⟨l, vs, rfl, g, f, r⟩ := r1.tup s1
    exact ⟨l, vs, rfl, .inr ⟨g, go _ (feed_revT r.length.symm)⟩⟩
  · cases q
    obtain ⟨l, vs, rfl, g, r⟩ := r1.list s1
    exact ⟨l, vs, rfl, .inl ⟨g, go _ (feed_rev r.length.symm)⟩⟩
theorem i_rng1 (hy : Hyp L P call W X) {x : PySem.Str} {p pos : Pos} (hst : ∀ x y, a ≠ .Starred x y) (hg : glB X.env.scope x = true) (hx : x = ("range" : PySem.Str)) (ha : PE X a (tV X.K W ra)) :
    PI X tg (.Call (.Name x p) [a] [] pos) (tI X.K W .rng1 (one ra)) := by
  subst hx
  obtain ⟨h1, h2, h3⟩ := gl_of hg
  refine pi_mono (pi_range1 h1 (hy.blt _ (by decide +kernel)) (pa_cons ha pa_nil (args_ok hst)) (args_ok hst)) fun σ H R' h => ?_
  refine ti_one h _ fun v u F1 H1 s1 r1 ⟨its, q, go⟩ => ?_
  cases v <;> first | (cases q; done) | skip
  obtain ⟨hl, q⟩ := some_if q
  subst q
  have hl := in62_iff hl
  obtain rfl := r1.int
  exact ⟨_, rfl, hl.1, hl.2, go _ feed_rng⟩
/-- two arguments as a list -/
def two (r s : C → R Vl) : C → R (List Vl) := fun c => (r c).bind fun v c => (s c).bind fun u c => .ok [v, u] c
theorem ti_two {w : Wk} {σ : L2.St} {H : Hp} {R' : It → Hp → Prop} (h : tI X.K W w (two ra rb) σ H R') (Qf : V → V → Hp → Prop)
    (go : ∀ v v' u u' F1 H1, Same F1 H1 → Rdb X.K F1 H1 u v → Rdb X.K F1 H1 u' v' → (∃ its, wkD w [v, v'] = some its ∧ ∀ J, Feed X.K J [u, u'] [v, v'] its → R' J H1) → Qf u u' H1) :
    tV X.K W ra σ H fun u H1 => tV X.K W rb σ H1 fun u' H2 => Qf u u' H2 := by
  obtain ⟨F, c, α, w0, hw⟩ := h
  refine sn (okP := fun vs c1 => ∀ us F1 H1, Wf X.K F1 H1 σ c1.env α → Tr X.K c.env c1.env α F H F1 H1 → VsOk X.K H F1 H1 σ c1.env α us vs → ∃ its, wkD w (vs.map Vl.rd) = some its ∧ ∀ J, Feed X.K J us (vs.map Vl.rd) its → R' J H1) w0 .refl hw fun v c1 u F1 H1 w1 t1 v1 h1 => ?_
  refine sn w1 t1 h1 fun v' c2 u' F2 H2 w2 t2 v2 h2 => ?_
  have v1' := v1.on w0 t1 w1 t2
  refine go v.rd v'.rd u u' F2 H2 w2.sub (v1'.rdb w2) (v2.rdb w2) (h2 [u, u'] F2 H2 w2 (t1.trans t2) ⟨v1', vs_one (v2.base t1.same), fun x e hm => ?_⟩)
  subst e
  obtain ⟨p, e1, h0, hf, ho⟩ := v1
  obtain ⟨o, q⟩ := ho.there
  obtain ⟨p', e2, h2⟩ := tmps_fresh (vs_one v2) hm
  rw [e1] at e2; cases e2
  rw [q] at h2; cases h2
theorem i_rng2 (hy : Hyp L P call W X) {x : PySem.Str} {p pos : Pos} (hst : ∀ x y, a ≠ .Starred x y) (hst' : ∀ x y, b ≠ .Starred x y) (hg : glB X.env.scope x = true) (hx : x = ("range" : PySem.Str)) (ha : PE X a (tV X.K W ra)) (hb : PE X b (tV X.K W rb)) :
    PI X tg (.Call (.Name x p) [a, b] [] pos) (tI X.K W .rng2 (two ra rb)) := by
  subst hx
  obtain ⟨h1, h2, h3⟩ := gl_of hg
  have e2 : starEach [b] X.env = [(false, eval b X.env)] := args_ok hst'
  refine pi_mono (pi_range2 h1 (hy.blt _ (by decide +kernel)) (pa_cons ha (pa_cons hb pa_nil (args_ok hst')) (args_ok hst)) (by rw [args_ok hst, e2]) e2) fun σ H R' h => ?_
  refine ti_two h _ fun v v' u u' F1 H1 s1 r1 r2 ⟨its, q, go⟩ => ?_
  cases v <;> first | (cases q; done) | skip
  cases v' <;> first | (cases q; done) | skip
  obtain ⟨hl, q⟩ := some_if q
  subst q
  simp only [Bool.and_eq_true] at hl
  have hl1 := in62_iff hl.1
  have hl2 := in62_iff hl.2
  obtain rfl := r1.int
  obtain rfl := r2.int
  exact ⟨_, _, rfl, ⟨hl1.1, hl1.2, hl2.1, hl2.2⟩, go _ feed_rng⟩
theorem bind_as {α β γ : Type} {r : R α} {f : α → C → R β} {g : β → C → R γ} : (r.bind f).bind g = r.bind fun a c => (f a c).bind g := by cases r <;> rfl
theorem at_rv {α : Type} {xs : List α} {n k : Nat} (r : Bool) (hn : xs.length = n) (hk : k < n) : (if r then xs.reverse else xs)[k]? = xs[Zp.itPos r n k]? := by
  cases r with
  | false => rfl
  | true =>
    show xs.reverse[k]? = _
    rw [List.getElem?_reverse (by omega)]
    simp only [Zp.itPos]
    congr 1; omega
theorem feed_zz {K : Fg} {a b : Addr} {r : Bool} {n1 n2 : Nat} {xs ys : List D} (h1 : xs.length = n1) (h2 : ys.length = n2) : Feed K (Zp.Itzz K true r n1 n2 a b) [.ref a, .ref b] [.lst xs, .lst ys] (zipT xs.reverse (if r then ys.reverse else ys)) where
  go := fun k d F H hs h e => by
    obtain ⟨a', vs, ea, g, rr⟩ := (rdbs2 h).1.list hs
    obtain ⟨b', ws, eb, g', rr'⟩ := (rdbs2 h).2.list hs
    cases ea; cases eb
    have hk := (List.getElem?_eq_some_iff.mp e).1
    rw [zipT_len] at hk
    have hl2 : (if r then ys.reverse else ys).length = n2 := by cases r <;> simp [h2]
    rw [hl2, List.length_reverse, h1] at hk
    have hk1 : k < n1 := by omega
    have hk2 : k < n2 := by omega
    obtain ⟨y, z, e0, e1, _⟩ := zipT_get _ _ k d e
    have e0' := (at_rv true h1 hk1).symm.trans e0
    have e1' := (at_rv r h2 hk2).symm.trans e1
    obtain ⟨v, e2, _⟩ := rr.get e0'
    obtain ⟨w, e3, _⟩ := rr'.get e1'
    exact ⟨vs, ws, v, w, g, g', hk1, hk2, e2, e3⟩
  yld := fun k d F H hs h e x H' y => by
    obtain ⟨a', vs, ea, g, rr⟩ := (rdbs2 h).1.list hs
    obtain ⟨b', ws, eb, g', rr'⟩ := (rdbs2 h).2.list hs
    cases ea; cases eb
    have hk := (List.getElem?_eq_some_iff.mp e).1
    rw [zipT_len] at hk
    have hl2 : (if r then ys.reverse else ys).length = n2 := by cases r <;> simp [h2]
    rw [hl2, List.length_reverse, h1] at hk
    have hk1 : k < n1 := by omega
    have hk2 : k < n2 := by omega
    obtain ⟨p, q, e0, e1, rfl⟩ := zipT_get _ _ k d e
    obtain ⟨v, e2, rv⟩ := rr.get ((at_rv true h1 hk1).symm.trans e0)
    obtain ⟨w, e3, rw'⟩ := rr'.get ((at_rv r h2 hk2).symm.trans e1)
    obtain ⟨T, u, u', rfl, hT, rfl, y1, y2⟩ := y
    have t1 := y1 vs g
    have t2 := y2 ws g'
    rw [e2] at t1; rw [e3] at t2; cases t1; cases t2
    exact new_pair hs hT rv rw'
  stop := fun F H hs h => by
    obtain ⟨a', vs, ea, g, rr⟩ := (rdbs2 h).1.list hs
    obtain ⟨b', ws, eb, g', rr'⟩ := (rdbs2 h).2.list hs
    cases ea; cases eb
    have hl2 : (if r then ys.reverse else ys).length = n2 := by cases r <;> simp [h2]
    refine ⟨vs, ws, g, g', by rw [rr.length, h1], by rw [rr'.length, h2], ?_⟩
    rw [zipT_len, hl2, List.length_reverse, h1]
    omega
theorem ti_zz {r : Bool} {σ : L2.St} {H : Hp} {R' : It → Hp → Prop} (h : tI X.K W (.zipr r) (two (fun c => (ra c).bind kIsl) rb) σ H R') :
    tV X.K W ra σ H fun v H1 => ∃ (a : Addr) (xs : List V), v = .ref a ∧ SqL X.K H1 a xs ∧ tV X.K W rb σ H1 fun v2 H2 => ∃ (b : Addr) (ys xs' : List V), v2 = .ref b ∧ SqL X.K H2 a xs' ∧ SqL X.K H2 b ys ∧ R' (Zp.Itzz X.K true r xs.length ys.length a b) H2 := by
  obtain ⟨F, c, α, w0, hw⟩ := h
  have e : two (fun c => (ra c).bind kIsl) rb c = (ra c).bind fun v c => (kIsl v c).bind fun v c => (rb c).bind fun u c => .ok [v, u] c := bind_as
  rw [e] at hw
  clear e
  refine sn (okP := fun vs c1 => ∀ us F1 H1, Wf X.K F1 H1 σ c1.env α → Tr X.K c.env c1.env α F H F1 H1 → VsOk X.K H F1 H1 σ c1.env α us vs → ∃ its, wkD (.zipr r) (vs.map Vl.rd) = some its ∧ ∀ J, Feed X.K J us (vs.map Vl.rd) its → R' J H1) w0 .refl hw fun v c1 u F1 H1 w1 t1 v1 h1 => ?_
  have rd1 := v1.rdb w1
  unfold kIsl at h1
  cases e : v.rd <;> rw [e] at h1 rd1 <;> first | exact False.elim h1 | skip
  rename_i xs
  obtain ⟨l, vs, rfl, g, rr⟩ := rd1.list w1.sub
  refine ⟨l, vs, rfl, g, ?_⟩
  refine sn w1 t1 h1 fun v' c2 u' F2 H2 w2 t2 v2 h2 => ?_
  have v1' := v1.on w0 t1 w1 t2
  obtain ⟨its, q, go⟩ := h2 [_, u'] F2 H2 w2 (t1.trans t2) ⟨v1', vs_one (v2.base t1.same), fun x e0 hm => by
    subst e0
    obtain ⟨p, e1, h0, hf, ho⟩ := v1
    obtain ⟨o, q⟩ := ho.there
    obtain ⟨p', e2, h2⟩ := tmps_fresh (vs_one v2) hm
    rw [e1] at e2; cases e2
    rw [q] at h2; cases h2⟩
  have rd1' := v1'.rdb w2
  have rd2 := v2.rdb w2
  rw [List.map_cons, List.map_cons, List.map_nil, e] at q go
  rw [e] at rd1'
  cases e2 : v'.rd <;> rw [e2] at q go rd2 <;> first | (cases q; done) | skip
  rename_i ys
  cases q
  obtain ⟨l', vs', el, g', rr'⟩ := rd1'.list w2.sub
  cases el
  obtain ⟨b, ws, rfl, gb, rrb⟩ := rd2.list w2.sub
  exact ⟨b, ws, vs', rfl, g', gb, go _ (feed_zz rr.length.symm rrb.length.symm)⟩
theorem i_zrl (hy : Hyp L P call W X) {x y : PySem.Str} {p p2 pos pos2 tpos : Pos} {elts : List Expr} {kk : Nat} (hst : ∀ x y, a ≠ .Starred x y) (hst' : ∀ x y, b ≠ .Starred x y) (hg : glB X.env.scope x = true) (hx : x = ("zip" : PySem.Str)) (hg2 : glB X.env.scope y = true) (hy2 : y = ("reversed" : PySem.Str)) (ha : PE X a (tV X.K W ra)) (hb : PE X b (tV X.K W rb)) :
    PI X (.Tuple elts kk tpos) (.Call (.Name x p) [.Call (.Name y p2) [a] [] pos2, b] [] pos) (tI X.K W (.zipr false) (two (fun c => (ra c).bind kIsl) rb)) := by
  subst hx hy2
  obtain ⟨h1, _, _⟩ := gl_of hg
  obtain ⟨h2, _, _⟩ := gl_of hg2
  exact pi_mono (Zp.pi_zip_rl h1 (hy.blt _ (by decide +kernel)) h2 (hy.blt _ (by decide +kernel)) ha hb (args_ok hst) (args_ok (by simp)) (args_ok hst') (back_no (by simpa using hst') pos)) fun σ H R' h => ti_zz h
theorem i_zrr (hy : Hyp L P call W X) {x y z : PySem.Str} {p p2 p3 pos pos2 pos3 tpos : Pos} {elts : List Expr} {kk : Nat} (hst : ∀ x y, a ≠ .Starred x y) (hst' : ∀ x y, b ≠ .Starred x y) (hg : glB X.env.scope x = true) (hx : x = ("zip" : PySem.Str)) (hg2 : glB X.env.scope y = true) (hy2 : y = ("reversed" : PySem.Str)) (hg3 : glB X.env.scope z = true) (hz2 : z = ("reversed" : PySem.Str)) (ha : PE X a (tV X.K W ra)) (hb : PE X b (tV X.K W rb)) :
    PI X (.Tuple elts kk tpos) (.Call (.Name x p) [.Call (.Name y p2) [a] [] pos2, .Call (.Name z p3) [b] [] pos3] [] pos) (tI X.K W (.zipr true) (two (fun c => (ra c).bind kIsl) rb)) := by
  subst hx hy2 hz2
  obtain ⟨h1, _, _⟩ := gl_of hg
  obtain ⟨h2, _, _⟩ := gl_of hg2
  exact pi_mono (Zp.pi_zip_rr h1 (hy.blt _ (by decide +kernel)) h2 (hy.blt _ (by decide +kernel)) ha hb (args_ok hst) (args_ok (by simp)) (args_ok (by simp)) (args_ok hst') (back_no (by simp) pos)) fun σ H R' h => ti_zz h
theorem i_zip (hy : Hyp L P call W X) {x : PySem.Str} {p pos tpos : Pos} {elts : List Expr} {kk : Nat} (hst : ∀ x y, a ≠ .Starred x y) (hst' : ∀ x y, b ≠ .Starred x y) (hg : glB X.env.scope x = true) (hx : x = ("zip" : PySem.Str)) (ha : PE X a (tV X.K W ra)) (hb : PE X b (tV X.K W rb)) :
    PI X (.Tuple elts kk tpos) (.Call (.Name x p) [a, b] [] pos) (tI X.K W .zip (two ra rb)) := by
  subst hx
  obtain ⟨h1, h2, h3⟩ := gl_of hg
  refine pi_mono (pi_zipA h1 (hy.blt _ (by decide +kernel)) (pa_cons ha (pa_cons hb pa_nil (args_ok hst')) (args_ok hst)) (args_ok hst) (back_no (by simpa using hst') pos)) fun σ H R' h => ?_
  refine ti_two h _ fun v v' u u' F1 H1 s1 r1 r2 ⟨its, q, go⟩ => ?_
  cases v <;> first | (cases q; done) | skip
  · cases v' <;> first | (cases q; done) | skip
    cases q
    obtain ⟨l, vs, rfl, g, f, r⟩ := r1.tup s1
    obtain ⟨l', vs', rfl, g', f', r'⟩ := r2.tup s1
    exact ⟨l, l', vs, vs', rfl, .inr ⟨g, g', go _ feed_zipT⟩⟩
  · cases v' <;> first | (cases q; done) | skip
    cases q
    obtain ⟨l, vs, rfl, g, r⟩ := r1.list s1
    obtain ⟨l', vs', rfl, g', r'⟩ := r2.list s1
    exact ⟨l, l', vs, vs', rfl, .inl ⟨g, g', go _ feed_zip⟩⟩
end
end Ev
end
section
set_option maxRecDepth 100000
set_option maxHeartbeats 1000000
/-! Ev8: targets; list comprehensions. -/
namespace Ev
open PySem L2
section
variable {K : Fg} {F H F₁ H₁ : Hp} {σ : L2.St} {ρ : List Sl} {α : Nat → Addr}
/-- a name gets data -/
theorem Wf.set (w : Wf K F H σ ρ α) {i : Nat} {x : D} {v : V} (r : Rep K F v x) : Wf K F H (σ.set i (some v)) (setS ρ i (.dat x)) α := by
  refine ⟨w.sub, by rw [setS_length, List.length_set]; exact w.len, fun j => ?_, fun j k y z e1 e2 => ?_⟩
  · rw [getS_setS]
    by_cases h : i = j ∧ i < ρ.length
    · rw [if_pos h, ← h.1, List.getElem?_set_self (by rw [← w.len]; exact h.2)]
      exact ⟨v, rfl, r⟩
    · rw [if_neg h]
      by_cases hij : i = j
      · have hl : ρ.length ≤ j := by
          rcases Nat.lt_or_ge i ρ.length with q | q
          · exact absurd ⟨hij, q⟩ h
          · omega
        rw [getS_out _ _ hl]
        trivial
      · rw [List.getElem?_set_ne hij]
        exact w.slot j
  · exact w.inj j k y z (own_setS e1) (own_setS e2)
/-- an object that is nobody's is changed -/
theorem Wf.out (w : Wf K F H σ ρ α) {p : Addr} {o : HO} (hf : F p = none) (hn : ∀ i x, getS ρ i = .own x → α i ≠ p) : Wf K F (upd H p o) σ ρ α := by
  refine ⟨fun b q e => ?_, w.len, fun i => ?_, w.inj⟩
  · rw [upd_ne (by rintro rfl; rw [hf] at e; cases e)]
    exact w.sub b q e
  · have k := w.slot i
    cases e : getS ρ i with
    | no => trivial
    | dat x => rw [e] at k; exact k
    | own x =>
      rw [e] at k
      obtain ⟨k1, k2, k3⟩ := k
      exact ⟨k1, k2, k3.mono (Same.refl _) (upd_ne (hn i x e))⟩
/-- the frame's values agree where something is known -/
theorem Wf.frame (w : Wf K F H σ ρ α) {σ' : L2.St} {ρ' : List Sl} (hl : ρ'.length = σ'.length) (h : ∀ i, getS ρ' i = .no ∨ (getS ρ' i = getS ρ i ∧ σ'[i]? = σ[i]?)) : Wf K F H σ' ρ' α := by
  refine ⟨w.sub, hl, fun i => ?_, fun i j x y e1 e2 => ?_⟩
  · rcases h i with q | ⟨q1, q2⟩
    · rw [q]; trivial
    · rw [q1, q2]; exact w.slot i
  · have f : ∀ i x, getS ρ' i = .own x → getS ρ i = .own x := fun i x e => by
      rcases h i with q | ⟨q1, q2⟩
      · rw [q] at e; cases e
      · rw [← q1]; exact e
    exact w.inj i j x y (f i x e1) (f j y e2)
theorem getS_no (l : List Sl) (i : Nat) : getS (setS l i .no) i = .no := by
  rw [getS_setS]
  split
  · rfl
  · rename_i h
    have : l.length ≤ i := by
      rcases Nat.lt_or_ge i l.length with q | q
      · exact absurd ⟨rfl, q⟩ h
      · exact q
    exact getS_out _ _ this
theorem wipe_env (c : C) : ∀ (vs : List Nat) (i : Nat), getS (c.wipe vs).env i = if i ∈ vs then .no else getS c.env i
  | [], i => by simp [C.wipe]
  | v :: vs, i => by
    show getS (setS (c.wipe vs).env v .no) i = _
    by_cases h : v = i
    · subst h
      rw [getS_no]; simp
    · rw [getS_setS, if_neg (by simp [h]), wipe_env c vs i]
      simp [Ne.symm h]
theorem wipe_len (c : C) : ∀ (vs : List Nat), (c.wipe vs).env.length = c.env.length
  | [] => rfl
  | v :: vs => by
    show (setS (c.wipe vs).env v .no).length = _
    rw [setS_length, wipe_len c vs]
theorem getS_wipeσ {vs : List Nat} {i : Nat} (h : i ∉ vs) : (wipe σ vs)[i]? = σ[i]? := wipe_out h
theorem wipe_get : ∀ {vs : List Nat} {i : Nat}, (wipe σ vs)[i]? = if i ∈ vs then (σ[i]?).map fun _ => none else σ[i]?
  | [], i => by simp [wipe]
  | v :: vs, i => by
    unfold wipe
    by_cases h : v = i
    · subst h
      rw [List.getElem?_set_self']
      rw [wipe_get (vs := vs)]
      split
      · simp; cases σ[v]? <;> simp
      · simp; rfl
    · rw [List.getElem?_set_ne h, wipe_get (vs := vs)]
      simp [Ne.symm h]
theorem wipe_ext {σ' : L2.St} {vs : List Nat} (hl : σ'.length = σ.length) (h : ∀ i, i ∉ vs → σ'[i]? = σ[i]?) : wipe σ' vs = wipe σ vs := by
  apply List.ext_getElem?
  intro i
  rw [wipe_get, wipe_get]
  split
  · have : σ'[i]?.isSome = σ[i]?.isSome := by
      rw [Bool.eq_iff_iff]; simp [hl]
    cases e1 : σ'[i]? <;> cases e2 : σ[i]? <;> simp [e1, e2] at this ⊢
  · exact h i (by assumption)
end

/-! ### targets -/
def gNs : List Nat → TGs
  | [] => gNil
  | i :: is => gCons (gName i) (gNs is)
def gT (K : Fg) : Tg → TG
  | .nm i => gName i
  | .tp is => gTup K is.length (gNs is)
def tgMem (j : Nat) : Tg → Prop
  | .nm i => j = i
  | .tp is => j ∈ is
section
variable {K : Fg} {F H : Hp} {α : Nat → Addr}
theorem gNs_ok {Q : L2.St → Hp → Prop} : ∀ {is : List Nat} {vs : List V} {xs : List D} {σ : L2.St} {c : C}, Wf K F H σ c.env α → Reps K F vs xs → is.length = xs.length →
    (∀ σ', Wf K F H σ' (tgt.sets is xs c).env α → σ'.length = σ.length → (∀ j, j ∉ is → σ'[j]? = σ[j]? ∧ getS (tgt.sets is xs c).env j = getS c.env j) → (∀ j x, getS (tgt.sets is xs c).env j = .own x → getS c.env j = .own x) → Q σ' H) → gNs is vs σ H Q
  | [], _, _, σ, c, w, .nil, _, go => ⟨rfl, go σ w rfl (fun _ _ => ⟨rfl, rfl⟩) fun _ _ h => h⟩
  | i :: is, _, _, σ, c, w, .cons (v := v) (d := x) r rs, hl, go => by
    refine ⟨_, _, rfl, ?_⟩
    show gNs is _ (σ.set i (some v)) H Q
    have w1 : Wf K F H (σ.set i (some v)) (c.set i (.dat x)).env α := w.set r
    refine gNs_ok (c := c.set i (.dat x)) w1 rs (by simpa using hl) fun σ' w' hl' h1 h2 => go σ' w' (by rw [hl', List.length_set]) (fun j hj => ?_) fun j y q => own_setS (h2 j y q)
    simp only [List.mem_cons, not_or] at hj
    obtain ⟨e1, e2⟩ := h1 j hj.2
    refine ⟨by rw [e1, List.getElem?_set_ne (Ne.symm hj.1)], ?_⟩
    show getS (tgt.sets is _ (c.set i (.dat x))).env j = _
    rw [e2]
    show getS (setS c.env i (.dat x)) j = _
    rw [getS_setS, if_neg (fun q => hj.1 q.1.symm)]
theorem gT_ok {t : Tg} {v : V} {x : D} {σ : L2.St} {c c' : C} {Q : L2.St → Hp → Prop} (w : Wf K F H σ c.env α) (r : Rep K F v x) (e : tgt t x c = some c')
    (go : ∀ σ', Wf K F H σ' c'.env α → σ'.length = σ.length → (∀ j, ¬ tgMem j t → σ'[j]? = σ[j]? ∧ getS c'.env j = getS c.env j) → (∀ j y, getS c'.env j = .own y → getS c.env j = .own y) → Q σ' H) : gT K t v σ H Q := by
  cases t with
  | nm i =>
    cases e
    refine go _ (w.set r) (by rw [List.length_set]) (fun j hj => ⟨List.getElem?_set_ne (fun q => hj q.symm), ?_⟩) fun j y q => own_setS q
    show getS (setS c.env i (.dat x)) j = _
    rw [getS_setS, if_neg (fun q => hj q.1.symm)]
  | tp is =>
    cases x <;> first | (cases e; done) | skip
    rename_i xs
    obtain ⟨hl, e⟩ := some_ifp e
    subst e
    cases r with
    | tup s rs => exact ⟨_, _, rfl, sqt_mono w.sub s, by rw [rs.length, hl], gNs_ok w rs hl fun σ' w' h0 h1 h2 => go σ' w' h0 h1 h2⟩
end
section
variable {X : Cx}
theorem nms_pgs {sc : Scope} (hsc : ∀ x, locB sc x = true → L2.Loc X.env.scope x) (hN : X.N.Nodup) (hf : ∀ x, locB sc x = true → X.fn x = true ∨ X.env.scope.names.lookup x = some .local) : ∀ {is : List Nat} {es : List Expr}, nmsOk X.N sc is es = true → PGs X es (gNs is) ∧ (assignEach es X.env).length = is.length ∧ (assignEach es X.env).findIdx? (·.1) = none
  | [], [], _ => ⟨pgs_nil, rfl, rfl⟩
  | [], _ :: _, h => by cases h
  | _ :: _, [], h => by cases h
  | i :: is, e :: es, h => by
    cases e with
    | Name x p =>
      simp only [nmsOk, Bool.and_eq_true, tgtB, decide_eq_true_eq] at h
      obtain ⟨h1, h2, h3⟩ := nms_pgs hsc hN hf h.2
      refine ⟨pgs_cons (pg_name hN h.1.1 (hsc x h.1.2) (hf x h.1.2)) h1, by show (assignEach es X.env).length + 1 = is.length + 1; rw [h2], ?_⟩
      show List.findIdx? (·.1) ((false, _) :: assignEach es X.env) = none
      rw [List.findIdx?_cons]
      simp [h3]
    | _ => cases h
theorem pg_T {sc : Scope} (hsc : ∀ x, locB sc x = true → L2.Loc X.env.scope x) (hc : X.calm = true) (hN : X.N.Nodup) (hf : ∀ x, locB sc x = true → X.fn x = true ∨ X.env.scope.names.lookup x = some .local) {t : Tg} {e : Expr} (h : tgOk X.N sc t e = true) : PG X e (gT X.K t) := by
  cases t with
  | nm i =>
    cases e <;> first | (cases h; done) | skip
    simp only [tgOk, tgtB, Bool.and_eq_true, decide_eq_true_eq] at h
    exact pg_name hN h.1 (hsc _ h.2) (hf _ h.2)
  | tp is =>
    cases e <;> first | (cases h; done) | skip
    rename_i es _ _
    obtain ⟨h1, h2, h3⟩ := nms_pgs hsc hN hf (show nmsOk X.N sc is es = true from h)
    exact pg_tup hc h1 h2 h3
end

/-! ### list comprehensions -/
section
variable {X : Cx} {W : WX} {L : Lk} {P : Pg} {call : CallT}
abbrev W0 : WX := fun _ _ _ _ => False
theorem relS_blk (X : Cx) (s : Shared) (H : Hp) (scope : Scope) (C0 : Addr) (cl : List (PySem.Str × Addr)) (fp : List Addr) : (X.blk s H scope (compEnvC scope cl C0 X.env) fp).env.scope = relS scope X.env.scope := rfl
theorem noex_ok {α : Type} {r : R α} {p : α → C → Prop} {q q' : Xc → C → Prop} (h : WpR (noex r) p q) : WpR r p q' := by
  cases r with
  | st => exact h
  | ok a c => exact h
  | ex x c => exact False.elim h
theorem lc_step {f : D → C → R (Option D)} {x : D} {xs acc : List D} {c : C} {p : List D → C → Prop} {q : Xc → C → Prop} (h : WpR (lcL f (x :: xs) acc c) p q) :
    WpR (f x c) (fun o c => match o with
      | some y => acc.length < line ∧ WpR (lcL f xs (acc ++ [y]) c) p q
      | none => WpR (lcL f xs acc c) p q) q := by
  unfold lcL at h
  refine h.bind.mono (fun o c1 h1 => ?_) fun _ _ h => h
  cases o with
  | none => exact h1
  | some y =>
    simp only at h1 ⊢
    split at h1
    · exact ⟨by assumption, h1⟩
    · exact False.elim h1
theorem Rdbs.mono {K : Fg} {F H F' H' : Hp} (fs : Same F F') (hs : Same H H') : ∀ {us : List V} {ds : List D}, Rdbs K F H us ds → Rdbs K F' H' us ds
  | _, _, .nil => .nil
  | _, _, .cons a b => .cons (a.mono fs hs) (Rdbs.mono fs hs b)
/-- the state between two turns -/
structure LcW (K : Fg) (σ : L2.St) (vs : List Nat) (α : Nat → Addr) (F₁ H₁ : Hp) (ρ₁ : List Sl) (Dp : Addr) (F H : Hp) (c : C) (acc : List D) : Prop where
  wf : Wf K F H (wipe σ vs) c.env α
  tr : Tr K ρ₁ c.env α F₁ H₁ F H
  dn : F Dp = none
  lst : ∃ ws, H Dp = some (.lst ws) ∧ Reps K F ws acc
  nov : ∀ i, i ∈ vs → getS c.env i = .no
/-- the reading of a comprehension -/
theorem lc_read {t : Tg} {vs : List Nat} {w : Wk} {re : C → R Vl} {rt : C → R Bool} {ri : C → R (List Vl)} (hv : ∀ j, tgMem j t → j ∈ vs) {σ : L2.St} {H : Hp} {Q : VK}
    (h : tV X.K W (fun c => (ri c).bind fun us c => (ofO (wkD w (us.map Vl.rd)) c).bind fun its c => doLc t vs rt re its c) σ H Q) :
    tLc (tI X.K W w ri) (gT X.K t) (tTt X.K W0 rt) (tV X.K W0 re) vs σ H Q := by
  obtain ⟨F0, c0, α, w0, hw⟩ := h
  refine ⟨F0, c0, α, w0, hw.bind.mono (fun us c1 hk vus F1 H1 w1 t1 v1 => ?_) fun _ _ hq => hq⟩
  obtain ⟨its, ei, hk⟩ := hk.bind.ofO
  refine ⟨its, ei, fun J fd Dp hD => ?_⟩
  unfold doLc at hk
  have hno : ∀ i, i ∈ vs → ∀ x, getS c1.env i ≠ .own x := fun i hi x e => by
    have : vs.any (fun i => isOwn (c1.get i)) = true := List.any_eq_true.mpr ⟨i, hi, by unfold C.get; rw [e]; rfl⟩
    rw [if_pos this] at hk
    exact hk
  have hk : WpR (lcL (lcF t vs rt re) its [] (c1.wipe vs)) (fun ys c => PV X.K σ F0 H c0 α Q (Vl.tmp (.lst ys)) c) (PX X.K W σ F0 H c0 α) := by
    by_cases q : vs.any (fun i => isOwn (c1.get i)) = true
    · rw [if_pos q] at hk; exact False.elim hk
    · rw [if_neg q] at hk; exact hk.bind
  have hcell : ∀ i x, getS c1.env i = .own x → α i ≠ Dp := fun i x e z => by
    obtain ⟨o, q⟩ := w1.there e
    rw [z, hD] at q; cases q
  have sD : Same H1 (upd H1 Dp (.lst [])) := same_upd hD
  have fD : F1 Dp = none := w1.sub.free hD
  -- the state ahead of the first turn
  have start : LcW X.K σ vs α F1 H1 c1.env Dp F1 (upd H1 Dp (.lst [])) (c1.wipe vs) [] := by
    refine ⟨(w1.out fD hcell).frame (by rw [wipe_len, wipe_length]; exact w1.len) fun i => ?_, ⟨sD, Same.refl _, fun _ _ q => .inl q, fun i x q => ?_, fun i x q => .inl ?_⟩, fD, ⟨[], upd_same, .nil⟩, fun i hi => by rw [wipe_env, if_pos hi]⟩
    · rw [wipe_env, wipe_get]
      by_cases hi : i ∈ vs
      · left; rw [if_pos hi]
      · right; simp [hi]
    · rw [wipe_env] at q
      split at q
      · cases q
      · exact q
    · rw [wipe_env]
      split
      · rename_i hi
        exact absurd q (hno i hi x)
      · exact q
  refine ⟨fun i m H' => m = its.length - i ∧ i ≤ its.length ∧ ∃ F c acc, LcW X.K σ vs α F1 H1 c1.env Dp F H' c acc ∧ WpR (lcL (lcF t vs rt re) (its.drop i) acc c) (fun ys c => PV X.K σ F0 H c0 α Q (Vl.tmp (.lst ys)) c) (PX X.K W σ F0 H c0 α),
    ⟨_, rfl, Nat.zero_le _, F1, _, [], start, hk⟩, ?_⟩
  rintro i m H2 ⟨rfl, hi, F2, c2, acc, S, h2⟩
  obtain ⟨ws, hl, rl⟩ := S.lst
  have rd2 : Rdbs X.K F2 H2 vus (us.map Vl.rd) := (rdbs_of w1 v1).mono S.tr.sub S.tr.same
  by_cases hlt : i < its.length
  · right
    obtain ⟨d, ed⟩ : ∃ d, its[i]? = some d := ⟨its[i], List.getElem?_eq_getElem hlt⟩
    have edr : its.drop i = d :: its.drop (i + 1) := by
      rw [List.drop_eq_getElem_cons hlt]
      rw [List.getElem?_eq_getElem hlt] at ed
      cases ed; rfl
    rw [edr] at h2
    refine ⟨fd.go i d F2 H2 S.wf.sub rd2 ed, fun H' => ∃ F c acc, LcW X.K σ vs α F1 H1 c1.env Dp F H' c acc ∧ WpR (lcL (lcF t vs rt re) (its.drop (i + 1)) acc c) (fun ys c => PV X.K σ F0 H c0 α Q (Vl.tmp (.lst ys)) c) (PX X.K W σ F0 H c0 α),
      fun H' q => ⟨its.length - (i + 1), by omega, rfl, hlt, q⟩, fun x H' y => ?_⟩
    obtain ⟨F3, hs3, fs3, s3, new3, r3⟩ := fd.yld i d F2 H2 S.wf.sub rd2 ed x H' y
    obtain ⟨w3, t3⟩ := S.wf.res hs3 fs3 s3 new3
    have h3 := lc_step h2
    unfold lcF at h3
    cases et : tgt t d c2 with
    | none => rw [et] at h3; exact False.elim h3
    | some c3 =>
      rw [et] at h3
      have h3 := (noex_ok (q' := fun _ _ => False) h3).bind
      have key : ∀ i, i ∉ vs → ¬ tgMem i t := fun i hi q => hi (hv i q)
      refine gT_ok w3 r3 et fun σ' w4 hl4 same4 back4 => ⟨?_, ?_⟩
      · have : wipe σ' vs = wipe (wipe σ vs) vs := wipe_ext (by rw [hl4]) fun i hi => (same4 i (key i hi)).1
        rw [this]
        apply wipe_ext
        · rw [wipe_length]
        · intro i hi; exact wipe_out hi
      · -- the test
        have fix4 : ∀ i, i ∉ vs → σ'[i]? = σ[i]? := fun i hi => by rw [(same4 i (key i hi)).1]; exact wipe_out hi
        have len4 : σ'.length = σ.length := by rw [hl4, wipe_length]
        have t4 : Tr X.K c1.env c3.env α F1 H1 F3 H' := by
          have z := S.tr.trans t3
          refine ⟨z.same, z.sub, z.new, fun i x q => z.back i x (back4 i x q), fun i x q => ?_⟩
          rcases z.keep i x q with p | p
          · have hi : i ∉ vs := fun hi => hno i hi x q
            left; rw [(same4 i (key i hi)).2]; exact p
          · exact .inr ⟨p.1, fun y py => p.2 y (back4 i y py)⟩
        have D3 : F3 Dp = none ∧ H' Dp = some (.lst ws) := by
          refine ⟨?_, hs3 _ _ hl⟩
          cases z : F3 Dp with
          | none => rfl
          | some o =>
            rcases new3 _ _ z with q | q
            · rw [S.dn] at q; cases q
            · rw [hl] at q; cases q
        refine ⟨F3, c3, α, w4, h3.mono (fun b c4 h4 F4 H4 w5 t5 => ?_) fun _ _ q => False.elim q⟩
        have tr5 : Tr X.K c1.env c4.env α F1 H1 F4 H4 := t4.trans t5
        have cell5 : ∀ i x, getS c4.env i = .own x → α i ≠ Dp := fun i x q => hcell i x (tr5.back i x q)
        have dn_step : ∀ {ρ ρ' : List Sl} {Fa Ha Fb Hb : Hp}, Tr X.K ρ ρ' α Fa Ha Fb Hb → (∀ i x, getS ρ i = .own x → α i ≠ Dp) → Fa Dp = none → Ha Dp = some (.lst ws) → Fb Dp = none ∧ Hb Dp = some (.lst ws) := fun {ρ ρ' Fa Ha Fb Hb} tt hn ha hb => by
          refine ⟨?_, tt.same _ _ hb⟩
          cases z : Fb Dp with
          | none => rfl
          | some o =>
            rcases tt.new _ _ z with q | q | ⟨i, x, q, e⟩
            · rw [ha] at q; cases q
            · rw [hb] at q; cases q
            · exact absurd e.symm (hn i x q)
        have D4 := dn_step t5 (fun i x q => hcell i x (t4.back i x q)) D3.1 D3.2
        -- from a state in the block to the next turn's
        have wipeWf : ∀ {F : Hp} {Hc : Hp} {c : C}, Wf X.K F Hc σ' c.env α → Wf X.K F Hc (wipe σ vs) (c.wipe vs).env α := fun {F Hc c} z => z.frame (by rw [wipe_len, wipe_length, ← len4]; exact z.len) fun i => by
          rw [wipe_env, wipe_get]
          by_cases hi : i ∈ vs
          · left; rw [if_pos hi]
          · right; simp [hi, fix4 i hi]
        have wipeTr : ∀ {F Hc : Hp} {c : C}, Tr X.K c1.env c.env α F1 H1 F Hc → Tr X.K c1.env (c.wipe vs).env α F1 H1 F Hc := fun {F Hc c} z => by
          refine ⟨z.same, z.sub, z.new, fun i x q => ?_, fun i x q => ?_⟩
          · rw [wipe_env] at q
            split at q
            · cases q
            · exact z.back i x q
          · have hi : i ∉ vs := fun hi => hno i hi x q
            rw [wipe_env, if_neg hi]
            exact z.keep i x q
        cases b with
        | false =>
          simp only [Bool.false_eq_true, if_false] at h4 ⊢
          exact ⟨F4, _, acc, ⟨wipeWf w5, wipeTr tr5, D4.1, ⟨ws, D4.2, rl.mono (fs3.trans t5.sub)⟩, fun i hi => by rw [wipe_env, if_pos hi]⟩, h4⟩
        | true =>
          simp only [if_true] at h4 ⊢
          refine ⟨F4, c4, α, w5, h4.bind.mono (fun yv c5 h5 yu F5 H5 w6 t6 v6 => ?_) fun _ _ q => False.elim q⟩
          obtain ⟨hlen, h5⟩ := h5
          have tr6 := tr5.trans t6
          have D5 := dn_step t6 cell5 D4.1 D4.2
          obtain ⟨F6, z⟩ := freeze w6 (fun i x q => w5.there (t6.back i x q)) v6 c5.sto
          have ec : frz yv ⟨c5.env, c5.sto⟩ = frz yv c5 := rfl
          rw [ec] at z
          have D6 : F6 Dp = none := by
            cases p : F6 Dp with
            | none => rfl
            | some o =>
              rcases z.new _ _ p with q | ⟨q, _, _⟩ | ⟨i, x, q, e⟩
              · rw [D5.1] at q; cases q
              · rw [D4.2] at q; cases q
              · exact absurd e.symm (hcell i x (tr6.back i x q))
          have cell6 : ∀ i x, getS (frz yv c5).env i = .own x → α i ≠ Dp := fun i x q => hcell i x (tr6.back i x (z.back i x q))
          refine ⟨ws, D5.2, by rw [← (show ws.length = acc.length from rl.length)] at hlen; rw [← line_eq]; exact hlen, F6, _, _, ⟨wipeWf (z.wf.out D6 cell6), wipeTr ⟨fun a o q => ?_, tr6.sub.trans z.sub, fun a o q => ?_, fun i x q => tr6.back i x (z.back i x q), fun i x q => ?_⟩, D6, ⟨ws ++ [yu], upd_same, (rl.mono ((fs3.trans t5.sub).trans (t6.sub.trans z.sub))).app (.one z.rep)⟩, fun i hi => by rw [wipe_env, if_pos hi]⟩, h5⟩
          · rw [upd_ne (ne_of_none q hD)]
            exact tr6.same a o q
          · rcases z.new a o q with q | ⟨q, _, _⟩ | ⟨i, x, q, e⟩
            · exact tr6.new a o q
            · exact .inr (.inl (tr5.same.free q))
            · exact .inr (.inr ⟨i, x, tr6.back i x q, e⟩)
          · rcases tr6.keep i x q with p | p
            · exact z.keep i x p
            · exact .inr ⟨p.1.mono z.sub, fun y py => p.2 y (z.back i y py)⟩
  · left
    have ei2 : i = its.length := by omega
    subst ei2
    rw [List.drop_length] at h2
    refine ⟨fd.stop F2 H2 S.wf.sub rd2, ?_⟩
    have h2 : PV X.K σ F0 H c0 α Q (Vl.tmp (.lst acc)) c2 := h2
    refine h2 _ F2 H2 (S.wf.frame (by rw [← wipe_length σ vs]; exact S.wf.len) fun i => ?_) (t1.trans S.tr) ⟨Dp, rfl, t1.same.free hD, S.dn, ws, hl, rl⟩
    by_cases hi : i ∈ vs
    · left; exact S.nov i hi
    · right; exact ⟨rfl, (wipe_out hi).symm⟩
end
end Ev
end
section
set_option maxRecDepth 100000
set_option maxHeartbeats 1000000
/-! Ev9: every expression that the check takes keeps its reading. -/
namespace Ev
open PySem L2
section
variable {L : Lk} {P : Pg} {call : CallT}
/-- all that is asked of a context -/
structure Al (L : Lk) (P : Pg) (call : CallT) (W : WX) (X : Cx) : Prop where
  hy : Hyp L P call W X
  fn : Fns L P call X
  mt : ∀ g' g, L.hm g' g = true → MOk L call X g' g
theorem Al.blk {W : WX} {X : Cx} (h : Al L P call W X) (s : Shared) (H : Hp) (scope : Scope) (C0 : Addr) (cl : List (PySem.Str × Addr)) (fp : List Addr) : Al L P call W0 (X.blk s H scope (compEnvC scope cl C0 X.env) fp) :=
  ⟨⟨h.hy.calm, h.hy.nd, takes0, h.hy.units, h.hy.blt, h.hy.consts, h.hy.cls, h.hy.news⟩, ⟨fun g hg => ⟨(h.fn.fns g hg).ok⟩⟩, fun g' g hg => ⟨(h.mt g' g hg).ok⟩⟩
theorem blk_loc {X : Cx} (s : Shared) (H : Hp) (scope : Scope) (C0 : Addr) (cl : List (PySem.Str × Addr)) (fp : List Addr) (x : PySem.Str) (h : locB scope x = true) :
    L2.Loc (X.blk s H scope (compEnvC scope cl C0 X.env) fp).env.scope x ∧ ((X.blk s H scope (compEnvC scope cl C0 X.env) fp).fn x = true ∨ (X.blk s H scope (compEnvC scope cl C0 X.env) fp).env.scope.names.lookup x = some .local) := by
  rcases loc_of h with q | q
  · have e : (relS scope X.env.scope).names.lookup x = some .local := lookup_relS_keep (by decide) q
    exact ⟨.inl e, .inr e⟩
  · have e : (relS scope X.env.scope).names.lookup x = some .cell := lookup_relS_keep (by decide) q
    exact ⟨.inr e, .inl (by show (scope.names.lookup x == some .cell) = true; rw [q]; rfl)⟩
structure TOk (X : Cx) (e : Expr) (t : TT) : Prop where
  pt : PT X e t
  pw : ∀ op l p, e = .BoolOp op l p → PW X e t
theorem pt_st {X : Cx} {W : WX} {e : Expr} : TOk X e (tTt X.K W fun _ => .st) := ⟨⟨fun pins s σ H Q I ⟨F, c, α, w, hw⟩ => False.elim hw⟩, fun _ _ _ _ => ⟨fun wh pins s σ H Q I ⟨F, c, α, w, hw⟩ => False.elim hw⟩⟩
theorem pe_st {X : Cx} {W : WX} {e : Expr} : PE X e (tV X.K W fun _ => .st) := ⟨fun pins s σ H Q I ⟨F, c, α, w, hw⟩ => False.elim hw⟩
/-- no star, no set, no slice passes the check -/
theorem ok_plain {N : List PySem.Str} {sc : Scope} {e : E} {a : Expr} (h : okE L N sc e a = true) : (∀ x y, a ≠ .Starred x y) ∧ (∀ x y z, a ≠ .Set x y z) ∧ (∀ x y s z, a ≠ .Slice x y s z) ∧ (∀ x y, a ≠ .NamedExpr x y (default : Pos)) := by
  refine ⟨fun x y q => ?_, fun x y z q => ?_, fun x y s z q => ?_, fun x y q => ?_⟩ <;> subst q <;> cases e <;> simp [okE, noOdd] at h
theorem ok_stars {N : List PySem.Str} {sc : Scope} : ∀ {es : List E} {as : List Expr}, okEs L N sc es as = true → ∀ a ∈ as, ∀ x y, a ≠ .Starred x y
  | [], [], _ => by simp
  | e :: es, a :: as, h => by
    simp only [okEs, Bool.and_eq_true] at h
    intro z hz
    rcases List.mem_cons.mp hz with rfl | hz
    · exact (ok_plain h.1).1
    · exact ok_stars h.2 z hz
  | [], _ :: _, h => by simp [okEs] at h
  | _ :: _, [], h => by simp [okEs] at h
theorem evEs_len : ∀ (es : List E) (c : C) (vs : List Vl) (c' : C), evEs P call es c = .ok vs c' → vs.length = es.length
  | [], c, vs, c', h => by
    simp only [evEs] at h
    cases h; rfl
  | e :: es, c, vs, c', h => by
    simp only [evEs] at h
    cases e1 : evE P call e c with
    | st => rw [e1] at h; cases h
    | ex x c1 => rw [e1] at h; cases h
    | ok v c1 =>
      rw [e1] at h
      simp only [R.bind] at h
      cases e2 : evEs P call es c1 with
      | st => rw [e2] at h; cases h
      | ex x c2 => rw [e2] at h; cases h
      | ok us c2 =>
        rw [e2] at h
        simp only [R.bind] at h
        cases h
        simp [evEs_len es _ us _ e2]
theorem okEs_len {N : List PySem.Str} {sc : Scope} : ∀ {es : List E} {as : List Expr}, okEs L N sc es as = true → es.length = as.length
  | [], [], _ => rfl
  | e :: es, a :: as, h => by
    simp only [okEs, Bool.and_eq_true] at h
    simp [okEs_len h.2]
  | [], _ :: _, h => by simp [okEs] at h
  | _ :: _, [], h => by simp [okEs] at h
theorem short_of {N : List PySem.Str} {sc : Scope} {es : List E} {as : List Expr} (h : okEs L N sc es as = true) (hl : as.length ≤ 1000) : Short (evEs P call es) := fun c vs c' e => by rw [evEs_len es c vs c' e, okEs_len h]; exact hl

theorem tp_of {N : List PySem.Str} {sc : Scope} {w : Wk} {t : Tg} {tg : Expr} (hw : wkT w t = true) (h : tgOk N sc t tg = true) : (w = .enum ∨ w = .zip ∨ ∃ r, w = .zipr r) → ∃ es k p, tg = .Tuple es k p := by
  intro hh
  cases t with
  | nm i => rcases hh with rfl | rfl | ⟨r, rfl⟩ <;> cases hw
  | tp is => cases tg <;> first | (cases h; done) | exact ⟨_, _, _, rfl⟩
theorem ok_walk {N : List PySem.Str} {sc : Scope} {xs : List E} {w : Wk} {a : Expr} (h : okW L N sc xs w a = true) : ∀ x y z, a ≠ .Set x y z := by
  rcases xs with _ | ⟨x, _ | ⟨y, _ | ⟨_, _⟩⟩⟩
  · cases w <;> simp [okW] at h
  · cases w <;> first | exact (ok_plain (show okE L N sc x a = true from h)).2.1 | (intro p q r e; subst e; simp [okW] at h; done)
  · cases w <;> (intro p q r e; subst e; simp [okW] at h; done)
  · cases w <;> simp [okW] at h
theorem folded {X : Cx} {a : Expr} (h : ∀ x y z, a ≠ .Set x y z) (v : Value) : foldedSetIterable a X.env v = pure v := by
  cases a <;> first | rfl | exact absurd rfl (h _ _ _)
theorem evEs_two (x y : E) : evEs P call [x, y] = two (evE P call x) (evE P call y) := by
  funext c
  unfold two
  simp only [evEs]
  cases evE P call x c with
  | st => rfl
  | ex x c1 => rfl
  | ok v c1 =>
    simp only [R.bind]
    cases evE P call y c1 <;> rfl
theorem mono_ex {α : Type} {r : R α} {p : α → C → Prop} {q q' : Xc → C → Prop} (h : WpR r p q) (hq : ∀ x c, q x c → q' x c) : WpR r p q' := h.mono (fun _ _ z => z) hq
section
variable {N : List PySem.Str} {W : WX} {X : Cx} {sc : Scope} {a : Expr}
theorem cCall {g : Nat} {xs : List E} (A : Al L P call W X) (hs : X.env.scope = sc) (h : okE L N sc (.call g xs) a = true) (hE : ∀ as, okEs L N sc xs as = true → PA X as (tVs X.K W (evEs P call xs))) : PE X a (tV X.K W (evE P call (.call g xs))) := by
  cases a <;> first | (cases h; done) | (simp [okE] at h; done) | skip
  rename_i f as ks p
  cases f <;> first | (cases h; done) | (simp [okE] at h; done) | skip
  cases ks <;> first | (cases h; done) | (simp [okE] at h; done) | skip
  simp only [okE, Bool.and_eq_true, beq_iff_eq] at h
  have h2 := hE _ h.2
  cases as with
  | nil =>
    cases xs with
    | nil => exact e_call0 A.hy A.fn (hs ▸ h.1.1.1) h.1.1.2 h.1.2
    | cons y ys => simp [okEs] at h
  | cons b r => exact e_call A.hy A.fn (hs ▸ h.1.1.1) h.1.1.2 h.1.2 (ok_stars h.2) h2
theorem cBlt {f : Blt} {xs : List E} (A : Al L P call W X) (hs : X.env.scope = sc) (h : okE L N sc (.blt f xs) a = true) (hE : ∀ as, okEs L N sc xs as = true → PA X as (tVs X.K W (evEs P call xs))) : PE X a (tV X.K W (evE P call (.blt f xs))) := by
  cases a <;> first | (cases h; done) | (simp [okE] at h; done) | skip
  rename_i g as ks p
  cases g <;> first | (cases h; done) | (simp [okE] at h; done) | skip
  cases ks <;> first | (cases h; done) | (simp [okE] at h; done) | skip
  simp only [okE, Bool.and_eq_true, beq_iff_eq] at h
  have h2 := hE _ h.2
  cases as with
  | nil => simp at h
  | cons b r => exact e_blt A.hy (hs ▸ h.1.1.1) h.1.1.2 (ok_stars h.2) h2
theorem cIsi {x : E} {t : Ty} (A : Al L P call W X) (hs : X.env.scope = sc) (h : okE L N sc (.isi x t) a = true) (hE : ∀ b, okE L N sc x b = true → PE X b (tV X.K W (evE P call x))) : PE X a (tV X.K W (evE P call (.isi x t))) := by
  cases a <;> first | (cases h; done) | (simp [okE] at h; done) | skip
  rename_i g as ks p
  cases g <;> first | (cases h; done) | (simp [okE] at h; done) | skip
  cases ks <;> first | (cases h; done) | (simp [okE] at h; done) | skip
  rcases as with _ | ⟨b, _ | ⟨d, _ | ⟨_, _⟩⟩⟩ <;> first | (cases h; done) | (simp [okE] at h; done) | skip
  · cases d <;> first | (cases h; done) | (simp [okE] at h; done) | skip
    simp only [okE, Bool.and_eq_true, beq_iff_eq] at h
    exact e_isi A.hy (ok_plain h.2).1 (hs ▸ h.1.1.1.1) h.1.1.1.2 (hs ▸ h.1.1.2) h.1.2 (hE _ h.2)
theorem cIx {x y : E} (h : okE L N sc (.ix x y) a = true) (hx : ∀ b, okE L N sc x b = true → PE X b (tV X.K W (evE P call x))) (hy : ∀ b, okE L N sc y b = true → PE X b (tV X.K W (evE P call y))) : PE X a (tV X.K W (evE P call (.ix x y))) := by
  cases a <;> first | (cases h; done) | (simp [okE] at h; done) | skip
  simp only [okE, Bool.and_eq_true] at h
  exact e_ix (fun p q r => (ok_plain h.2).2.2.1 p q none r) (hx _ h.1) (hy _ h.2)
theorem call_form {g : Nat} {xs : List E} (h : okE L N sc (.call g xs) a = true) : ∃ f as ks p, a = .Call f as ks p := by
  cases a <;> first | (cases h; done) | exact ⟨_, _, _, _, rfl⟩
theorem blt_form {f : Blt} {xs : List E} (h : okE L N sc (.blt f xs) a = true) : ∃ f as ks p, a = .Call f as ks p := by
  cases a <;> first | (cases h; done) | exact ⟨_, _, _, _, rfl⟩
theorem isi_form {x : E} {t : Ty} (h : okE L N sc (.isi x t) a = true) : ∃ f as ks p, a = .Call f as ks p := by
  cases a <;> first | (cases h; done) | exact ⟨_, _, _, _, rfl⟩
theorem ix_form {x y : E} (h : okE L N sc (.ix x y) a = true) : ∃ b d p, a = .Subscript b d p := by
  cases a <;> first | (cases h; done) | exact ⟨_, _, _, rfl⟩
theorem v_form {i : Nat} (h : okE L N sc (.v i) a = true) : ∃ x p, a = .Name x p ∧ varB N sc i x = true := by
  cases a <;> first | (cases h; done) | exact ⟨_, _, rfl, h⟩
theorem leaf_call {f : Expr} {as : List Expr} {ks : List Keyword} {p : Pos} {r : C → R Vl} (h : PE X (.Call f as ks p) (tV X.K W r)) : TOk X (.Call f as ks p) (tTt X.K W fun c => (r c).bind asB) := ⟨t_val h fun _ => rfl, fun _ _ _ e => by cases e⟩
theorem leaf_sub {b d : Expr} {p : Pos} {r : C → R Vl} (h : PE X (.Subscript b d p) (tV X.K W r)) : TOk X (.Subscript b d p) (tTt X.K W fun c => (r c).bind asB) := ⟨t_val h fun _ => rfl, fun _ _ _ e => by cases e⟩
theorem leaf_name {x : PySem.Str} {p : Pos} {r : C → R Vl} (h : PE X (.Name x p) (tV X.K W r)) : TOk X (.Name x p) (tTt X.K W fun c => (r c).bind asB) := ⟨t_val h fun _ => rfl, fun _ _ _ e => by cases e⟩
end
mutual
theorem sE {N : List PySem.Str} : ∀ (e : E) (W : WX) (X : Cx) (sc : Scope) (a : Expr), Al L P call W X → X.N = N → X.env.scope = sc → okE L N sc e a = true → PE X a (tV X.K W (evE P call e))
  | .v i, W, X, sc, a, A, hN, hs, h => by
    cases a <;> first | (cases h; done) | (simp [okE] at h; done) | skip
    subst hN hs
    exact e_var h
  | .k g, W, X, sc, a, A, hN, hs, h => by
    cases a <;> first | (cases h; done) | (simp [okE] at h; done) | skip
    subst hN hs
    simp only [okE, Bool.and_eq_true] at h
    exact e_glob A.hy h.1 h.2
  | .n, W, X, sc, a, A, hN, hs, h => by
    cases a <;> first | (cases h; done) | (simp [okE] at h; done) | skip
    rename_i c k p
    cases c <;> first | (cases h; done) | (simp [okE] at h; done) | skip
    exact e_con pe_non fun F => .non
  | .b x, W, X, sc, a, A, hN, hs, h => by
    cases a <;> first | (cases h; done) | (simp [okE] at h; done) | skip
    rename_i c k p
    cases c <;> first | (cases h; done) | (simp [okE] at h; done) | skip
    simp only [okE] at h
    rw [eq_of_beq h]
    exact e_con pe_bl fun F => .bl _
  | .i x, W, X, sc, a, A, hN, hs, h => by
    cases a <;> first | (cases h; done) | (simp [okE] at h; done) | skip
    rename_i c k p
    cases c <;> first | (cases h; done) | (simp [okE] at h; done) | skip
    simp only [okE] at h
    rw [eq_of_beq h]
    exact e_con pe_int fun F => .int _
  | .s x, W, X, sc, a, A, hN, hs, h => by
    cases a <;> first | (cases h; done) | (simp [okE] at h; done) | skip
    rename_i c k p
    cases c <;> first | (cases h; done) | (simp [okE] at h; done) | skip
    simp only [okE, Bool.and_eq_true, decide_eq_true_eq] at h
    exact e_str h.1 h.2
  | .bin o x y, W, X, sc, a, A, hN, hs, h => by
    cases a <;> first | (cases h; done) | (simp [okE] at h; done) | skip
    simp only [okE, Bool.and_eq_true] at h
    exact e_bin h.1.1 (sE x W X sc _ A hN hs h.1.2) (sE y W X sc _ A hN hs h.2)
  | .neg x, W, X, sc, a, A, hN, hs, h => by
    cases a <;> first | (cases h; done) | (simp [okE] at h; done) | skip
    rename_i o b p
    cases o <;> first | (cases h; done) | (simp [okE] at h; done) | skip
    simp only [okE] at h
    exact e_neg (sE x W X sc _ A hN hs h)
  | .cmp o x y, W, X, sc, a, A, hN, hs, h => by
    cases a <;> first | (cases h; done) | (simp [okE] at h; done) | skip
    rename_i l os cs p
    rcases os with _ | ⟨q, _ | ⟨_, _⟩⟩ <;> first | (cases h; done) | (simp [okE] at h; done) | skip
    rcases cs with _ | ⟨b, _ | ⟨_, _⟩⟩ <;> first | (cases h; done) | (simp [okE] at h; done) | skip
    simp only [okE, Bool.and_eq_true] at h
    exact e_cmp A.hy h.1.1 (ok_plain h.2).2.1 (sE x W X sc _ A hN hs h.1.2) (sE y W X sc _ A hN hs h.2)
  | .chain o o' x y z, W, X, sc, a, A, hN, hs, h => by
    cases a <;> first | (cases h; done) | (simp [okE] at h; done) | skip
    rename_i l os cs p
    rcases os with _ | ⟨q, _ | ⟨r, _ | ⟨_, _⟩⟩⟩ <;> first | (cases h; done) | (simp [okE] at h; done) | skip
    rcases cs with _ | ⟨b, _ | ⟨d, _ | ⟨_, _⟩⟩⟩ <;> first | (cases h; done) | (simp [okE] at h; done) | skip
    simp only [okE, Bool.and_eq_true] at h
    exact e_chain A.hy h.1.1.1.1 h.1.1.1.2 (ok_plain h.2).2.1 (sE x W X sc _ A hN hs h.1.1.2) (sE y W X sc _ A hN hs h.1.2) (sE z W X sc _ A hN hs h.2)
  | .and x y, W, X, sc, a, A, hN, hs, h => by
    cases a <;> first | (cases h; done) | (simp [okE] at h; done) | skip
    rename_i o l p
    cases o <;> first | (cases h; done) | (simp [okE] at h; done) | skip
    rcases l with _ | ⟨b, _ | ⟨d, r⟩⟩ <;> first | (cases h; done) | (simp [okE] at h; done) | skip
    simp only [okE, Bool.and_eq_true] at h
    have h1 := sE x W X sc _ A hN hs h.1
    cases r with
    | nil => exact e_and h1 (e_one (sE y W X sc _ A hN hs h.2))
    | cons z r => exact e_and h1 (sE y W X sc _ A hN hs h.2)
  | .or x y, W, X, sc, a, A, hN, hs, h => by
    cases a <;> first | (cases h; done) | (simp [okE] at h; done) | skip
    rename_i o l p
    cases o <;> first | (cases h; done) | (simp [okE] at h; done) | skip
    rcases l with _ | ⟨b, _ | ⟨d, r⟩⟩ <;> first | (cases h; done) | (simp [okE] at h; done) | skip
    simp only [okE, Bool.and_eq_true] at h
    have h1 := sE x W X sc _ A hN hs h.1
    cases r with
    | nil => exact e_or h1 (e_one (sE y W X sc _ A hN hs h.2))
    | cons z r => exact e_or h1 (sE y W X sc _ A hN hs h.2)
  | .not x, W, X, sc, a, A, hN, hs, h => by
    cases a <;> first | (cases h; done) | (simp [okE] at h; done) | skip
    rename_i o b p
    cases o <;> first | (cases h; done) | (simp [okE] at h; done) | skip
    simp only [okE] at h
    exact e_not (sE x W X sc _ A hN hs h)
  | .ite t x y, W, X, sc, a, A, hN, hs, h => by
    cases a <;> first | (cases h; done) | (simp [okE] at h; done) | skip
    simp only [okE, Bool.and_eq_true] at h
    exact e_ite (sT t W X sc _ A hN hs h.1.1).pt (sE x W X sc _ A hN hs h.1.2) (sE y W X sc _ A hN hs h.2)
  | .call g xs, W, X, sc, a, A, hN, hs, h => cCall A hs h fun as q => sEs xs W X sc as A hN hs q
  | .meth g' g x xs, W, X, sc, a, A, hN, hs, h => by
    cases a <;> first | (cases h; done) | (simp [okE] at h; done) | skip
    rename_i f as ks p
    cases f <;> first | (cases h; done) | (simp [okE] at h; done) | skip
    cases ks <;> first | (cases h; done) | (simp [okE] at h; done) | skip
    simp only [okE, Bool.and_eq_true, beq_iff_eq, decide_eq_true_eq] at h
    obtain ⟨⟨⟨⟨⟨⟨⟨h1, h2⟩, h3⟩, h4⟩, h5⟩, h6⟩, h7⟩, h8⟩ := h
    subst h1
    cases as with
    | nil => simp at h4
    | cons b r => exact e_meth A.hy h3 (by simpa using h6) h5 (A.mt g' g h2) (ok_stars h8) (sE x W X sc _ A hN hs h7) (sEs xs W X sc _ A hN hs h8)
  | .new g xs, W, X, sc, a, A, hN, hs, h => by
    cases a <;> first | (cases h; done) | (simp [okE] at h; done) | skip
    rename_i f as ks p
    cases f <;> first | (cases h; done) | (simp [okE] at h; done) | skip
    cases ks <;> first | (cases h; done) | (simp [okE] at h; done) | skip
    simp only [okE, Bool.and_eq_true, beq_iff_eq] at h
    obtain ⟨⟨⟨⟨h1, h2⟩, h3⟩, h4⟩, h5⟩ := h
    subst h2
    cases as with
    | nil => simp at h4
    | cons b r => exact e_new A.hy (hs ▸ h1) h3 (ok_stars h5) (sEs xs W X sc _ A hN hs h5)
  | .bm _ _ _, W, X, sc, a, A, hN, hs, h => pe_st
  | .fld x g f, W, X, sc, a, A, hN, hs, h => by
    cases a <;> first | (cases h; done) | (simp [okE] at h; done) | skip
    simp only [okE, Bool.and_eq_true, decide_eq_true_eq] at h
    obtain ⟨⟨⟨h1, h2⟩, h3⟩, h4⟩ := h
    exact e_fld h1 h3 (A.hy.cls g h2) (sE x W X sc _ A hN hs h4)
  | .blt f xs, W, X, sc, a, A, hN, hs, h => cBlt A hs h fun as q => sEs xs W X sc as A hN hs q
  | .isi x t, W, X, sc, a, A, hN, hs, h => cIsi A hs h fun b q => sE x W X sc b A hN hs q
  | .ix x y, W, X, sc, a, A, hN, hs, h => cIx h (fun b q => sE x W X sc b A hN hs q) fun b q => sE y W X sc b A hN hs q
  | .sl x lo hi, W, X, sc, a, A, hN, hs, h => by
    cases a <;> first | (cases h; done) | (simp [okE] at h; done) | skip
    rename_i b d p
    cases d <;> first | (cases h; done) | (simp [okE] at h; done) | skip
    rename_i l u s p2
    cases s <;> first | (cases h; done) | (simp [okE] at h; done) | skip
    simp only [okE, Bool.and_eq_true] at h
    exact e_sl (sE x W X sc _ A hN hs h.1.1) (sO lo W X sc _ A hN hs h.1.2) (sO hi W X sc _ A hN hs h.2)
  | .rev x, W, X, sc, a, A, hN, hs, h => by
    cases a <;> first | (cases h; done) | (simp [okE] at h; done) | skip
    rename_i b d p
    cases d <;> first | (cases h; done) | (simp [okE] at h; done) | skip
    rename_i l u s p2
    cases l <;> first | (cases h; done) | (simp [okE] at h; done) | skip
    cases u <;> first | (cases h; done) | (simp [okE] at h; done) | skip
    cases s <;> first | (cases h; done) | (simp [okE] at h; done) | skip
    rename_i s
    cases s <;> first | (cases h; done) | (simp [okE] at h; done) | skip
    rename_i o z p3
    cases o <;> first | (cases h; done) | (simp [okE] at h; done) | skip
    cases z <;> first | (cases h; done) | (simp [okE] at h; done) | skip
    rename_i c k p4
    cases c <;> first | (cases h; done) | (simp [okE] at h; done) | skip
    rename_i n
    by_cases hn : n = 1
    · subst hn
      exact e_rev (sE x W X sc _ A hN hs h)
    · exfalso; simp [okE, hn] at h
  | .tup xs, W, X, sc, a, A, hN, hs, h => by
    cases a <;> first | (cases h; done) | (simp [okE] at h; done) | skip
    simp only [okE, Bool.and_eq_true, decide_eq_true_eq] at h
    exact e_tup (short_of h.1 h.2) (sEs xs W X sc _ A hN hs h.1)
  | .lst xs, W, X, sc, a, A, hN, hs, h => by
    cases a <;> first | (cases h; done) | (simp [okE] at h; done) | skip
    simp only [okE, Bool.and_eq_true, decide_eq_true_eq] at h
    exact e_lst (short_of h.1 h.2) (sEs xs W X sc _ A hN hs h.1)
  | .isl x, W, X, sc, a, A, hN, hs, h => by
    simp only [okE, Bool.and_eq_true] at h
    exact e_isl (sE x W X sc _ A hN hs h.2)
  | .orv x y, W, X, sc, a, A, hN, hs, h => by
    cases a <;> first | (cases h; done) | (simp [okE] at h; done) | skip
    rename_i o l p
    cases o <;> first | (cases h; done) | (simp [okE] at h; done) | skip
    rcases l with _ | ⟨b, _ | ⟨d, _ | ⟨_, _⟩⟩⟩ <;> first | (cases h; done) | (simp [okE] at h; done) | skip
    simp only [okE, Bool.and_eq_true] at h
    exact e_orv (sE x W X sc _ A hN hs h.1) (e_one (sE y W X sc _ A hN hs h.2))
  | .lc e t vs w xs cs, W, X, sc, a, A, hN, hs, h => by
    cases a <;> first | (cases h; done) | (simp [okE] at h; done) | skip
    rename_i elt gs scope p
    rcases gs with _ | ⟨⟨tg, iter, ifs, k⟩, _ | ⟨_, _⟩⟩ <;> first | (cases h; done) | (simp [okE] at h; done) | skip
    simp only [okE, Bool.and_eq_true, decide_eq_true_eq] at h
    obtain ⟨⟨⟨⟨⟨⟨⟨hk, h1⟩, h2⟩, hw⟩, h3⟩, h4⟩, h5⟩, h6⟩ := h
    subst hk
    have hv : ∀ j, tgMem j t → j ∈ vs := by
      cases t with
      | nm i => intro j hj; rw [show j = i from hj]; simpa [tgIn] using h3
      | tp is => intro j hj; simp only [tgIn, List.all_eq_true] at h3; simpa using h3 j hj
    have own : (ownOf N vs).map (·.2) = vs := by simp [ownOf, List.map_map, Function.comp_def]
    have hb := blkOk_by h1
    subst hN hs
    have pi : PI X tg iter (tI X.K W w (evEs P call xs)) := sW xs w W X tg iter _ A rfl rfl h6 (tp_of hw h2)
    have r := pe_lc (pos := p) (g := gT X.K t) (tt := tTt X.K W0 (evTs P call cs)) (te := tV X.K W0 (evE P call e)) A.hy.calm A.hy.nd pi hb (fun s H C0 cl fp => pg_T (fun x hx => (blk_loc s H scope C0 cl fp x hx).1) A.hy.calm A.hy.nd (fun x hx => (blk_loc s H scope C0 cl fp x hx).2) h2)
      (fun s H C0 cl fp => sTs cs W0 _ _ _ (A.blk s H scope C0 cl fp) rfl rfl h5) (fun s H C0 cl fp => sE e W0 _ _ _ (A.blk s H scope C0 cl fp) rfl rfl h4) (fun x => folded (ok_walk h6) x)
    rw [own] at r
    exact pe_mono r fun σ H Q hq => lc_read hv hq
theorem sW {N : List PySem.Str} : ∀ (xs : List E) (w : Wk) (W : WX) (X : Cx) (tg a : Expr) (sc : Scope), Al L P call W X → X.N = N → X.env.scope = sc → okW L N sc xs w a = true → ((w = .enum ∨ w = .zip ∨ ∃ r, w = .zipr r) → ∃ es k p, tg = .Tuple es k p) → PI X tg a (tI X.K W w (evEs P call xs))
  | [x], .seq, W, X, tg, a, sc, A, hN, hs, h, ht => i_seq (sE x W X sc _ A hN hs h)
  | [x], .rng1, W, X, tg, a, sc, A, hN, hs, h, ht => by
    cases a <;> first | (cases h; done) | (simp [okW] at h; done) | skip
    rename_i f as ks p
    cases f <;> first | (cases h; done) | (simp [okW] at h; done) | skip
    rcases as with _ | ⟨a, _ | ⟨_, _⟩⟩ <;> first | (cases h; done) | (simp [okW] at h; done) | skip
    cases ks <;> first | (cases h; done) | (simp [okW] at h; done) | skip
    simp only [okW, Bool.and_eq_true, beq_iff_eq] at h
    exact i_rng1 A.hy (ok_plain h.2).1 (hs ▸ h.1.1) h.1.2 (sE x W X sc _ A hN hs h.2)
  | [x, y], .rng2, W, X, tg, a, sc, A, hN, hs, h, ht => by
    cases a <;> first | (cases h; done) | (simp [okW] at h; done) | skip
    rename_i f as ks p
    cases f <;> first | (cases h; done) | (simp [okW] at h; done) | skip
    rcases as with _ | ⟨a, _ | ⟨b, _ | ⟨_, _⟩⟩⟩ <;> first | (cases h; done) | (simp [okW] at h; done) | skip
    cases ks <;> first | (cases h; done) | (simp [okW] at h; done) | skip
    simp only [okW, Bool.and_eq_true, beq_iff_eq] at h
    rw [evEs_two]
    exact i_rng2 A.hy (ok_plain h.1.2).1 (ok_plain h.2).1 (hs ▸ h.1.1.1) h.1.1.2 (sE x W X sc _ A hN hs h.1.2) (sE y W X sc _ A hN hs h.2)
  | [x], .enum, W, X, tg, a, sc, A, hN, hs, h, ht => by
    obtain ⟨es, k, p0, rfl⟩ := ht (.inl rfl)
    cases a <;> first | (cases h; done) | (simp [okW] at h; done) | skip
    rename_i f as ks p
    cases f <;> first | (cases h; done) | (simp [okW] at h; done) | skip
    rcases as with _ | ⟨a, _ | ⟨_, _⟩⟩ <;> first | (cases h; done) | (simp [okW] at h; done) | skip
    cases ks <;> first | (cases h; done) | (simp [okW] at h; done) | skip
    simp only [okW, Bool.and_eq_true, beq_iff_eq] at h
    exact i_enum A.hy (ok_plain h.2).1 (hs ▸ h.1.1) h.1.2 (sE x W X sc _ A hN hs h.2)
  | [x], .revd, W, X, tg, a, sc, A, hN, hs, h, ht => by
    cases a <;> first | (cases h; done) | (simp [okW] at h; done) | skip
    rename_i f as ks p
    cases f <;> first | (cases h; done) | (simp [okW] at h; done) | skip
    rcases as with _ | ⟨a, _ | ⟨_, _⟩⟩ <;> first | (cases h; done) | (simp [okW] at h; done) | skip
    cases ks <;> first | (cases h; done) | (simp [okW] at h; done) | skip
    simp only [okW, Bool.and_eq_true, beq_iff_eq] at h
    exact i_rev A.hy (ok_plain h.2).1 (hs ▸ h.1.1) h.1.2 (sE x W X sc _ A hN hs h.2)
  | [x, y], .zip, W, X, tg, a, sc, A, hN, hs, h, ht => by
    obtain ⟨es, k, p0, rfl⟩ := ht (.inr (.inl rfl))
    cases a <;> first | (cases h; done) | (simp [okW] at h; done) | skip
    rename_i f as ks p
    cases f <;> first | (cases h; done) | (simp [okW] at h; done) | skip
    rcases as with _ | ⟨a, _ | ⟨b, _ | ⟨_, _⟩⟩⟩ <;> first | (cases h; done) | (simp [okW] at h; done) | skip
    cases ks <;> first | (cases h; done) | (simp [okW] at h; done) | skip
    simp only [okW, Bool.and_eq_true, beq_iff_eq] at h
    rw [evEs_two]
    exact i_zip A.hy (ok_plain h.1.2).1 (ok_plain h.2).1 (hs ▸ h.1.1.1) h.1.1.2 (sE x W X sc _ A hN hs h.1.2) (sE y W X sc _ A hN hs h.2)
  | [x, y], .zipr r, W, X, tg, a, sc, A, hN, hs, h, ht => by
    obtain ⟨es, k, p0, rfl⟩ := ht (.inr (.inr ⟨_, rfl⟩))
    cases a <;> first | (cases h; done) | (simp [okW] at h; done) | skip
    rename_i f as ks p
    cases f <;> first | (cases h; done) | (simp [okW] at h; done) | skip
    rcases as with _ | ⟨a, _ | ⟨b, _ | ⟨_, _⟩⟩⟩ <;> first | (cases h; done) | (simp [okW] at h; done) | skip
    cases ks <;> first | (cases h; done) | (simp [okW] at h; done) | skip
    simp only [okW, Bool.and_eq_true, beq_iff_eq] at h
    obtain ⟨⟨⟨⟨h1, h2⟩, h3⟩, h4⟩, h5⟩ := h
    cases x <;> first | (cases h3; done) | skip
    rename_i x
    cases e : revArg sc a with
    | none => rw [e] at h4; cases h4
    | some a' =>
      rw [e] at h4
      simp only [okE, Bool.and_eq_true] at h4
      obtain ⟨g, p1, p2, rfl, q1, q2⟩ := revArg_form e
      rw [evEs_two]
      cases r with
      | false => exact i_zrl A.hy (ok_plain h4.2).1 (ok_plain h5).1 (hs ▸ h1) h2 (hs ▸ q1) q2 (sE x W X sc _ A hN hs h4.2) (sE y W X sc _ A hN hs h5)
      | true =>
        cases e2 : revArg sc b with
        | none => rw [if_pos rfl, e2] at h5; cases h5
        | some b' =>
          rw [if_pos rfl, e2] at h5
          obtain ⟨g', p3, p4, rfl, q3, q4⟩ := revArg_form e2
          exact i_zrr A.hy (ok_plain h4.2).1 (ok_plain h5).1 (hs ▸ h1) h2 (hs ▸ q1) q2 (hs ▸ q3) q4 (sE x W X sc _ A hN hs h4.2) (sE y W X sc _ A hN hs h5)
  | [], w, W, X, tg, a, sc, A, hN, hs, h, ht => by cases w <;> simp [okW] at h
  | [_], .zipr _, W, X, tg, a, sc, A, hN, hs, h, ht => by simp [okW] at h
  | [_], .rng2, W, X, tg, a, sc, A, hN, hs, h, ht => by simp [okW] at h
  | [_], .rng3, W, X, tg, a, sc, A, hN, hs, h, ht => by simp [okW] at h
  | [_], .zip, W, X, tg, a, sc, A, hN, hs, h, ht => by simp [okW] at h
  | [_], .revdr, W, X, tg, a, sc, A, hN, hs, h, ht => by simp [okW] at h
  | [_, _], .seq, W, X, tg, a, sc, A, hN, hs, h, ht => by simp [okW] at h
  | [_, _], .rng1, W, X, tg, a, sc, A, hN, hs, h, ht => by simp [okW] at h
  | [_, _], .rng3, W, X, tg, a, sc, A, hN, hs, h, ht => by simp [okW] at h
  | [_, _], .enum, W, X, tg, a, sc, A, hN, hs, h, ht => by simp [okW] at h
  | [_, _], .revd, W, X, tg, a, sc, A, hN, hs, h, ht => by simp [okW] at h
  | [_, _], .revdr, W, X, tg, a, sc, A, hN, hs, h, ht => by simp [okW] at h
  | _ :: _ :: _ :: _, w, W, X, tg, a, sc, A, hN, hs, h, ht => by cases w <;> simp [okW] at h
theorem sEs {N : List PySem.Str} : ∀ (es : List E) (W : WX) (X : Cx) (sc : Scope) (as : List Expr), Al L P call W X → X.N = N → X.env.scope = sc → okEs L N sc es as = true → PA X as (tVs X.K W (evEs P call es))
  | [], W, X, sc, as, A, hN, hs, h => by
    cases as with
    | nil => exact a_nil
    | cons a as => cases h
  | e :: es, W, X, sc, as, A, hN, hs, h => by
    cases as with
    | nil => cases h
    | cons a as =>
      simp only [okEs, Bool.and_eq_true] at h
      exact a_cons (ok_plain h.1).1 (sE e W X sc _ A hN hs h.1) (sEs es W X sc _ A hN hs h.2)
theorem sO {N : List PySem.Str} : ∀ (e : Option E) (W : WX) (X : Cx) (sc : Scope) (a : Option Expr), Al L P call W X → X.N = N → X.env.scope = sc → okO L N sc e a = true → PO X a (tO X.K W (evO P call e))
  | none, W, X, sc, a, A, hN, hs, h => by
    cases a with
    | none => exact p_none
    | some a => cases h
  | some e, W, X, sc, a, A, hN, hs, h => by
    cases a with
    | none => cases h
    | some a => exact p_some (sE e W X sc _ A hN hs h)
theorem sT {N : List PySem.Str} : ∀ (e : E) (W : WX) (X : Cx) (sc : Scope) (a : Expr), Al L P call W X → X.N = N → X.env.scope = sc → okE L N sc e a = true → TOk X a (tTt X.K W (evT P call e))
  | .and x y, W, X, sc, a, A, hN, hs, h => by
    cases a <;> first | (cases h; done) | (simp [okE] at h; done) | skip
    rename_i o l p
    cases o <;> first | (cases h; done) | (simp [okE] at h; done) | skip
    rcases l with _ | ⟨b, _ | ⟨d, r⟩⟩ <;> first | (cases h; done) | (simp [okE] at h; done) | skip
    simp only [okE, Bool.and_eq_true] at h
    have h1 := (sT x W X sc _ A hN hs h.1).pt
    have w : PW X (.BoolOp .And (b :: d :: r) p) (tTt X.K W (evT P call (.and x y))) := by
      cases r with
      | nil => exact w_and h1 (w_and1 (sT y W X sc _ A hN hs h.2).pt)
      | cons z r => exact w_and h1 ((sT y W X sc _ A hN hs h.2).pw _ _ _ rfl)
    exact ⟨w.pt, fun _ _ _ e => w⟩
  | .or x y, W, X, sc, a, A, hN, hs, h => by
    cases a <;> first | (cases h; done) | (simp [okE] at h; done) | skip
    rename_i o l p
    cases o <;> first | (cases h; done) | (simp [okE] at h; done) | skip
    rcases l with _ | ⟨b, _ | ⟨d, r⟩⟩ <;> first | (cases h; done) | (simp [okE] at h; done) | skip
    simp only [okE, Bool.and_eq_true] at h
    have h1 := (sT x W X sc _ A hN hs h.1).pt
    have w : PW X (.BoolOp .Or (b :: d :: r) p) (tTt X.K W (evT P call (.or x y))) := by
      cases r with
      | nil => exact w_or h1 (w_or1 (sT y W X sc _ A hN hs h.2).pt)
      | cons z r => exact w_or h1 ((sT y W X sc _ A hN hs h.2).pw _ _ _ rfl)
    exact ⟨w.pt, fun _ _ _ e => w⟩
  | .not x, W, X, sc, a, A, hN, hs, h => by
    cases a <;> first | (cases h; done) | (simp [okE] at h; done) | skip
    rename_i o b p
    cases o <;> first | (cases h; done) | (simp [okE] at h; done) | skip
    simp only [okE] at h
    exact ⟨t_not (sT x W X sc _ A hN hs h).pt, fun _ _ _ e => by cases e⟩
  | .cmp o x y, W, X, sc, a, A, hN, hs, h => by
    cases a <;> first | (cases h; done) | (simp [okE] at h; done) | skip
    rename_i l os cs p
    rcases os with _ | ⟨q, _ | ⟨_, _⟩⟩ <;> first | (cases h; done) | (simp [okE] at h; done) | skip
    rcases cs with _ | ⟨b, _ | ⟨_, _⟩⟩ <;> first | (cases h; done) | (simp [okE] at h; done) | skip
    simp only [okE, Bool.and_eq_true] at h
    exact ⟨t_cmp A.hy h.1.1 (ok_plain h.2).2.1 (sE x W X sc _ A hN hs h.1.2) (sE y W X sc _ A hN hs h.2), fun _ _ _ e => by cases e⟩
  | .chain o o' x y z, W, X, sc, a, A, hN, hs, h => by
    cases a <;> first | (cases h; done) | (simp [okE] at h; done) | skip
    rename_i l os cs p
    rcases os with _ | ⟨q, _ | ⟨r, _ | ⟨_, _⟩⟩⟩ <;> first | (cases h; done) | (simp [okE] at h; done) | skip
    rcases cs with _ | ⟨b, _ | ⟨d, _ | ⟨_, _⟩⟩⟩ <;> first | (cases h; done) | (simp [okE] at h; done) | skip
    simp only [okE, Bool.and_eq_true] at h
    exact ⟨t_chain A.hy h.1.1.1.1 h.1.1.1.2 (ok_plain h.2).2.1 (sE x W X sc _ A hN hs h.1.1.2) (sE y W X sc _ A hN hs h.1.2) (sE z W X sc _ A hN hs h.2), fun _ _ _ e => by cases e⟩
  | .v i, W, X, sc, a, A, hN, hs, h => by
    obtain ⟨x, p, rfl, hv⟩ := v_form h
    subst hN hs
    exact leaf_name (e_var hv)
  | .call g xs, W, X, sc, a, A, hN, hs, h => by
    obtain ⟨f, as, ks, p, rfl⟩ := call_form h
    exact leaf_call (cCall A hs h fun as q => sEs xs W X sc as A hN hs q)
  | .blt g xs, W, X, sc, a, A, hN, hs, h => by
    obtain ⟨f, as, ks, p, rfl⟩ := blt_form h
    exact leaf_call (cBlt A hs h fun as q => sEs xs W X sc as A hN hs q)
  | .isi x t, W, X, sc, a, A, hN, hs, h => by
    obtain ⟨f, as, ks, p, rfl⟩ := isi_form h
    exact leaf_call (cIsi A hs h fun b q => sE x W X sc b A hN hs q)
  | .ix x y, W, X, sc, a, A, hN, hs, h => by
    obtain ⟨b, d, p, rfl⟩ := ix_form h
    exact leaf_sub (cIx h (fun b q => sE x W X sc b A hN hs q) fun b q => sE y W X sc b A hN hs q)
  | .k _, W, X, sc, a, A, hN, hs, h => pt_st
  | .n, W, X, sc, a, A, hN, hs, h => pt_st
  | .b _, W, X, sc, a, A, hN, hs, h => pt_st
  | .i _, W, X, sc, a, A, hN, hs, h => pt_st
  | .s _, W, X, sc, a, A, hN, hs, h => pt_st
  | .bin _ _ _, W, X, sc, a, A, hN, hs, h => pt_st
  | .neg _, W, X, sc, a, A, hN, hs, h => pt_st
  | .ite _ _ _, W, X, sc, a, A, hN, hs, h => pt_st
  | .meth _ _ _ _, W, X, sc, a, A, hN, hs, h => pt_st
  | .new _ _, W, X, sc, a, A, hN, hs, h => pt_st
  | .bm _ _ _, W, X, sc, a, A, hN, hs, h => pt_st
  | .fld _ _ _, W, X, sc, a, A, hN, hs, h => pt_st
  | .sl _ _ _, W, X, sc, a, A, hN, hs, h => pt_st
  | .rev _, W, X, sc, a, A, hN, hs, h => pt_st
  | .tup _, W, X, sc, a, A, hN, hs, h => pt_st
  | .lst _, W, X, sc, a, A, hN, hs, h => pt_st
  | .lc _ _ _ _ _ _, W, X, sc, a, A, hN, hs, h => pt_st
  | .isl _, W, X, sc, a, A, hN, hs, h => pt_st
  | .orv _ _, W, X, sc, a, A, hN, hs, h => pt_st
theorem sTs {N : List PySem.Str} : ∀ (cs : List E) (W : WX) (X : Cx) (sc : Scope) (as : List Expr), Al L P call W X → X.N = N → X.env.scope = sc → okEs L N sc cs as = true → PTs X as (tTt X.K W (evTs P call cs))
  | [], W, X, sc, as, A, hN, hs, h => by
    cases as with
    | nil => exact ⟨fun pins s σ H Q I ⟨F, c, α, w, hw⟩ => pts_nil.run pins s σ H Q I (hw F H w .refl)⟩
    | cons a as => cases h
  | [e], W, X, sc, as, A, hN, hs, h => by
    rcases as with _ | ⟨a, _ | ⟨_, _⟩⟩
    · cases h
    · simp only [okEs, Bool.and_eq_true] at h
      exact pts_one (sT e W X sc _ A hN hs h.1).pt
    · simp [okEs] at h
  | _ :: _ :: _, W, X, sc, as, A, hN, hs, h => ⟨fun pins s σ H Q I ⟨F, c, α, w, hw⟩ => False.elim hw⟩
end
end
end Ev
end
section
set_option maxRecDepth 100000
set_option maxHeartbeats 1000000
/-! Ev10: statements. -/
namespace Ev
open PySem L2

/-- a statement's step; kp: the names whose values stay -/
structure SR (K : Fg) (kp : Nat → Prop) (σ σ' : L2.St) (ρ ρ' : List Sl) (α α' : Nat → Addr) (F H F' H' : Hp) : Prop where
  kept : ∀ a o, H a = some o → (∀ i x, getS ρ i = .own x → a ≠ α i) → H' a = some o
  dom : ∀ a o, H a = some o → ∃ o', H' a = some o'
  sub : Same F F'
  new : ∀ a o, F' a = some o → F a = some o ∨ H a = none ∨ ∃ i x, getS ρ i = .own x ∧ a = α i
  cells : ∀ i x, getS ρ' i = .own x → H (α' i) = none ∨ ∃ j y, getS ρ j = .own y ∧ α' i = α j
  len : σ'.length = σ.length
  fix : ∀ i, kp i → σ'[i]? = σ[i]? ∧ (∀ x, getS ρ i = .own x → getS ρ' i = .own x ∨ (Rep K F' (.ref (α i)) x ∧ ∀ y, getS ρ' i ≠ .own y)) ∧ ∀ y, getS ρ' i = .own y → getS ρ i = .own y
/-- a function's end -/
structure SEnd (ρ : List Sl) (α : Nat → Addr) (F H F' H' : Hp) : Prop where
  kept : ∀ a o, H a = some o → (∀ i x, getS ρ i = .own x → a ≠ α i) → H' a = some o
  sub : Same F F'
  s' : Same F' H'
  new : ∀ a o, F' a = some o → F a = some o ∨ H a = none ∨ ∃ i x, getS ρ i = .own x ∧ a = α i
def RvOk (K : Fg) (ρ : List Sl) (α : Nat → Addr) (H F' H' : Hp) (u : V) : Rv → Prop
  | .d x => Rep K F' u x
  | .own x => ∃ a, u = .ref a ∧ F' a = none ∧ Own K F' H' a x ∧ (H a = none ∨ ∃ i y, getS ρ i = .own y ∧ a = α i)
section
variable {K : Fg} {kp : Nat → Prop} {σ σ' σ'' : L2.St} {ρ ρ' ρ'' : List Sl} {α α' α'' : Nat → Addr} {F H F' H' F'' H'' : Hp}
theorem Tr.sr (t : Tr K ρ ρ' α F H F' H') : SR K kp σ σ ρ ρ' α α F H F' H' :=
  ⟨fun a o h _ => t.same a o h, fun a o h => ⟨o, t.same a o h⟩, t.sub, t.new, fun i x h => .inr ⟨i, x, t.back i x h, rfl⟩, rfl, fun i _ => ⟨rfl, t.keep i, t.back i⟩⟩
theorem SR.refl : SR K kp σ σ ρ ρ α α F H F H := Tr.refl.sr
theorem SR.noCell (s : SR K kp σ σ' ρ ρ' α α' F H F' H') {a : Addr} {o : HO} (h : H a = some o) (hn : ∀ i x, getS ρ i = .own x → a ≠ α i) : ∀ i x, getS ρ' i = .own x → a ≠ α' i := fun i x q e => by
  rcases s.cells i x q with z | ⟨j, y, z, e2⟩
  · rw [← e, h] at z; cases z
  · exact hn j y z (e.trans e2)
theorem SR.newBack (s : SR K kp σ σ' ρ ρ' α α' F H F' H') {a : Addr} (h : H' a = none ∨ ∃ i x, getS ρ' i = .own x ∧ a = α' i) : H a = none ∨ ∃ i x, getS ρ i = .own x ∧ a = α i := by
  rcases h with h | ⟨i, x, q, e⟩
  · left
    cases z : H a with
    | none => rfl
    | some o =>
      obtain ⟨o', p⟩ := s.dom a o z
      rw [h] at p; cases p
  · rcases s.cells i x q with z | ⟨j, y, z, e2⟩
    · exact .inl (e ▸ z)
    · exact .inr ⟨j, y, z, e.trans e2⟩
theorem SR.trans (w : Wf K F H σ ρ α) (w' : Wf K F' H' σ' ρ' α') (s : SR K kp σ σ' ρ ρ' α α' F H F' H') (t : SR K kp σ' σ'' ρ' ρ'' α' α'' F' H' F'' H'') : SR K kp σ σ'' ρ ρ'' α α'' F H F'' H'' := by
  refine ⟨fun a o h hn => t.kept a o (s.kept a o h hn) (s.noCell h hn), fun a o h => ?_, s.sub.trans t.sub, fun a o h => ?_, fun i x h => ?_, t.len.trans s.len, fun i hi => ?_⟩
  · obtain ⟨o', p⟩ := s.dom a o h
    exact t.dom a o' p
  · rcases t.new a o h with h | h
    · exact s.new a o h
    · exact .inr (s.newBack h)
  · rcases t.cells i x h with h | ⟨j, y, q, e⟩
    · exact s.newBack (.inl h)
    · exact s.newBack (.inr ⟨j, y, q, e⟩)
  · obtain ⟨a1, a2, a3⟩ := s.fix i hi
    obtain ⟨b1, b2, b3⟩ := t.fix i hi
    refine ⟨b1.trans a1, fun x h => ?_, fun y h => a3 y (b3 y h)⟩
    rcases a2 x h with q | ⟨q1, q2⟩
    · have e : α' i = α i := by
        have c1 := (w.cell h).1
        have c2 := (w'.cell q).1
        rw [a1, c1] at c2
        exact (V.ref.inj (Option.some.inj (Option.some.inj c2))).symm
      rcases b2 x q with p | p
      · exact .inl p
      · exact .inr ⟨e ▸ p.1, p.2⟩
    · exact .inr ⟨q1.mono t.sub, fun y p => q2 y (b3 y p)⟩
theorem SR.weak {kp' : Nat → Prop} (s : SR K kp σ σ' ρ ρ' α α' F H F' H') (h : ∀ i, kp' i → kp i) : SR K kp' σ σ' ρ ρ' α α' F H F' H' :=
  ⟨s.kept, s.dom, s.sub, s.new, s.cells, s.len, fun i hi => s.fix i (h i hi)⟩
theorem SR.fin (s : SR K kp σ σ' ρ ρ' α α' F H F' H') (t : SEnd ρ' α' F' H' F'' H'') : SEnd ρ α F H F'' H'' := by
  refine ⟨fun a o h hn => t.kept a o (s.kept a o h hn) (s.noCell h hn), s.sub.trans t.sub, t.s', fun a o h => ?_⟩
  rcases t.new a o h with h | h
  · exact s.new a o h
  · exact .inr (s.newBack h)
theorem SR.rv (s : SR K kp σ σ' ρ ρ' α α' F H F' H') {u : V} {v : Rv} (h : RvOk K ρ' α' H' F'' H'' u v) : RvOk K ρ α H F'' H'' u v := by
  cases v with
  | d x => exact h
  | own x =>
    obtain ⟨a, e, h1, h2, h3⟩ := h
    exact ⟨a, e, h1, h2, s.newBack h3⟩
end

section
variable (K : Fg) (W : WX) (kp : Nat → Prop)
def PF (D : Ends) (σ : L2.St) (F H : Hp) (c : C) (α : Nat → Addr) (f : Fl) (c' : C) : Prop := match f with
  | .nx => ∀ σ' F' H' α', Wf K F' H' σ' c'.env α' → SR K kp σ σ' c.env c'.env α α' F H F' H' → D.nx σ' H'
  | .bk => ∀ σ' F' H' α', Wf K F' H' σ' c'.env α' → SR K kp σ σ' c.env c'.env α α' F H F' H' → D.bk σ' H'
  | .ct => ∀ σ' F' H' α', Wf K F' H' σ' c'.env α' → SR K kp σ σ' c.env c'.env α α' F H F' H' → D.ct σ' H'
  | .rt v => ∀ u F' H', SEnd c.env α F H F' H' → RvOk K c.env α H F' H' u v → D.rt u H'
def PXs (σ : L2.St) (F H : Hp) (c : C) (α : Nat → Addr) (x : Xc) (c' : C) : Prop :=
  ∀ cls d σ' F' H' α', Wf K F' H' σ' c'.env α' → SR K kp σ σ' c.env c'.env α α' F H F' H' → XOk K F' H' cls d x → W cls d σ' H'
def tS (r : C → R Fl) : TS := fun D σ H => ∃ F c α, Wf K F H σ c.env α ∧ WpR (r c) (PF K kp D σ F H c α) (PXs K W kp σ F H c α)
end
section
variable {K : Fg} {W : WX} {kp kp' : Nat → Prop} {σ σ₁ : L2.St} {F H F₁ H₁ : Hp} {c c₁ c' : C} {α α₁ : Nat → Addr} {D : Ends}
theorem PXs.on {x : Xc} (w : Wf K F H σ c.env α) (w₁ : Wf K F₁ H₁ σ₁ c₁.env α₁) (s : SR K kp σ σ₁ c.env c₁.env α α₁ F H F₁ H₁) (h : PXs K W kp σ F H c α x c') : PXs K W kp σ₁ F₁ H₁ c₁ α₁ x c' :=
  fun cls d σ2 F2 H2 α2 w2 s2 xk => h cls d σ2 F2 H2 α2 w2 (s.trans w w₁ s2) xk
theorem PXs.px {x : Xc} (h : PXs K W kp σ F H c α x c') : PX K W σ F H c α x c' := fun cls d F' H' w t xk => h cls d σ F' H' α w t.sr xk
theorem PF.on {f : Fl} (w : Wf K F H σ c.env α) (w₁ : Wf K F₁ H₁ σ₁ c₁.env α₁) (s : SR K kp σ σ₁ c.env c₁.env α α₁ F H F₁ H₁) (h : PF K kp D σ F H c α f c') : PF K kp D σ₁ F₁ H₁ c₁ α₁ f c' := by
  cases f with
  | nx => exact fun σ2 F2 H2 α2 w2 s2 => h σ2 F2 H2 α2 w2 (s.trans w w₁ s2)
  | bk => exact fun σ2 F2 H2 α2 w2 s2 => h σ2 F2 H2 α2 w2 (s.trans w w₁ s2)
  | ct => exact fun σ2 F2 H2 α2 w2 s2 => h σ2 F2 H2 α2 w2 (s.trans w w₁ s2)
  | rt v => exact fun u F2 H2 e r => h u F2 H2 (s.fin e) (s.rv r)
theorem PF.weak {f : Fl} (hk : ∀ i, kp i → kp' i) (h : PF K kp D σ F H c α f c') : PF K kp' D σ F H c α f c' := by
  cases f with
  | nx => exact fun σ2 F2 H2 α2 w2 s2 => h σ2 F2 H2 α2 w2 (s2.weak hk)
  | bk => exact fun σ2 F2 H2 α2 w2 s2 => h σ2 F2 H2 α2 w2 (s2.weak hk)
  | ct => exact fun σ2 F2 H2 α2 w2 s2 => h σ2 F2 H2 α2 w2 (s2.weak hk)
  | rt v => exact h
theorem PXs.weak {x : Xc} (hk : ∀ i, kp i → kp' i) (h : PXs K W kp σ F H c α x c') : PXs K W kp' σ F H c α x c' := fun cls d σ' F' H' α' w s xk => h cls d σ' F' H' α' w (s.weak hk) xk
theorem tS_weak {r : C → R Fl} (hk : ∀ i, kp i → kp' i) (h : tS K W kp r D σ H) : tS K W kp' r D σ H := by
  obtain ⟨F, c, α, w, hw⟩ := h
  exact ⟨F, c, α, w, hw.mono (fun _ _ q => q.weak hk) fun _ _ q => q.weak hk⟩
/-- the rest of a block -/
theorem restS {r : C → R Fl} (w : Wf K F H σ c.env α) (w₁ : Wf K F₁ H₁ σ₁ c₁.env α₁) (s : SR K kp σ σ₁ c.env c₁.env α α₁ F H F₁ H₁) (h : WpR (r c₁) (PF K kp D σ F H c α) (PXs K W kp σ F H c α)) : tS K W kp r D σ₁ H₁ :=
  ⟨F₁, c₁, α₁, w₁, h.mono (fun _ _ q => q.on w w₁ s) fun _ _ q => q.on w w₁ s⟩
/-- an expression at a statement's head -/
theorem sv {r : C → R Vl} {k : Vl → C → R Fl} {R' : V → Hp → Prop} (w : Wf K F H σ c.env α) (h : WpR ((r c).bind k) (PF K kp D σ F H c α) (PXs K W kp σ F H c α))
    (go : ∀ v c₁ u F₁ H₁, Wf K F₁ H₁ σ c₁.env α → Tr K c.env c₁.env α F H F₁ H₁ → VOk K H F₁ H₁ σ c₁.env α u v → WpR (k v c₁) (PF K kp D σ F H c α) (PXs K W kp σ F H c α) → R' u H₁) : tV K W r σ H R' :=
  ⟨F, c, α, w, h.bind.mono (fun v c₁ hk u F₁ H₁ w₁ t₁ v₁ => go v c₁ u F₁ H₁ w₁ t₁ v₁ hk) fun _ _ hq => hq.px⟩
theorem svT {r : C → R Bool} {k : Bool → C → R Fl} {R' : Bool → Hp → Prop} (w : Wf K F H σ c.env α) (h : WpR ((r c).bind k) (PF K kp D σ F H c α) (PXs K W kp σ F H c α))
    (go : ∀ b c₁ F₁ H₁, Wf K F₁ H₁ σ c₁.env α → Tr K c.env c₁.env α F H F₁ H₁ → WpR (k b c₁) (PF K kp D σ F H c α) (PXs K W kp σ F H c α) → R' b H₁) : tTt K W r σ H R' :=
  ⟨F, c, α, w, h.bind.mono (fun v c₁ hk F₁ H₁ w₁ t₁ => go v c₁ F₁ H₁ w₁ t₁ hk) fun _ _ hq => hq.px⟩
end

section
variable {X : Cx} {W : WX} {kp : Nat → Prop} {pos : Pos} {a : Expr} {ra : C → R Vl}
theorem ps_mono {st : Stmt} {t t' : TS} (h : PS X st t) (m : ∀ D σ H, t' D σ H → t D σ H) : PS X st t' := ⟨fun pins s σ H D I q => h.run pins s σ H D I (m D σ H q)⟩
theorem pss_mono {st : List Stmt} {t t' : TS} (h : PSs X st t) (m : ∀ D σ H, t' D σ H → t D σ H) : PSs X st t' := ⟨fun pins s σ H D I q => h.run pins s σ H D I (m D σ H q)⟩
theorem k_pass : PS X (.Pass pos) (tS X.K W kp fun c => .ok .nx c) := ps_mono ps_pass fun D σ H ⟨F, c, α, w, hw⟩ => hw σ F H α w .refl
theorem k_brk : PS X (.Break pos) (tS X.K W kp fun c => .ok .bk c) := ps_mono ps_break fun D σ H ⟨F, c, α, w, hw⟩ => hw σ F H α w .refl
theorem k_cnt : PS X (.Continue pos) (tS X.K W kp fun c => .ok .ct c) := ps_mono ps_continue fun D σ H ⟨F, c, α, w, hw⟩ => hw σ F H α w .refl
theorem k_nil : PSs X [] (tS X.K W kp fun c => .ok .nx c) := pss_mono pss_nil fun D σ H ⟨F, c, α, w, hw⟩ => hw σ F H α w .refl
theorem k_cons {st : Stmt} {r : List Stmt} {q q' : C → R Fl} (h1 : PS X st (tS X.K W kp q)) (h2 : PSs X r (tS X.K W kp q')) : PSs X (st :: r) (tS X.K W kp fun c => (q c).bind fun f c => nxt f c q') := by
  refine pss_mono (pss_cons h1 h2) fun D σ H ⟨F, c, α, w, hw⟩ => ?_
  refine ⟨F, c, α, w, hw.bind.mono (fun f c1 hk => ?_) fun _ _ q => q⟩
  cases f with
  | nx => exact fun σ1 F1 H1 α1 w1 s1 => restS w w1 s1 hk
  | bk => exact hk
  | ct => exact hk
  | rt v => exact hk
theorem k_ife {e : Expr} {x y : List Stmt} {qt : C → R Bool} {q q' : C → R Fl} (ht : PT X e (tTt X.K W qt)) (h1 : PSs X x (tS X.K W kp q)) (h2 : PSs X y (tS X.K W kp q')) :
    PS X (.If e x y pos) (tS X.K W kp fun c => (qt c).bind fun b c => if b then q c else q' c) := by
  refine ps_mono (ps_if ht h1 h2) fun D σ H ⟨F, c, α, w, hw⟩ => ?_
  refine svT w hw fun b c1 F1 H1 w1 t1 h => ?_
  cases b with
  | true => exact restS w w1 t1.sr h
  | false => exact restS w w1 t1.sr h
theorem k_exp (ha : PE X a (tV X.K W ra)) (hs : swapsWith a none pos.line X.env = pure false) : PS X (.Expr a pos) (tS X.K W kp fun c => (ra c).bind fun _ c => .ok .nx c) := by
  refine ps_mono (ps_expr ha hs) fun D σ H ⟨F, c, α, w, hw⟩ => ?_
  exact sv w hw fun v c1 u F1 H1 w1 t1 v1 h => h σ F1 H1 α w1 t1.sr
theorem send_of {K : Fg} {σ : L2.St} {F H F₁ H₁ : Hp} {ρ ρ' : List Sl} {α : Nat → Addr} (w : Wf K F₁ H₁ σ ρ' α) (t : Tr K ρ ρ' α F H F₁ H₁) : SEnd ρ α F H F₁ H₁ := ⟨fun a o h _ => t.same a o h, t.sub, w.sub, t.new⟩
theorem k_ret (ha : PE X a (tV X.K W ra)) : PS X (.Return (some a) pos) (tS X.K W kp fun c => (ra c).bind fun v c => .ok (.rt (v.rv c)) c) := by
  refine ps_mono (ps_ret ha) fun D σ H ⟨F, c, α, w, hw⟩ => ?_
  refine sv w hw fun v c1 u F1 H1 w1 t1 v1 h => h u F1 H1 (send_of w1 t1) ?_
  cases v with
  | d x => exact v1
  | tmp x =>
    obtain ⟨p, e, h0, hf, ho⟩ := v1
    exact ⟨p, e, hf, ho, .inl h0⟩
  | bor i x =>
    obtain ⟨e, hσ, h1⟩ := v1
    rcases h1 with h1 | h1
    · obtain ⟨_, k2, k3⟩ := w1.cell h1
      have er : (Vl.bor i x).rv c1 = .own x := by unfold Vl.rv C.get; simp only [h1]
      rw [er]
      exact ⟨_, e, k2, k3, .inr ⟨i, x, t1.back i x h1, rfl⟩⟩
    · have er : (Vl.bor i x).rv c1 = .d x := by
        unfold Vl.rv C.get
        cases q : getS c1.env i with
        | own y => exact absurd q (h1.2 y)
        | _ => simp only [q]
      rw [er]
      exact h1.1
theorem k_retn : PS X (.Return none pos) (tS X.K W kp fun c => .ok (.rt (.d .non)) c) :=
  ps_mono ps_retN fun D σ H ⟨F, c, α, w, hw⟩ => hw _ F H ⟨fun a o h _ => h, Same.refl _, w.sub, fun _ _ h => .inl h⟩ .non

/-! ### assignments -/
section
variable {K : Fg} {σ : L2.St} {F H : Hp} {ρ : List Sl} {α : Nat → Addr}
/-- a name gets data: the step -/
theorem sr_dat (w : Wf K F H σ ρ α) {i : Nat} {x : D} {v : V} (r : Rep K F v x) (hk : ∀ k, kp k → k ≠ i) : Wf K F H (σ.set i (some v)) (setS ρ i (.dat x)) α ∧ SR K kp σ (σ.set i (some v)) ρ (setS ρ i (.dat x)) α α F H F H := by
  refine ⟨w.set r, fun a o h _ => h, fun a o h => ⟨o, h⟩, Same.refl _, fun a o h => .inl h, fun j y h => .inr ⟨j, y, own_setS h, rfl⟩, List.length_set, fun j hj => ⟨List.getElem?_set_ne (hk j hj).symm, fun y h => .inl ?_, fun y h => own_setS h⟩⟩
  rw [getS_setS, if_neg (fun q => hk j hj q.1.symm)]
  exact h
def reα (α : Nat → Addr) (i : Nat) (a : Addr) : Nat → Addr := fun k => if k = i then a else α k
/-- a name gets a list of its own -/
theorem wf_own (w : Wf K F H σ ρ α) {i : Nat} {x : D} {a : Addr} (hf : F a = none) (ho : Own K F H a x) (hn : ∀ j y, getS ρ j = .own y → j ≠ i → α j ≠ a) : Wf K F H (σ.set i (some (.ref a))) (setS ρ i (.own x)) (reα α i a) := by
  have get : ∀ j, getS (setS ρ i (.own x)) j = if i = j ∧ i < ρ.length then .own x else getS ρ j := fun j => getS_setS _ _ _ _
  refine ⟨w.sub, by rw [setS_length, List.length_set]; exact w.len, fun j => ?_, fun j k y z e1 e2 e3 => ?_⟩
  · rw [get]
    by_cases h : i = j ∧ i < ρ.length
    · rw [if_pos h, ← h.1, List.getElem?_set_self (by rw [← w.len]; exact h.2)]
      unfold reα
      rw [if_pos rfl]
      exact ⟨rfl, hf, ho⟩
    · rw [if_neg h]
      by_cases hij : i = j
      · have hl : ρ.length ≤ j := by
          rcases Nat.lt_or_ge i ρ.length with q | q
          · exact absurd ⟨hij, q⟩ h
          · omega
        rw [getS_out _ _ hl]
        trivial
      · rw [List.getElem?_set_ne hij]
        have : reα α i a j = α j := by unfold reα; rw [if_neg (Ne.symm hij)]
        rw [this]
        exact w.slot j
  · rw [get] at e1 e2
    unfold reα at e3
    by_cases hj : j = i
    · by_cases hk : k = i
      · rw [hj, hk]
      · rw [if_pos hj, if_neg hk] at e3
        rw [if_neg (fun q => hk q.1.symm)] at e2
        exact absurd e3.symm (hn k z e2 hk)
    · by_cases hk : k = i
      · rw [if_neg hj, if_pos hk] at e3
        rw [if_neg (fun q => hj q.1.symm)] at e1
        exact absurd e3 (hn j y e1 hj)
      · rw [if_neg hj, if_neg hk] at e3
        rw [if_neg (fun q => hj q.1.symm)] at e1
        rw [if_neg (fun q => hk q.1.symm)] at e2
        exact w.inj j k y z e1 e2 e3
end
theorem lay_read {t : Tg} {D : Ends} {σ : L2.St} {F H F₁ H₁ : Hp} {c c₁ : C} {α : Nat → Addr} {u : V} {v : Vl} (hk : ∀ k, kp k → ¬ tgMem k t) (w : Wf X.K F H σ c.env α) (w₁ : Wf X.K F₁ H₁ σ c₁.env α) (t₁ : Tr X.K c.env c₁.env α F H F₁ H₁) (v₁ : VOk X.K H F₁ H₁ σ c₁.env α u v)
    (h : WpR (lay t v c₁) (PF X.K kp D σ F H c α) (PXs X.K W kp σ F H c α)) : gT X.K t u σ H₁ D.nx := by
  cases t with
  | nm i =>
    have hk : ∀ k, kp k → k ≠ i := hk
    cases v with
    | d x =>
      obtain ⟨w2, s2⟩ := sr_dat (kp := kp) w₁ v₁ hk
      exact h _ F₁ H₁ α w2 (t₁.sr.trans w w₁ s2)
    | tmp x =>
      obtain ⟨a, rfl, h0, hf, ho⟩ := v₁
      have hn : ∀ j y, getS c₁.env j = .own y → j ≠ i → α j ≠ a := fun j y q _ e => by
        obtain ⟨o, p⟩ := cells w t₁ j y q
        rw [e, h0] at p; cases p
      refine h _ F₁ H₁ (reα α i a) (wf_own w₁ hf ho hn) ⟨fun b o q _ => t₁.same b o q, fun b o q => ⟨o, t₁.same b o q⟩, t₁.sub, t₁.new, fun j y q => ?_, List.length_set, fun j hj => ?_⟩
      · unfold reα
        by_cases hji : j = i
        · rw [if_pos hji]; exact .inl h0
        · rw [if_neg hji]
          have q : getS (setS c₁.env i (.own x)) j = .own y := q
          rw [getS_setS, if_neg (fun z => hji z.1.symm)] at q
          exact .inr ⟨j, y, t₁.back j y q, rfl⟩
      · have hji := hk j hj
        have g : getS (c₁.set i (.own x)).env j = getS c₁.env j := by
          show getS (setS c₁.env i (.own x)) j = _
          rw [getS_setS, if_neg (fun z => hji z.1.symm)]
        exact ⟨List.getElem?_set_ne hji.symm, fun y q => by rw [g]; exact t₁.keep j y q, fun y q => t₁.back j y (g ▸ q)⟩
    | bor j x =>
      obtain ⟨F2, z⟩ := freeze w₁ (cells w t₁) v₁ c₁.sto
      have ec : frz (.bor j x) ⟨c₁.env, c₁.sto⟩ = frz (.bor j x) c₁ := rfl
      rw [ec] at z
      have t2 : Tr X.K c.env (frz (.bor j x) c₁).env α F H F2 H₁ := by
        refine ⟨t₁.same, t₁.sub.trans z.sub, fun a o q => ?_, fun k y q => t₁.back k y (z.back k y q), fun k y q => ?_⟩
        · rcases z.new a o q with q | ⟨q, _, _⟩ | ⟨k, y, q, e⟩
          · exact t₁.new a o q
          · exact .inr (.inl q)
          · exact .inr (.inr ⟨k, y, t₁.back k y q, e⟩)
        · rcases t₁.keep k y q with p | p
          · exact z.keep k y p
          · exact .inr ⟨p.1.mono z.sub, fun y2 py => p.2 y2 (z.back k y2 py)⟩
      obtain ⟨w3, s3⟩ := sr_dat (kp := kp) z.wf z.rep hk
      exact h _ F2 H₁ α w3 (t2.sr.trans w z.wf s3)
  | tp is =>
    cases v <;> first | exact False.elim h | skip
    rename_i x
    unfold lay at h
    cases e : tgt (.tp is) x c₁ with
    | none => simp only [e] at h; exact False.elim h
    | some c2 =>
      simp only [e] at h
      refine gT_ok w₁ v₁ e fun σ' w' hl h1 h2 => h σ' F₁ H₁ α w' ⟨fun b o q _ => t₁.same b o q, fun b o q => ⟨o, t₁.same b o q⟩, t₁.sub, t₁.new, fun j y q => .inr ⟨j, y, t₁.back j y (h2 j y q), rfl⟩, hl, fun j hj => ?_⟩
      obtain ⟨g1, g2⟩ := h1 j (hk j hj)
      exact ⟨g1, fun y q => by rw [g2]; exact t₁.keep j y q, fun y q => t₁.back j y (h2 j y q)⟩
theorem k_asg {t : Tg} {tg : Expr} (hk : ∀ k, kp k → ¬ tgMem k t) (ha : PE X a (tV X.K W ra)) (hg : PG X tg (gT X.K t)) (hs : swapsWithSole [tg] a pos.line X.env = pure false) (hw : swappedStores [tg] a X.env = pure none) (h1 : (assignEach [tg] X.env).map (·.2) = [assign tg X.env]) :
    PS X (.Assign [tg] a pos) (tS X.K W kp fun c => (ra c).bind (lay t)) := by
  refine ps_mono (ps_asg ha hg hs hw h1) fun D σ H ⟨F, c, α, w, hw⟩ => ?_
  exact sv w hw fun v c1 u F1 H1 w1 t1 v1 h => lay_read hk w w1 t1 v1 h

/-! ### lists of one's own change -/
section
variable {K : Fg} {σ : L2.St} {F H : Hp} {ρ : List Sl} {α : Nat → Addr}
/-- a name's own list is written -/
theorem wf_write (w : Wf K F H σ ρ α) {i : Nat} {x : D} {xs : List D} {ws : List V} (h : getS ρ i = .own x) (r : Reps K F ws xs) :
    Wf K F (upd H (α i) (.lst ws)) σ (setS ρ i (.own (.lst xs))) α := by
  obtain ⟨k1, k2, k3⟩ := w.cell h
  refine ⟨fun b q e => ?_, by rw [setS_length]; exact w.len, fun j => ?_, fun j k y z e1 e2 e3 => ?_⟩
  · rw [upd_ne (by rintro rfl; rw [k2] at e; cases e)]
    exact w.sub b q e
  · rw [getS_setS]
    split
    · rename_i q
      rw [← q.1]
      exact ⟨k1, k2, ws, upd_same, r⟩
    · rename_i q
      have k := w.slot j
      cases e : getS ρ j with
      | no => trivial
      | dat y => rw [e] at k; exact k
      | own y =>
        rw [e] at k
        obtain ⟨a1, a2, a3⟩ := k
        refine ⟨a1, a2, a3.mono (Same.refl _) (upd_ne fun z => ?_)⟩
        have := w.inj j i y x e h z
        have hl : i < ρ.length := by
          rcases Nat.lt_or_ge i ρ.length with z | z
          · exact z
          · rw [getS_out _ _ z] at h; cases h
        exact q ⟨this.symm, hl⟩
  · have f : ∀ j y, getS (setS ρ i (.own (.lst xs))) j = .own y → ∃ y', getS ρ j = .own y' := fun j y e => by
      rw [getS_setS] at e
      split at e
      · rename_i q; exact ⟨x, q.1 ▸ h⟩
      · exact ⟨y, e⟩
    obtain ⟨y', f1⟩ := f j y e1
    obtain ⟨z', f2⟩ := f k z e2
    exact w.inj j k y' z' f1 f2 e3
theorem sr_write (w : Wf K F H σ ρ α) {i : Nat} {x : D} {xs : List D} {ws : List V} (h : getS ρ i = .own x) (hk : ∀ k, kp k → k ≠ i) :
    SR K kp σ σ ρ (setS ρ i (.own (.lst xs))) α α F H F (upd H (α i) (.lst ws)) := by
  refine ⟨fun a o q hn => by rw [upd_ne (hn i x h)]; exact q, fun a o q => ?_, Same.refl _, fun _ _ q => .inl q, fun j y q => ?_, rfl, fun j hj => ⟨rfl, fun y q => .inl ?_, fun y q => ?_⟩⟩
  · by_cases e : a = α i
    · rw [e, upd_same]; exact ⟨_, rfl⟩
    · rw [upd_ne e]; exact ⟨o, q⟩
  · rw [getS_setS] at q
    split at q
    · rename_i z; exact .inr ⟨i, x, h, by rw [z.1]⟩
    · exact .inr ⟨j, y, q, rfl⟩
  · rw [getS_setS, if_neg (fun z => hk j hj z.1.symm)]; exact q
  · rw [getS_setS, if_neg (fun z => hk j hj z.1.symm)] at q; exact q
theorem tr_fz {σ : L2.St} {F H F₁ H₁ F₂ : Hp} {c c₁ : C} {α : Nat → Addr} {u : V} {v : Vl} {ρ' : List Sl} (t₁ : Tr K c.env c₁.env α F H F₁ H₁) (z : Fz K H H₁ σ c₁.env ρ' α F₁ F₂ u v) : Tr K c.env ρ' α F H F₂ H₁ := by
  refine ⟨t₁.same, t₁.sub.trans z.sub, fun a o q => ?_, fun k y q => t₁.back k y (z.back k y q), fun k y q => ?_⟩
  · rcases z.new a o q with q | ⟨q, _, _⟩ | ⟨k, y, q, e⟩
    · exact t₁.new a o q
    · exact .inr (.inl q)
    · exact .inr (.inr ⟨k, y, t₁.back k y q, e⟩)
  · rcases t₁.keep k y q with p | p
    · exact z.keep k y p
    · exact .inr ⟨p.1.mono z.sub, fun y2 py => p.2 y2 (z.back k y2 py)⟩
end
variable {x : PySem.Str} {i : Nat}
theorem tyV_lst {K : Fg} {H : Hp} {a : Addr} {ws : List V} (h : H a = some (.lst ws)) : tyV K "list" (.ref a) H := .inl ⟨rfl, ws, .inl (.inl h)⟩
theorem own_slot {K : Fg} {σ : L2.St} {F H : Hp} {c : C} {α : Nat → Addr} (w : Wf K F H σ c.env α) {i : Nat} {x : D} (h : c.get i = .own x) : σ[i]? = some (some (.ref (α i))) ∧ ∃ xs ws, x = .lst xs ∧ H (α i) = some (.lst ws) ∧ Reps K F ws xs := by
  obtain ⟨k1, k2, k3⟩ := w.cell (show getS c.env i = .own x from h)
  exact ⟨k1, k3.ls⟩
theorem k_app (hk : ∀ k, kp k → k ≠ i) (hv : varB X.N X.env.scope i x = true) {p apos cpos pos : Pos} (hst : ∀ y z, a ≠ .Starred y z) (hl : (apos.endLine == cpos.line) = true) (ha : PE X a (tV X.K W ra)) :
    PS X (.Expr (.Call (.Attribute (.Name x p) "append" apos) [a] [] cpos) pos) (tS X.K W kp fun c => match c.get i with
      | .own (.lst _) => (ra c).bind (doApp i)
      | _ => .st) := by
  unfold varB at hv
  simp only [Bool.and_eq_true, decide_eq_true_eq, Bool.not_eq_true'] at hv
  have ho := pe_var (X := X) (i := i) (pos := p) hv.1.1.1 (vis_of hv.1.1.2) hv.1.2 hv.2
  have hs : starEach [a] X.env = [(false, eval a X.env)] := args_ok hst
  refine ps_mono (ps_expr (pe_bm PySem.F.plainAttrs_list PySem.F.slot_list_append PySem.F.type_list_append mt_append ho (pa_cons ha pa_nil hs) rfl (by rw [hs]; rfl) hl hs rfl) rfl) fun D σ H ⟨F, c, α, w, hw⟩ => ?_
  cases e0 : c.get i with
  | no => simp only [e0] at hw; exact False.elim hw
  | dat y => simp only [e0] at hw; exact False.elim hw
  | own y =>
    obtain ⟨k1, xs0, ws0, rfl, k2, k3⟩ := own_slot w e0
    simp only [e0] at hw
    refine ⟨_, k1, tyV_lst k2, ?_⟩
    refine sv w hw fun v c1 u F1 H1 w1 t1 v1 h => ?_
    obtain ⟨F2, z⟩ := freeze w1 (cells w t1) v1 c1.sto
    have ec : frz v ⟨c1.env, c1.sto⟩ = frz v c1 := rfl
    rw [ec] at z
    unfold doApp at h
    cases e1 : (frz v c1).get i with
    | no => simp only [e1] at h; exact False.elim h
    | dat y => simp only [e1] at h; exact False.elim h
    | own y =>
      obtain ⟨k1', xs, ws, rfl, k2', k3'⟩ := own_slot z.wf e1
      simp only [e1] at h
      split at h
      · rename_i hlen
        have t2 := tr_fz t1 z
        refine ⟨_, ws, u, rfl, rfl, k2', by rw [k3'.length, ← line_eq]; exact hlen, ?_⟩
        have w3 := wf_write z.wf (show getS (frz v c1).env i = .own (.lst xs) from e1) (k3'.app (.one z.rep))
        exact h σ F2 _ α w3 (t2.sr.trans w z.wf (sr_write z.wf (show getS (frz v c1).env i = .own (.lst xs) from e1) hk))
      · exact False.elim h
theorem k_pop {t : Tg} {tg : Expr} (hk : ∀ k, kp k → k ≠ i ∧ ¬ tgMem k t) (hv : varB X.N X.env.scope i x = true) {p apos cpos pos : Pos} (hl : (apos.endLine == cpos.line) = true) (hg : PG X tg (gT X.K t)) (hw' : swappedStores [tg] (.Call (.Attribute (.Name x p) "pop" apos) [] [] cpos) X.env = pure none) (hs : swapsWithSole [tg] (.Call (.Attribute (.Name x p) "pop" apos) [] [] cpos) pos.line X.env = pure false) (h1 : (assignEach [tg] X.env).map (·.2) = [assign tg X.env]) :
    PS X (.Assign [tg] (.Call (.Attribute (.Name x p) "pop" apos) [] [] cpos) pos) (tS X.K W kp fun c => match c.get i with
    | .own (.lst xs) => match xs.getLast? with
      | some x => lay t (.d x) (c.set i (.own (.lst xs.dropLast)))
      | none => .st
    | _ => .st) := by
  unfold varB at hv
  simp only [Bool.and_eq_true, decide_eq_true_eq, Bool.not_eq_true'] at hv
  have ho := pe_var (X := X) (i := i) (pos := p) hv.1.1.1 (vis_of hv.1.1.2) hv.1.2 hv.2
  refine ps_mono (ps_asg (pe_bm0 PySem.F.plainAttrs_list PySem.F.slot_list_pop PySem.F.type_list_pop mt_pop ho rfl hl) hg hs hw' h1) fun D σ H ⟨F, c, α, w, hw⟩ => ?_
  cases e0 : c.get i with
  | no => simp only [e0] at hw; exact False.elim hw
  | dat y => simp only [e0] at hw; exact False.elim hw
  | own y =>
    obtain ⟨k1, xs, ws, rfl, k2, k3⟩ := own_slot w e0
    simp only [e0] at hw
    cases e1 : xs.getLast? with
    | none => simp only [e1] at hw; exact False.elim hw
    | some z =>
      simp only [e1] at hw
      have el : xs[xs.length - 1]? = some z := by rw [← e1, List.getLast?_eq_getElem?]
      obtain ⟨u, eu, ru⟩ := k3.get el
      refine ⟨_, k1, tyV_lst k2, _, ws, u, rfl, rfl, k2, by rw [k3.length]; exact eu, ?_⟩
      have e0' : getS c.env i = .own (.lst xs) := e0
      have w2 := wf_write w e0' k3.dropLast
      have s2 := sr_write (kp := kp) (xs := xs.dropLast) (ws := ws.dropLast) w e0' fun k q => (hk k q).1
      have hr : WpR (lay t (.d z) (c.set i (.own (.lst xs.dropLast)))) (PF X.K kp D σ F (upd H (α i) (.lst ws.dropLast)) (c.set i (.own (.lst xs.dropLast))) α) (PXs X.K W kp σ F (upd H (α i) (.lst ws.dropLast)) (c.set i (.own (.lst xs.dropLast))) α) :=
        hw.mono (fun _ _ q => q.on w w2 s2) fun _ _ q => q.on w w2 s2
      exact lay_read (v := Vl.d z) (fun k q => (hk k q).2) (c := c.set i (.own (.lst xs.dropLast))) w2 w2 .refl ru hr
end
end Ev
end
section
set_option maxRecDepth 100000
set_option maxHeartbeats 1000000
/-! Ev11: stores into lists, loops. -/
namespace Ev
open PySem L2
section
variable {X : Cx} {W : WX} {kp : Nat → Prop} {pos : Pos} {a b : Expr} {ra rb : C → R Vl} {x : PySem.Str} {i : Nat}
/-- a sub-expression at a statement, from a state on the way -/
theorem svn {K : Fg} {σ : L2.St} {F H F₁ H₁ : Hp} {c c₁ : C} {α : Nat → Addr} {D : Ends} {r : C → R Vl} {k : Vl → C → R Fl} {R' : V → Hp → Prop} (w : Wf K F H σ c.env α) (w₁ : Wf K F₁ H₁ σ c₁.env α) (t : Tr K c.env c₁.env α F H F₁ H₁)
    (h : WpR ((r c₁).bind k) (PF K kp D σ F H c α) (PXs K W kp σ F H c α))
    (go : ∀ v c₂ u F₂ H₂, Wf K F₂ H₂ σ c₂.env α → Tr K c₁.env c₂.env α F₁ H₁ F₂ H₂ → VOk K H₁ F₂ H₂ σ c₂.env α u v → WpR (k v c₂) (PF K kp D σ F H c α) (PXs K W kp σ F H c α) → R' u H₂) : tV K W r σ H₁ R' :=
  ⟨F₁, c₁, α, w₁, h.bind.mono (fun v c₂ hk u F₂ H₂ w₂ t₂ v₂ => go v c₂ u F₂ H₂ w₂ t₂ v₂ hk) fun _ _ hq => (hq.on w w₁ t.sr).px⟩
theorem k_setix (hk : ∀ k, kp k → k ≠ i) (hv : varB X.N X.env.scope i x = true) {p p2 : Pos} (hs : swapsWithSole [.Subscript (.Name x p) b p2] a pos.line X.env = pure false) (hw' : swappedStores [.Subscript (.Name x p) b p2] a X.env = pure none)
    (hb' : ∀ x y s z, b ≠ .Slice x y s z) (ha : PE X a (tV X.K W ra)) (hb : PE X b (tV X.K W rb)) :
    PS X (.Assign [.Subscript (.Name x p) b p2] a pos) (tS X.K W kp fun c => (ra c).bind fun v c => match c.get i with
      | .own (.lst _) => (rb c).bind (doSet i v)
      | _ => .st) := by
  unfold varB at hv
  simp only [Bool.and_eq_true, decide_eq_true_eq, Bool.not_eq_true'] at hv
  have ho := pe_var (X := X) (i := i) (pos := p) hv.1.1.1 (vis_of hv.1.1.2) hv.1.2 hv.2
  have hg : PG X (.Subscript (.Name x p) b p2) (gSub _ _ rSetL) := pg_sub ho hb set_list (by
    intro v
    cases b <;> first | rfl | exact absurd rfl (hb' _ _ _ _))
  refine ps_mono (ps_asg ha hg hs hw' rfl) fun D σ H ⟨F, c, α, w, hw⟩ => ?_
  refine sv w hw fun v c1 u F1 H1 w1 t1 v1 h => ?_
  cases e0 : c1.get i with
  | no => simp only [e0] at h; exact False.elim h
  | dat y => simp only [e0] at h; exact False.elim h
  | own y =>
    obtain ⟨k1, xs0, ws0, rfl, k2, k3⟩ := own_slot w1 e0
    simp only [e0] at h
    refine ⟨_, k1, ?_⟩
    refine svn w w1 t1 h fun v' c2 u2 F2 H2 w2 t2 v2 h => ?_
    have v1' := v1.on w t1 w1 t2
    obtain ⟨F3, z⟩ := freeze w2 (cells w (t1.trans t2)) v1' c2.sto
    have ec : frz v ⟨c2.env, c2.sto⟩ = frz v c2 := rfl
    rw [ec] at z
    unfold doSet at h
    cases e1 : (frz v c2).get i with
    | no => simp only [e1] at h; exact False.elim h
    | dat y => simp only [e1] at h; exact False.elim h
    | own y =>
      obtain ⟨k1', xs, ws, rfl, k2', k3'⟩ := own_slot z.wf e1
      have r2 := v2.rdb w2
      cases e2 : v'.rd <;> simp only [e1, e2] at h <;> first | exact False.elim h | skip
      rename_i k
      rw [e2] at r2
      have eu := r2.int
      cases e3 : ixN xs.length k with
      | none => simp only [e3] at h; exact False.elim h
      | some n =>
        simp only [e3] at h
        have tt := tr_fz (t1.trans t2) z
        refine ⟨_, ws, k, n, rfl, eu, k2', by rw [k3'.length]; exact e3, ?_⟩
        have w3 := wf_write z.wf (show getS (frz v c2).env i = .own (.lst xs) from e1) (k3'.set z.rep n)
        exact h σ F3 _ α w3 (tt.sr.trans w z.wf (sr_write z.wf (show getS (frz v c2).env i = .own (.lst xs) from e1) hk))

/-! ### loops -/
theorem keepsV_mem {b : List S} : ∀ {us : List Vl}, keepsV b us = true → ∀ i x, Vl.bor i x ∈ us → keepsSs i b = true
  | [], _, i, x, h => by cases h
  | v :: r, h, i, x, hm => by
    cases v with
    | d y =>
      rcases List.mem_cons.mp hm with q | q
      · cases q
      · exact keepsV_mem (us := r) h i x q
    | tmp y =>
      rcases List.mem_cons.mp hm with q | q
      · cases q
      · exact keepsV_mem (us := r) h i x q
    | bor j y =>
      simp only [keepsV, Bool.and_eq_true] at h
      rcases List.mem_cons.mp hm with q | q
      · cases q; exact h.1
      · exact keepsV_mem h.2 i x q
section
variable {K : Fg} {σ σ' : L2.St} {ρ ρ' : List Sl} {α α' : Nat → Addr} {F H F' H' H₀ : Hp}
/-- what a loop goes over stays through a turn -/
theorem rdb_keep {u : V} {v : Vl} (w : Wf K F H σ ρ α) (hc : ∀ i x, getS ρ i = .own x → ∃ o, H₀ (α i) = some o) (hv : VOk K H₀ F H σ ρ α u v) (w' : Wf K F' H' σ' ρ' α') (s : SR K kp σ σ' ρ ρ' α α' F H F' H') (hk : ∀ i x, v = .bor i x → kp i) : Rdb K F' H' u v.rd := by
  cases v with
  | d x => exact .inl (Rep.mono s.sub hv)
  | tmp x =>
    obtain ⟨p, e, h0, hf, ho⟩ := hv
    obtain ⟨o, q⟩ := ho.there
    refine .inr ⟨p, e, ho.mono s.sub ?_⟩
    rw [q]
    refine s.kept p o q fun i y g z => ?_
    obtain ⟨o', p'⟩ := hc i y g
    rw [← z, h0] at p'; cases p'
  | bor i x =>
    obtain ⟨e, hσ, h⟩ := hv
    rcases h with h | h
    · obtain ⟨a1, a2, _⟩ := s.fix i (hk i x rfl)
      rcases a2 x h with q | q
      · have c2 := w'.cell q
        have : α' i = α i := by
          have c1 := (w.cell h).1
          have c3 := c2.1
          rw [a1, c1] at c3
          exact (V.ref.inj (Option.some.inj (Option.some.inj c3))).symm
        exact .inr ⟨_, by rw [e, this], c2.2.2⟩
      · exact .inl (e ▸ q.1)
    · exact .inl (h.1.mono s.sub)
theorem rdbs_keep (w : Wf K F H σ ρ α) (hc : ∀ i x, getS ρ i = .own x → ∃ o, H₀ (α i) = some o) (w' : Wf K F' H' σ' ρ' α') (s : SR K kp σ σ' ρ ρ' α α' F H F' H') : ∀ {us : List V} {vs : List Vl}, VsOk K H₀ F H σ ρ α us vs → (∀ i x, Vl.bor i x ∈ vs → kp i) → Rdbs K F' H' us (vs.map Vl.rd)
  | [], [], _, _ => .nil
  | [], _ :: _, h, _ => False.elim h
  | _ :: _, [], h, _ => False.elim h
  | u :: us, v :: vs, h, hk => .cons (rdb_keep w hc h.1 w' s fun i x e => hk i x (e ▸ List.mem_cons_self ..)) (rdbs_keep w hc w' s h.2.1 fun i x q => hk i x (List.mem_cons_of_mem _ q))
/-- a target's step -/
theorem sr_tgt {t : Tg} (hk : ∀ k, kp k → ¬ tgMem k t) (hl : σ'.length = σ.length) (h1 : ∀ j, ¬ tgMem j t → σ'[j]? = σ[j]? ∧ getS ρ' j = getS ρ j) (h2 : ∀ j y, getS ρ' j = .own y → getS ρ j = .own y) : SR K kp σ σ' ρ ρ' α α F H F H :=
  ⟨fun _ _ q _ => q, fun _ o q => ⟨o, q⟩, Same.refl _, fun _ _ q => .inl q, fun j y q => .inr ⟨j, y, h2 j y q, rfl⟩, hl, fun j hj => by
    obtain ⟨g1, g2⟩ := h1 j (hk j hj)
    exact ⟨g1, fun y q => .inl (by rw [g2]; exact q), fun y q => h2 j y q⟩⟩
end
theorem k_for {t : Tg} {w : Wk} {bs : List S} {tg iter : Expr} {body : List Stmt} {ri : C → R (List Vl)} {rb : C → R Fl} (hp : PassesOwn (model X.prog X.w) X.A X.env X.xe) (hc : X.calm = true) (hk : ∀ k, kp k → ¬ tgMem k t) (hkv : ∀ k, keepsSs k [.forr t w [] bs] = true → kp k)
    (hi : PI X tg iter (tI X.K W w ri)) (hg : PG X tg (gT X.K t)) (hb : PSs X body (tS X.K W kp rb)) (hs : ∀ x, foldedSetIterable iter X.env x = pure x) :
    PS X (.For tg iter body [] pos) (tS X.K W kp fun c => (ri c).bind (doFor t w bs rb)) := by
  refine ps_mono (ps_for hp hc hi hg hb hs) fun D σ H ⟨F0, c0, α0, w0, hw⟩ => ?_
  refine ⟨F0, c0, α0, w0, hw.bind.mono (fun us c1 hk1 vus F1 H1 w1 t1 v1 => ?_) fun _ _ hq => hq.px⟩
  unfold doFor at hk1
  obtain ⟨its, ei, hk1⟩ := hk1.bind.ofO
  refine ⟨its, ei, fun J fd => ?_⟩
  split at hk1
  case isFalse => exact False.elim hk1
  rename_i hkeep
  have hbor : ∀ i x, Vl.bor i x ∈ us → kp i := fun i x q => hkv i (keepsV_mem hkeep i x q)
  have hc0 := cells w0 t1
  refine ⟨fun i m σ' H' => m = its.length - i ∧ i ≤ its.length ∧ ∃ F' c' α', Wf X.K F' H' σ' c'.env α' ∧ SR X.K kp σ σ' c1.env c'.env α0 α' F1 H1 F' H' ∧ WpR (forL t rb (its.drop i) c') (PF X.K kp D σ F0 H c0 α0) (PXs X.K W kp σ F0 H c0 α0),
    ⟨_, rfl, Nat.zero_le _, F1, c1, α0, w1, .refl, hk1⟩, ?_⟩
  rintro i m σ2 H2 ⟨rfl, hle, F2, c2, α2, w2, s2, h2⟩
  have rd2 := rdbs_keep w1 hc0 w2 s2 v1 hbor
  by_cases hlt : i < its.length
  · right
    obtain ⟨d, ed⟩ : ∃ d, its[i]? = some d := ⟨its[i], List.getElem?_eq_getElem hlt⟩
    have edr : its.drop i = d :: its.drop (i + 1) := by
      rw [List.drop_eq_getElem_cons hlt]
      rw [List.getElem?_eq_getElem hlt] at ed
      cases ed; rfl
    rw [edr] at h2
    unfold forL at h2
    cases et : tgt t d c2 with
    | none => rw [et] at h2; exact False.elim h2
    | some c3 =>
      rw [et] at h2
      refine ⟨fd.go i d F2 H2 w2.sub rd2 ed, fun σ' H' => ∃ F' c' α', Wf X.K F' H' σ' c'.env α' ∧ SR X.K kp σ σ' c1.env c'.env α0 α' F1 H1 F' H' ∧ WpR (forL t rb (its.drop (i + 1)) c') (PF X.K kp D σ F0 H c0 α0) (PXs X.K W kp σ F0 H c0 α0),
        fun σ' H' q => ⟨its.length - (i + 1), by omega, rfl, hlt, q⟩, fun x H' y => ?_⟩
      obtain ⟨F3, hs3, fs3, s3, new3, r3⟩ := fd.yld i d F2 H2 w2.sub rd2 ed x H' y
      obtain ⟨w3, t3⟩ := w2.res hs3 fs3 s3 new3
      refine gT_ok w3 r3 et fun σ' w4 hl4 same4 back4 => ?_
      have s4 : SR X.K kp σ σ' c1.env c3.env α0 α2 F1 H1 F3 H' := (s2.trans w1 w2 t3.sr).trans w1 w3 (sr_tgt hk hl4 same4 back4)
      have tot : SR X.K kp σ σ' c0.env c3.env α0 α2 F0 H F3 H' := t1.sr.trans w0 w1 s4
      refine ⟨F3, c3, α2, w4, WpR.bind h2 |>.mono (fun f c4 h4 => ?_) fun _ _ q => q.on w0 w4 tot⟩
      cases f with
      | nx => exact fun σ5 F5 H5 α5 w5 s5 => ⟨F5, c4, α5, w5, s4.trans w1 w4 s5, h4⟩
      | ct => exact fun σ5 F5 H5 α5 w5 s5 => ⟨F5, c4, α5, w5, s4.trans w1 w4 s5, h4⟩
      | bk => exact fun σ5 F5 H5 α5 w5 s5 => h4 σ5 F5 H5 α5 w5 (tot.trans w0 w4 s5)
      | rt v =>
        have h4 : PF X.K kp D σ F0 H c0 α0 (.rt v) c4 := h4
        exact (h4.on w0 w4 tot : PF X.K kp D σ' F3 H' c3 α2 (.rt v) c4)
  · left
    have e2 : i = its.length := by omega
    subst e2
    rw [List.drop_length] at h2
    exact ⟨fd.stop F2 H2 w2.sub rd2, h2 σ2 F2 H2 α2 w2 (t1.sr.trans w0 w1 s2)⟩
theorem k_whl {e : Expr} {body : List Stmt} {rt : C → R Bool} {rb : C → R Fl} (hp : PassesOwn (model X.prog X.w) X.A X.env X.xe) (ht : PT X e (tTt X.K W rt)) (hb : PSs X body (tS X.K W kp rb)) :
    PS X (.While e body [] pos) (tS X.K W kp fun c => whlL rt rb fuel c) := by
  refine ps_mono (ps_while hp ht hb) fun D σ H ⟨F0, c0, α0, w0, hw⟩ => ?_
  refine ⟨fun m σ' H' => ∃ F' c' α', Wf X.K F' H' σ' c'.env α' ∧ SR X.K kp σ σ' c0.env c'.env α0 α' F0 H F' H' ∧ WpR (whlL rt rb m c') (PF X.K kp D σ F0 H c0 α0) (PXs X.K W kp σ F0 H c0 α0), ⟨fuel, F0, c0, α0, w0, .refl, hw⟩, ?_⟩
  rintro m σ2 H2 ⟨F2, c2, α2, w2, s2, h2⟩
  cases m with
  | zero => exact False.elim h2
  | succ m =>
    unfold whlL at h2
    refine ⟨F2, c2, α2, w2, h2.bind.mono (fun b c3 h3 F3 H3 w3 t3 => ?_) fun _ _ q => (q.on w0 w2 s2).px⟩
    have s3 := s2.trans w0 w2 (t3.sr (kp := kp))
    cases b with
    | false => exact h3 σ2 F3 H3 α2 w3 s3
    | true =>
      simp only [if_true] at h3 ⊢
      refine ⟨fun σ' H' => ∃ F' c' α', Wf X.K F' H' σ' c'.env α' ∧ SR X.K kp σ σ' c0.env c'.env α0 α' F0 H F' H' ∧ WpR (whlL rt rb m c') (PF X.K kp D σ F0 H c0 α0) (PXs X.K W kp σ F0 H c0 α0), fun σ' H' q => ⟨m, by omega, q⟩, ?_⟩
      refine ⟨F3, c3, α2, w3, h3.bind.mono (fun f c4 h4 => ?_) fun _ _ q => q.on w0 w3 s3⟩
      cases f with
      | nx => exact fun σ5 F5 H5 α5 w5 s5 => ⟨F5, c4, α5, w5, s3.trans w0 w3 s5, h4⟩
      | ct => exact fun σ5 F5 H5 α5 w5 s5 => ⟨F5, c4, α5, w5, s3.trans w0 w3 s5, h4⟩
      | bk => exact fun σ5 F5 H5 α5 w5 s5 => h4 σ5 F5 H5 α5 w5 (s3.trans w0 w3 s5)
      | rt v =>
        have h4 : PF X.K kp D σ F0 H c0 α0 (.rt v) c4 := h4
        exact (h4.on w0 w3 s3 : PF X.K kp D σ2 F3 H3 c3 α2 (.rt v) c4)
end
end Ev
end
section
set_option maxRecDepth 100000
set_option maxHeartbeats 1000000
/-! Ev12: every statement that the check takes keeps its reading. -/
namespace Ev
open PySem L2

def swB (sc : Scope) (y : PySem.Str) (py : Pos) (scope : Scope) (p : Pos) : Bool :=
  decide (sc.names.lookup y = some .local) && (py.line == p.line) && !(scope.names.any fun (n, k) => n == y && (k == .local || k == .cell))
def plainAsg : Expr → Expr → Bool
  | .Tuple _ _ _, .Tuple _ _ _ => false
  | _, _ => true
section
variable (L : Lk) (N : List PySem.Str)
mutual
def okSt (sc : Scope) : S → Stmt → Bool
  | .asg t e, .Assign [tg] a _ => tgOk N sc t tg && okE L N sc e a && plainAsg tg a
  | .app i e, .Expr (.Call (.Attribute (.Name x _) m apos) [a] [] cpos) _ => m == ("append" : PySem.Str) && varB N sc i x && (apos.endLine == cpos.line) && okE L N sc e a
  | .pop t i, .Assign [tg] (.Call (.Attribute (.Name x _) m apos) [] [] cpos) _ => m == ("pop" : PySem.Str) && varB N sc i x && (apos.endLine == cpos.line) && tgOk N sc t tg
  | .setix i x y, .Assign [.Subscript (.Name z _) b _] a _ => varB N sc i z && okE L N sc x b && okE L N sc y a
  | .ife c x y, .If e a b _ => okE L N sc c e && okSts sc x a && okSts sc y b
  | .forr t w xs b, .For tg iter body [] _ => tgOk N sc t tg && wkT w t && okW L N sc xs w iter && okSts sc b body
  | .whl c b, .While e body [] _ => okE L N sc c e && okSts sc b body
  | .ret e, .Return (some a) _ => okE L N sc e a
  | .retn, .Return none _ => true
  | .exp e, .Expr a _ => okE L N sc e a && (match a with | .ListComp .. => false | _ => true)
  | .pass, .Pass _ => true
  | .brk, .Break _ => true
  | .cnt, .Continue _ => true
  | .nev, _ => true
  | _, _ => false
termination_by structural x => x
def okSts (sc : Scope) : List S → List Stmt → Bool
  | [], [] => true
  | x :: xs, a :: as => okSt sc x a && okSts sc xs as
  | _, _ => false
termination_by structural x => x
end
end

section
variable {L : Lk} {P : Pg} {call : CallT}
structure AlS (L : Lk) (P : Pg) (call : CallT) (W : WX) (X : Cx) : Prop where
  al : Al L P call W X
  pass : PassesOwn (model X.prog X.w) X.A X.env X.xe
  fnall : ∀ x, X.fn x = true
  kind : X.env.scope.kind = .function
theorem loc_of2 {X : Cx} {x : PySem.Str} (h : locB X.env.scope x = true) : L2.Loc X.env.scope x := by
  rcases loc_of h with q | q
  · exact .inl q
  · exact .inr q
theorem AlS.pg {W : WX} {X : Cx} (A : AlS L P call W X) {t : Tg} {tg : Expr} (h : tgOk X.N X.env.scope t tg = true) : PG X tg (gT X.K t) :=
  pg_T (fun x hx => loc_of2 hx) A.al.hy.calm A.al.hy.nd (fun x _ => .inl (A.fnall x)) h
theorem tg_one {X : Cx} {t : Tg} {tg : Expr} (h : tgOk X.N X.env.scope t tg = true) : (assignEach [tg] X.env).map (·.2) = [assign tg X.env] := by
  cases t <;> cases tg <;> first | (cases h; done) | rfl
/-- only a list's comprehension swaps -/
theorem sw_none {L : Lk} {N : List PySem.Str} {sc : Scope} {e : E} {a : Expr} (h : okE L N sc e a = true) (hl : ∀ x g s p, a ≠ .ListComp x g s p) (o : Option Expr) (l : Nat) (env : Env) : swapsWith a o l env = pure false := by
  cases a <;> first | rfl | exact absurd rfl (hl _ _ _ _) | (cases e <;> simp [okE, noOdd] at h; done)
theorem sw_false {elt : Expr} {gs : List Comprehension} {scope : Scope} {pos py : Pos} {y : PySem.Str} {l : Nat} {env : Env} (h : swB env.scope y py scope pos = false) : swapsWith (.ListComp elt gs scope pos) (some (.Name y py)) l env = pure false := by
  have ky : env.kindOf y = env.scope.names.lookup y := rfl
  unfold swapsWith
  simp only [Expr.pos, ky]
  unfold swB at h
  cases q : decide (env.scope.names.lookup y = some .local) with
  | false =>
    have q' : (env.scope.names.lookup y == some NameKind.local) = false := by simpa using q
    simp [q']
  | true =>
    cases q1 : (py.line == pos.line) with
    | false => simp
    | true =>
      rw [q, q1] at h
      simp only [Bool.true_and] at h
      simp only [h, Bool.and_false]
theorem stores_none {tg a : Expr} {X : Cx} {t : Tg} (ht : tgOk X.N X.env.scope t tg = true) (h : plainAsg tg a = true) : swappedStores [tg] a X.env = pure none := by
  cases t <;> cases tg <;> first | (cases ht; done) | skip
  · cases a <;> rfl
  · cases a <;> first | (cases h; done) | rfl
theorem keep_tg {k : Nat} {t : Tg} {w : Wk} {xs : List E} {b : List S} (h : keepsS k (.forr t w xs b) = true) : ¬ tgMem k t ∧ keepsSs k b = true := by
  cases t with
  | nm i =>
    simp only [keepsS, Bool.and_eq_true, bne_iff_ne] at h
    exact ⟨h.1, h.2⟩
  | tp is =>
    simp only [keepsS, Bool.and_eq_true, Bool.not_eq_true'] at h
    refine ⟨fun q => ?_, h.2⟩
    have : is.contains k = true := by simpa using (show k ∈ is from q)
    rw [this] at h; cases h.1
theorem keep_asg {k : Nat} {t : Tg} {e : E} (h : keepsS k (.asg t e) = true) : ¬ tgMem k t := by
  cases t with
  | nm i =>
    simp only [keepsS, bne_iff_ne] at h
    exact h
  | tp is =>
    simp only [keepsS, Bool.not_eq_true'] at h
    exact fun q => by
      have : is.contains k = true := by simpa using (show k ∈ is from q)
      rw [this] at h; cases h
theorem keep_pop {k i : Nat} {t : Tg} (h : keepsS k (.pop t i) = true) : k ≠ i ∧ ¬ tgMem k t := by
  cases t with
  | nm j =>
    simp only [keepsS, Bool.and_eq_true, bne_iff_ne] at h
    exact h
  | tp is =>
    simp only [keepsS, Bool.and_eq_true, bne_iff_ne, Bool.not_eq_true'] at h
    exact ⟨h.1, fun q => by
      have : is.contains k = true := by simpa using (show k ∈ is from q)
      rw [this] at h; cases h.2⟩
/-- a name gets a comprehension -/
theorem cAsg {t : Tg} {e : E} {W : WX} {X : Cx} {tg a : Expr} {pos : Pos} (A : AlS L P call W X) (ht : tgOk X.N X.env.scope t tg = true) (h : okE L X.N X.env.scope e a = true) (hp : plainAsg tg a = true) :
    PS X (.Assign [tg] a pos) (tS X.K W (fun i => keepsS i (.asg t e) = true) (evS P call (.asg t e))) := by
  have hg := A.pg ht
  have hkk : ∀ k, keepsS k (.asg t e) = true → ¬ tgMem k t := fun k q => keep_asg q
  have plain : (swapsWithSole [tg] a pos.line X.env = pure false) → PS X (.Assign [tg] a pos) (tS X.K W (fun i => keepsS i (.asg t e) = true) (evS P call (.asg t e))) := fun hs =>
    k_asg hkk (sE e W X _ a A.al rfl rfl h) hg hs (stores_none ht hp) (tg_one ht)
  by_cases hl : ∀ x g s p, a ≠ .ListComp x g s p
  · exact plain (sw_none h hl _ _ _)
  · have : ∃ x g s p, a = .ListComp x g s p := by
      apply Classical.byContradiction
      intro q
      exact hl fun x g s p z => q ⟨x, g, s, p, z⟩
    obtain ⟨elt, gs, scope, p, rfl⟩ := this
    cases t with
    | tp is =>
      cases tg <;> first | (cases ht; done) | skip
      exact plain rfl
    | nm i =>
      cases tg <;> first | (cases ht; done) | skip
      rename_i y py
      cases q : swB X.env.scope y py scope p with
      | false => exact plain (sw_false (l := pos.line) q)
      | true =>
        unfold swB at q
        simp only [Bool.and_eq_true, Bool.not_eq_true', decide_eq_true_eq] at q
        obtain ⟨⟨q1, q2⟩, q3⟩ := q
        have hsw := sw_true (elt := elt) (gs := gs) (pos := p) (l := pos.line) A.kind q1 q2 q3
        simp only [tgOk, tgtB, Bool.and_eq_true, decide_eq_true_eq] at ht
        cases e <;> first | (cases h; done) | (simp [okE, noOdd] at h; done) | skip
        rename_i e0 t vs w xs cs
        rcases gs with _ | ⟨⟨tg, iter, ifs, k⟩, _ | ⟨_, _⟩⟩ <;> first | (cases h; done) | (simp [okE, noOdd] at h; done) | skip
        simp only [okE, Bool.and_eq_true, decide_eq_true_eq] at h
        obtain ⟨⟨⟨⟨⟨⟨⟨hk, h1⟩, h2⟩, hw⟩, h3⟩, h4⟩, h5⟩, h6⟩ := h
        subst hk
        have hv : ∀ j, tgMem j t → j ∈ vs := by
          cases t with
          | nm i => intro j hj; rw [show j = i from hj]; simpa [tgIn] using h3
          | tp is => intro j hj; simp only [tgIn, List.all_eq_true] at h3; simpa using h3 j hj
        have own : (ownOf X.N vs).map (·.2) = vs := by simp [ownOf, List.map_map, Function.comp_def]
        have hb := blkOk_by h1
        have B := A.al
        have pi : PI X tg iter (tI X.K W w (evEs P call xs)) := sW xs w W X tg iter _ B rfl rfl h6 (tp_of hw h2)
        have r := ps_setLc (spos := pos) (g := gT X.K t) (tt := tTt X.K W0 (evTs P call cs)) (te := tV X.K W0 (evE P call e0)) B.hy.calm B.hy.nd ht.1 q1 hsw pi hb (fun s H C0 cl fp => pg_T (fun x hx => (blk_loc s H scope C0 cl fp x hx).1) B.hy.calm B.hy.nd (fun x hx => (blk_loc s H scope C0 cl fp x hx).2) h2)
          (fun s H C0 cl fp => sTs cs W0 _ _ _ (B.blk s H scope C0 cl fp) rfl rfl h5) (fun s H C0 cl fp => sE e0 W0 _ _ _ (B.blk s H scope C0 cl fp) rfl rfl h4) (fun x => folded (ok_walk h6) x)
        rw [own] at r
        refine ps_mono r fun D σ H ⟨F, c, α, wf, hw⟩ => ?_
        refine lc_read (W := W) hv ?_
        exact sv (r := fun c => (evEs P call xs c).bind fun us c => (ofO (wkD w (us.map Vl.rd)) c).bind fun its c => doLc t vs (evTs P call cs) (evE P call e0) its c) wf hw fun v c1 u F1 H1 w1 t1 v1 hh => lay_read (t := .nm i) hkk wf w1 t1 v1 hh
mutual
theorem sS {N : List PySem.Str} : ∀ (st : S) (W : WX) (X : Cx) (sc : Scope) (a : Stmt), AlS L P call W X → X.N = N → X.env.scope = sc → okSt L N sc st a = true → PS X a (tS X.K W (fun i => keepsS i st = true) (evS P call st))
  | .asg t e, W, X, sc, a, A, hN, hs, h => by
    cases a <;> first | (cases h; done) | (simp [okSt] at h; done) | skip
    rename_i tgs v p
    rcases tgs with _ | ⟨tg, _ | ⟨_, _⟩⟩ <;> first | (cases h; done) | (simp [okSt] at h; done) | skip
    simp only [okSt, Bool.and_eq_true] at h
    subst hN hs
    exact cAsg A h.1.1 h.1.2 h.2
  | .app i e, W, X, sc, a, A, hN, hs, h => by
    cases a <;> first | (cases h; done) | (simp [okSt] at h; done) | skip
    rename_i v p
    cases v <;> first | (cases h; done) | (simp [okSt] at h; done) | skip
    rename_i f as ks p2
    cases f <;> first | (cases h; done) | (simp [okSt] at h; done) | skip
    rename_i o m p3
    cases o <;> first | (cases h; done) | (simp [okSt] at h; done) | skip
    rcases as with _ | ⟨b, _ | ⟨_, _⟩⟩ <;> first | (cases h; done) | (simp [okSt] at h; done) | skip
    cases ks <;> first | (cases h; done) | (simp [okSt] at h; done) | skip
    simp only [okSt, Bool.and_eq_true, beq_iff_eq (α := PySem.Str)] at h
    obtain ⟨⟨⟨rfl, h2⟩, h3⟩, h4⟩ := h
    subst hN hs
    exact k_app (kp := fun k => keepsS k (.app i e) = true) (fun k q => by simpa [keepsS] using q) h2 (ok_plain h4).1 h3 (sE e W X _ _ A.al rfl rfl h4)
  | .ext i e, W, X, sc, a, A, hN, hs, h => by
    cases a <;> first | (cases h; done) | (simp [okSt] at h; done)
  | .pop t i, W, X, sc, a, A, hN, hs, h => by
    cases a <;> first | (cases h; done) | (simp [okSt] at h; done) | skip
    rename_i tgs v p
    rcases tgs with _ | ⟨tg, _ | ⟨_, _⟩⟩ <;> first | (cases h; done) | (simp [okSt] at h; done) | skip
    cases v <;> first | (cases h; done) | (simp [okSt] at h; done) | skip
    rename_i f as ks p2
    cases f <;> first | (cases h; done) | (simp [okSt] at h; done) | skip
    rename_i o m p3
    cases o <;> first | (cases h; done) | (simp [okSt] at h; done) | skip
    cases as <;> first | (cases h; done) | (simp [okSt] at h; done) | skip
    cases ks <;> first | (cases h; done) | (simp [okSt] at h; done) | skip
    simp only [okSt, Bool.and_eq_true, beq_iff_eq (α := PySem.Str)] at h
    obtain ⟨⟨⟨rfl, h2⟩, h3⟩, h4⟩ := h
    subst hN hs
    exact k_pop (kp := fun k => keepsS k (.pop t i) = true) (fun k q => keep_pop q) h2 h3 (A.pg h4) (stores_none h4 (by cases tg <;> rfl)) rfl (tg_one h4)
  | .setix i x y, W, X, sc, a, A, hN, hs, h => by
    cases a <;> first | (cases h; done) | skip
    rename_i tgs v p
    cases tgs <;> first | (cases h; done) | skip
    rename_i tg r
    cases tg <;> first | (cases h; done) | skip
    rename_i o b p2
    cases o <;> first | (cases h; done) | skip
    cases r <;> first | (cases h; done) | skip
    rename_i z p3
    simp only [okSt, Bool.and_eq_true] at h
    subst hN hs
    have hs' : swapsWithSole [.Subscript (.Name z p3) b p2] v p.line X.env = pure false := by
      cases v <;> rfl
    exact k_setix (kp := fun k => keepsS k (.setix i x y) = true) (fun k q => by simpa [keepsS] using q) h.1.1 hs' rfl (ok_plain h.1.2).2.2.1 (sE y W X _ _ A.al rfl rfl h.2) (sE x W X _ _ A.al rfl rfl h.1.2)
  | .ife c x y, W, X, sc, a, A, hN, hs, h => by
    cases a <;> first | (cases h; done) | (simp [okSt] at h; done) | skip
    simp only [okSt, Bool.and_eq_true] at h
    have h1 := sSs x W X sc _ A hN hs h.1.2
    have h2 := sSs y W X sc _ A hN hs h.2
    exact k_ife (kp := fun k => keepsS k (.ife c x y) = true) (sT c W X sc _ A.al hN hs h.1.1).pt
      (pss_mono h1 fun D σ H q => tS_weak (fun i z => by simp only [keepsS, Bool.and_eq_true] at z; exact z.1) q)
      (pss_mono h2 fun D σ H q => tS_weak (fun i z => by simp only [keepsS, Bool.and_eq_true] at z; exact z.2) q)
  | .forr t w xs b, W, X, sc, a, A, hN, hs, h => by
    cases a <;> first | (cases h; done) | (simp [okSt] at h; done) | skip
    rename_i tg iter body orelse p
    cases orelse <;> first | (cases h; done) | (simp [okSt] at h; done) | skip
    simp only [okSt, Bool.and_eq_true] at h
    obtain ⟨⟨⟨h1, h2⟩, h3⟩, h4⟩ := h
    have hb := sSs b W X sc _ A hN hs h4
    subst hN hs
    exact k_for (kp := fun k => keepsS k (.forr t w xs b) = true) (bs := b) A.pass A.al.hy.calm (fun k q => (keep_tg q).1) (fun k q => by
        simp only [keepsSs, Bool.and_eq_true] at q
        cases t <;> exact q.1)
      (sW xs w W X tg iter _ A.al rfl rfl h3 (tp_of h2 h1)) (A.pg h1) (pss_mono hb fun D σ H q => tS_weak (fun i z => (keep_tg z).2) q) (fun x => folded (ok_walk h3) x)
  | .whl c b, W, X, sc, a, A, hN, hs, h => by
    cases a <;> first | (cases h; done) | (simp [okSt] at h; done) | skip
    rename_i e body orelse p
    cases orelse <;> first | (cases h; done) | (simp [okSt] at h; done) | skip
    simp only [okSt, Bool.and_eq_true] at h
    have hb := sSs b W X sc _ A hN hs h.2
    exact k_whl (kp := fun k => keepsS k (.whl c b) = true) A.pass (sT c W X sc _ A.al hN hs h.1).pt (pss_mono hb fun D σ H q => tS_weak (fun i z => by simpa [keepsS] using z) q)
  | .ret e, W, X, sc, a, A, hN, hs, h => by
    cases a <;> first | (cases h; done) | (simp [okSt] at h; done) | skip
    rename_i v p
    cases v <;> first | (cases h; done) | (simp [okSt] at h; done) | skip
    simp only [okSt] at h
    exact k_ret (sE e W X sc _ A.al hN hs h)
  | .retn, W, X, sc, a, A, hN, hs, h => by
    cases a <;> first | (cases h; done) | (simp [okSt] at h; done) | skip
    rename_i v p
    cases v <;> first | (cases h; done) | (simp [okSt] at h; done) | skip
    exact k_retn
  | .exp e, W, X, sc, a, A, hN, hs, h => by
    cases a <;> first | (cases h; done) | (simp [okSt] at h; done) | skip
    simp only [okSt, Bool.and_eq_true] at h
    exact k_exp (sE e W X sc _ A.al hN hs h.1) (sw_none h.1 (fun x g s p q => by subst q; cases h.2) _ _ _)
  | .pass, W, X, sc, a, A, hN, hs, h => by
    cases a <;> first | (cases h; done) | (simp [okSt] at h; done) | skip
    exact k_pass
  | .brk, W, X, sc, a, A, hN, hs, h => by
    cases a <;> first | (cases h; done) | (simp [okSt] at h; done) | skip
    exact k_brk
  | .cnt, W, X, sc, a, A, hN, hs, h => by
    cases a <;> first | (cases h; done) | (simp [okSt] at h; done) | skip
    exact k_cnt
  | .nev, W, X, sc, a, A, hN, hs, h => ⟨fun pins s σ H D I ⟨F, c, α, w, hw⟩ => False.elim hw⟩
theorem sSs {N : List PySem.Str} : ∀ (b : List S) (W : WX) (X : Cx) (sc : Scope) (as : List Stmt), AlS L P call W X → X.N = N → X.env.scope = sc → okSts L N sc b as = true → PSs X as (tS X.K W (fun i => keepsSs i b = true) (evSs P call b))
  | [], W, X, sc, as, A, hN, hs, h => by
    cases as with
    | nil => exact k_nil
    | cons a as => cases h
  | s :: b, W, X, sc, as, A, hN, hs, h => by
    cases as with
    | nil => cases h
    | cons a as =>
      simp only [okSts, Bool.and_eq_true] at h
      have h1 := sS s W X sc a A hN hs h.1
      have h2 := sSs b W X sc as A hN hs h.2
      exact k_cons (kp := fun k => keepsSs k (s :: b) = true) (ps_mono h1 fun D σ H q => tS_weak (fun i z => by simp only [keepsSs, Bool.and_eq_true] at z; exact z.1) q)
        (pss_mono h2 fun D σ H q => tS_weak (fun i z => by simp only [keepsSs, Bool.and_eq_true] at z; exact z.2) q)
end
end
end Ev
end
section
set_option maxRecDepth 100000
set_option maxHeartbeats 1000000
/-! Ev13: the functions of a text. -/
namespace Ev
open PySem L2
/-- one function of the text beside its clean one -/
structure FL (K : Fg) (mg : PySem.Str → Option Value) (L : Lk) (P : Pg) (g : Nat) (f : Addr) : Prop where
  ex : ∃ fn x q st fd N ps, P.fns g = some fn ∧ Fun K x q st f fd ∧ Binds K fd ps [] ∧ FnScope N ps (defScope st) ∧ okSts L N (defScope st) fn.body (defBody st) = true ∧ ps.length = fn.np ∧ N.length = fn.nl
structure Lnk (K : Fg) (mg : PySem.Str → Option Value) (L : Lk) (P : Pg) : Prop where
  blt : ∀ x ∈ bltNames, mg x = none
  consts : ∀ g d x, L.hc g x = true → P.cs g = some d → ∃ u v, mg x = some u ∧ RelV v u ∧ ∀ F, Rep K F v d
  fns : ∀ g, L.hf g = true → ∃ f, mg (L.fn g) = some (.ref f) ∧ FL K mg L P g f
  cls : ∀ g, L.hk g = true → ∃ C, KOk K g C
  mts : ∀ g' g, L.hm g' g = true → ∃ C f, KOk K g' C ∧ Meth K C (L.fn g) f ∧ FL K mg L P g f ∧ (clsFields g').contains (L.fn g) = false
  news : ∀ g, L.hn g = true → ∃ C f fd ps, KOk K g C ∧ mg (clsName g) = some (.ref C) ∧ Mk K C f ∧ Binds K fd ps [] ∧ ∀ (prog : Program) (w : World) (base : Heap), FnOk prog w K mg base (L2.CX prog w) 1 f fd ps (spN K g)
section
variable {prog : Program} {w : World} {K : Fg} {mg : PySem.Str → Option Value} {base : Heap} {L : Lk} {P : Pg}
theorem startL_len (n : Nat) (ds : List D) (h : ds.length ≤ n) : (startL n ds).length = n := by
  simp [startL]; omega
theorem startL_get : ∀ (ds : List D) (n i : Nat), getS (startL n ds) i = match ds[i]? with
    | some d => .dat d
    | none => .no
  | [], n, i => by
    have : ∀ (m j : Nat), getS (List.replicate m Sl.no) j = .no := by
      intro m
      induction m with
      | zero => intro j; rfl
      | succ m ih =>
        intro j
        cases j with
        | zero => rfl
        | succ j => exact ih j
    simpa [startL] using this n i
  | d :: ds, n, 0 => by simp [startL, getS]
  | d :: ds, n, i + 1 => by
    have h := startL_get ds (n - 1) i
    have e : startL n (d :: ds) = .dat d :: startL (n - 1) ds := by
      simp only [startL, List.map_cons, List.cons_append, List.length_cons]
      congr 3
      omega
    rw [e]
    simp only [getS, List.getElem?_cons_succ]
    exact h
theorem start_get (N : List PySem.Str) (vs : List V) (i : Nat) (v : V) (h : vs[i]? = some v) : (L2.start N vs)[i]? = some (some v) := by
  unfold L2.start
  have hl : i < vs.length := (List.getElem?_eq_some_iff.mp h).1
  rw [List.getElem?_append_left (by simpa using hl), List.getElem?_map, h]; rfl
theorem wf_start {F H : Hp} {N : List PySem.Str} {vs : List V} {ds : List D} (hs : Same F H) (r : Reps K F vs ds) (hl : vs.length ≤ N.length) : Wf K F H (L2.start N vs) (startL N.length ds) (fun _ => 0) := by
  have e := r.length
  refine ⟨hs, ?_, fun i => ?_, fun i j x y h => ?_⟩
  · rw [startL_len _ _ (by omega)]
    unfold L2.start
    simp; omega
  · rw [startL_get]
    cases q : ds[i]? with
    | none => trivial
    | some d =>
      obtain ⟨v, q2, rv⟩ := r.get q
      exact ⟨v, start_get N vs i v q2, rv⟩
  · rw [startL_get] at h
    cases q : ds[i]? <;> rw [q] at h <;> cases h
theorem no_own {n : Nat} {ds : List D} : ∀ i x, getS (startL n ds) i ≠ .own x := fun i x h => by
  rw [startL_get] at h
  cases q : ds[i]? <;> rw [q] at h <;> cases h
theorem fnOk (Λ : Lnk K mg L P) : ∀ (n g : Nat) (fn : Fn) (x qn : PySem.Str) (st : Stmt) (f : Addr) (fd : FuncData) (N ps : List PySem.Str), P.fns g = some fn → Fun K x qn st f fd → FnScope N ps (defScope st) → okSts L N (defScope st) fn.body (defBody st) = true → ps.length = fn.np → N.length = fn.nl →
    FnOk prog w K mg base (L2.CX prog w) (n + 2) f fd ps (spC K (callN P n) g)
  | 0, g, fn, x, qn, st, f, fd, N, ps, hg, hF, hS, ho, hp, hn =>
    ⟨fun vs H Q E ⟨F, ds, s, _, _, h⟩ => False.elim h, fun A outer s H args us vs Q E _ _ _ _ ⟨F, ds, s', _, _, h⟩ => False.elim h⟩
  | n + 1, g, fn, x, qn, st, f, fd, N, ps, hg, hF, hS, ho, hp, hn => by
    have hcall : ∀ ds s, callN P (n + 1) g ds s = runFn P (callN P n) fn ds s := fun ds s => by
      show (match P.fns g with
        | some f => runFn P (callN P n) f ds s
        | none => .st) = _
      rw [hg]
    have len : ∀ vs H Q E, spC K (callN P (n + 1)) g vs H Q E → vs.length = ps.length := fun vs H Q E ⟨F, ds, s, hs, r, h⟩ => by
      rw [hcall] at h
      unfold runFn at h
      by_cases q : ds.length = fn.np
      · rw [r.length, q, hp]
      · rw [if_neg q] at h; exact False.elim h
    obtain ⟨oc, od, kV, doc, pm, an, cdv, ct, osl, rfl, lk, hcd⟩ := hF.ex
    refine fn_of lk hcd hS len fun A outer s H vs Q E hr hsp => ?_
    have hlen := len _ _ _ _ hsp
    obtain ⟨F, ds, sto, hs, r, h⟩ := hsp
    rw [hcall] at h
    unfold runFn at h
    have hds : ds.length = fn.np := by rw [← r.length, hlen, hp]
    rw [if_pos hds] at h
    have hle : ps.length ≤ N.length := by
      have := congrArg List.length hS.pre
      rw [List.length_take] at this
      omega
    have wf := wf_start (N := N) hs r (by omega)
    rw [hn] at wf
    refine ⟨tS K (fun cls d _ H => E cls d H) (fun i => keepsSs i fn.body = true) (evSs P (callN P n) fn.body), ?_, ?_⟩
    · refine sSs (N := N) (L := L) (P := P) (call := callN P n) fn.body (fun cls d _ H => E cls d H) _ (defScope st) (defBody st) ⟨⟨⟨rfl, hS.nd, takes_of rfl rfl rfl rfl, ?_, Λ.blt, Λ.consts, Λ.cls, fun g' hg' => ?_⟩, ⟨fun g' hg' => ?_⟩, fun c' g' hg' => ?_⟩, passes_of rfl, fun _ => rfl, hS.kind⟩ rfl rfl ho
      · have := hr.un
        have e : (cxOf (L2.CX prog w) prog w K mg base N qn (defScope st) f cdv A outer s H E).A.units = (A.deeper (PyProof.Rows.envOfC qn (defScope st) s.heap.objs.size f cdv)).units := rfl
        rw [e]
        omega
      · obtain ⟨C', f', fd', ps', k1, k2, k3, k4, k5⟩ := Λ.news g' hg'
        exact ⟨C', f', fd', ps', 1, k1, k2, k3, k5 _ _ _, hr.mono (by omega), k4⟩
      · obtain ⟨f', hm', ⟨fn', x', q', st', fd', N', ps', e1, e2, e3, e4, e5, e6, e7⟩⟩ := Λ.fns g' hg'
        exact ⟨f', fd', ps', n + 2, fnOk Λ n g' fn' x' q' st' f' fd' N' ps' e1 e2 e4 e5 e6 e7, hr, hm', e2.kp, e3⟩
      · obtain ⟨C', f', k1, k2, ⟨fn', x', q', st', fd', N', ps', e1, e2, e3, e4, e5, e6, e7⟩, k4⟩ := Λ.mts c' g' hg'
        exact ⟨C', f', fd', ps', n + 2, k1, k2, fnOk Λ n g' fn' x' q' st' f' fd' N' ps' e1 e2 e4 e5 e6 e7, hr, e3, k4⟩
    · refine ⟨F, ⟨startL fn.nl ds, sto⟩, fun _ => 0, wf, ?_⟩
      have hkept : ∀ {σ' : L2.St} {ρ' : List Sl} {α' : Nat → Addr} {F' H' : Hp} {kp : Nat → Prop}, SR K kp (L2.start N vs) σ' (startL fn.nl ds) ρ' (fun _ => 0) α' F H F' H' → Same H H' := fun s a o q => s.kept a o q fun i x z => absurd z (no_own i x)
      have hnew : ∀ {F' : Hp} {a : Addr} {o : HO}, (F a = some o ∨ H a = none ∨ ∃ i x, getS (startL fn.nl ds) i = .own x ∧ a = 0) → F a = some o ∨ H a = none := fun q => by
        rcases q with q | q | ⟨i, x, q, _⟩
        · exact .inl q
        · exact .inr q
        · exact absurd q (no_own i x)
      cases e : evSs P (callN P n) fn.body ⟨startL fn.nl ds, sto⟩ with
      | st => rw [e] at h; exact False.elim h
      | ex x c =>
        rw [e] at h
        intro cls d σ' F' H' α' w' s' xk
        exact h cls d F' H' (hkept s') s'.sub w'.sub (fun a o q => hnew (F' := F') (s'.new a o q)) xk
      | ok fl c =>
        rw [e] at h
        cases fl with
        | bk => exact False.elim h
        | ct => exact False.elim h
        | nx =>
          intro σ' F' H' α' w' s'
          exact h .non F' H' (hkept s') s'.sub w'.sub (fun a o q => hnew (F' := F') (s'.new a o q)) .non
        | rt v =>
          intro u F' H' s' rv
          refine h u F' H' (fun a o q => s'.kept a o q fun i x z => absurd z (no_own i x)) s'.sub s'.s' (fun a o q => hnew (F' := F') (s'.new a o q)) ?_
          cases v with
          | d x => exact rv
          | own x =>
            obtain ⟨a, e1, e2, e3, e4⟩ := rv
            refine ⟨a, e1, ?_, e2, e3⟩
            rcases e4 with q | ⟨i, y, q, _⟩
            · exact q
            · exact absurd q (no_own i y)
/-- what is promised of law: ints go in, True comes out -/
def spLaw (K : Fg) (m : Nat) : Sp := fun vs H Q _ => ∃ (a : Addr) (ns : List Int), vs = [.ref a] ∧ SqL K H a (ns.map V.int) ∧ ns.length ≤ m ∧ ∀ H', Q (.bl true) H'
theorem reps_ints {F : Hp} : ∀ ns : List Int, Reps K F (ns.map V.int) (ns.map D.int)
  | [] => .nil
  | i :: ns => .cons (.int i) (reps_ints ns)
/-- the law's end, from what its clean text computes -/
theorem lawOk {g m n : Nat} {f : Addr} {fd : FuncData} {ps : List PySem.Str} (h : FnOk prog w K mg base (L2.CX prog w) (n + 2) f fd ps (spC K (callN P n) g)) (hp : ps.length = 1) (run : ∀ ns : List Int, ns.length ≤ m → ∃ s, callN P n g [.lst (ns.map .int)] [] = .ok (.d (.bl true)) s) :
    FnOk prog w K mg base (L2.CX prog w) (n + 2) f fd ps (spLaw K m) :=
  h.imp fun vs H Q E ⟨a, ns, e, hs, hl, hq⟩ => by
    subst e
    obtain ⟨s, e⟩ := run ns hl
    refine ⟨H, [.lst (ns.map .int)], [], Same.refl _, .cons (.lst hs (reps_ints ns)) .nil, ?_⟩
    rw [e]
    intro u F' H' _ _ _ _ r
    have : u = .bl true := by cases r; rfl
    rw [this]
    exact hq H'
end
end Ev
end
section
set_option maxRecDepth 100000
set_option maxHeartbeats 1000000
/-! Ev13o: the instances that a text makes: Hasher, TreeSource. -/
namespace Ev
open PySem L2
def lk0 : Lk := ⟨fun _ => false, fun _ _ => false, fun _ => "", fun _ => false, fun _ _ => false, fun _ => false⟩
def pg0 : Pg := ⟨fun _ => none, fun _ => none⟩
def call0N : CallT := fun _ _ _ => .st
def hashE1 : E := .or (.isi (.v 1) .bool) (.or (.not (.isi (.v 1) .int)) (.or (.cmp .lt (.v 1) (.i 2)) (.cmp .ge (.v 1) (.bin .pow (.i 2) (.i 31)))))
def hashE2 : E := .or (.isi (.v 2) .bool) (.or (.not (.isi (.v 2) .int)) (.not (.chain .le .lt (.i 1) (.v 2) (.bin .pow (.i 2) (.i 31)))))
def nnH : List PySem.Str := ["self", "modulus", "multiplier"]
def nnT : List PySem.Str := ["self", "tree"]
def fldB (N : List PySem.Str) (sc : Scope) (f : PySem.Str) (i : Nat) : Stmt → Bool
  | .Assign [.Attribute (.Name x _) g _] (.Name y _) _ => varB N sc 0 x && g == f && varB N sc i y
  | _ => false
def okHasher (sc : Scope) : List Stmt → Bool
  | [a, b, c, d] => okSt lk0 nnH sc (.ife hashE1 [.nev] []) a && okSt lk0 nnH sc (.ife hashE2 [.nev] []) b && fldB nnH sc "modulus" 1 c && fldB nnH sc "multiplier" 2 d
  | _ => false
def okTree (sc : Scope) : List Stmt → Bool
  | [a] => fldB nnT sc "tree" 1 a
  | _ => false
section
variable {K : Fg} {mg : PySem.Str → Option Value} {prog : Program} {w : World} {base : Heap}
theorem fld_form {N : List PySem.Str} {sc : Scope} {f : PySem.Str} {i : Nat} {st : Stmt} (h : fldB N sc f i st = true) : ∃ x p q y r s, st = .Assign [.Attribute (.Name x p) f q] (.Name y r) s ∧ varB N sc 0 x = true ∧ varB N sc i y = true := by
  cases st <;> first | (cases h; done) | (simp [fldB] at h; done) | skip
  rename_i ts v s
  rcases ts with _ | ⟨t, _ | ⟨_, _⟩⟩ <;> first | (cases h; done) | (simp [fldB] at h; done) | skip
  cases t <;> first | (cases h; done) | (simp [fldB] at h; done) | skip
  rename_i o g q
  cases o <;> first | (cases h; done) | (simp [fldB] at h; done) | skip
  cases v <;> first | (cases h; done) | (simp [fldB] at h; done) | skip
  simp only [fldB, Bool.and_eq_true, beq_iff_eq] at h
  obtain ⟨⟨h1, rfl⟩, h3⟩ := h
  exact ⟨_, _, _, _, _, _, rfl, h1, h3⟩
theorem pv_of {X : Cx} {i : Nat} {x : PySem.Str} {p : Pos} (h : varB X.N X.env.scope i x = true) : PE X (.Name x p) (fun σ H Q => ∃ v, σ[i]? = some (some v) ∧ Q v H) := by
  unfold varB at h
  simp only [Bool.and_eq_true, decide_eq_true_eq, Bool.not_eq_true'] at h
  exact pe_mono (pe_var (i := i) h.1.1.1 (vis_of h.1.1.2) h.1.2 h.2) fun σ H Q h => h
theorem ps_fld_of {X : Cx} {f : PySem.Str} {i : Nat} {st : Stmt} (h : fldB X.N X.env.scope f i st = true) :
    PS X st (sFld X.K (fun σ H Q => ∃ v, σ[0]? = some (some v) ∧ Q v H) (fun σ H Q => ∃ v, σ[i]? = some (some v) ∧ Q v H) f) := by
  obtain ⟨x, p, q, y, r, s, rfl, h1, h2⟩ := fld_form h
  exact ps_fld (pv_of h1) (pv_of h2) rfl
theorem fields_len {g : Nat} {n : PySem.Str} (h : n ∈ clsFields g) : True := trivial
theorem initTree (blt : ∀ x ∈ bltNames, mg x = none) {st : Stmt} {f : Addr} {fd : FuncData} {qn : PySem.Str} (hF : Fun K "__init__" qn st f fd) (hS : FnScope nnT nnT (defScope st)) (ho : okTree (defScope st) (defBody st) = true) {C : Addr} (k : KOk K 1 C) :
    FnOk prog w K mg base (L2.CX prog w) 1 f fd nnT (spN K 1) := by
  have len : ∀ vs H Q E, spN K 1 vs H Q E → vs.length = nnT.length := fun vs H Q E ⟨a, C, dx, us, F, ds, fs, e1, _, _, _, _, r, e2, _⟩ => by
    subst e1
    match ds, e2 with
    | [t], _ => rw [List.length_cons, r.length]; rfl
  obtain ⟨oc, od, kV, doc, pm, an, cdv, ct, osl, rfl, lk, hcd⟩ := hF.ex
  refine fn_of lk hcd hS len fun A outer s H vs Q E hr hsp => ?_
  obtain ⟨a, C', dx, us, F, ds, fs, rfl, hC, ha, hs, hfa, r, e2, hq⟩ := hsp
  obtain rfl := clsAt_inj hC k.at_
  match ds, e2, r with
  | [t], e2, .cons (v := v) rt .nil =>
    cases e2
    match hb : defBody st, ho with
    | [x], ho =>
      refine ⟨_, pss_one (ps_fld_of (X := cxOf (L2.CX prog w) prog w K mg base nnT qn (defScope st) f cdv A outer s H E) ho), ?_⟩
      refine ⟨v, rfl, .ref a, rfl, a, C', dx, [], rfl, ha, k.cls, k.fld _ (by decide +kernel), by decide, ?_⟩
      exact hq _ [v] (fun b o hb e => by rw [upd_ne hb]; exact e) (by rw [upd_same]; rfl) (.cons rt .nil)
theorem initHasher (blt : ∀ x ∈ bltNames, mg x = none) {st : Stmt} {f : Addr} {fd : FuncData} {qn : PySem.Str} (hF : Fun K "__init__" qn st f fd) (hS : FnScope nnH nnH (defScope st)) (ho : okHasher (defScope st) (defBody st) = true) {C : Addr} (k : KOk K 0 C) :
    FnOk prog w K mg base (L2.CX prog w) 1 f fd nnH (spN K 0) := by
  have forms : ∀ ds fs, newD 0 ds = some fs → ∃ m n, ds = [.int m, .int n] ∧ fs = [.int m, .int n] ∧ 2 ≤ m ∧ m < 2 ^ 31 ∧ 1 ≤ n ∧ n < 2 ^ 31 := fun ds fs e => by
    match ds, e with
    | [.int m, .int n], e =>
      obtain ⟨h1, h2⟩ := some_if (c := decide (2 ≤ m) && decide (m < 2 ^ 31) && decide (1 ≤ n) && decide (n < 2 ^ 31)) (show (if _ then some [D.int m, D.int n] else none) = some fs from e)
      simp only [Bool.and_eq_true, decide_eq_true_eq] at h1
      exact ⟨m, n, rfl, h2.symm, h1.1.1.1, h1.1.1.2, h1.1.2, h1.2⟩
  have len : ∀ vs H Q E, spN K 0 vs H Q E → vs.length = nnH.length := fun vs H Q E ⟨a, C, dx, us, F, ds, fs, e1, _, _, _, _, r, e2, _⟩ => by
    subst e1
    obtain ⟨m, n, rfl, _⟩ := forms _ _ e2
    rw [List.length_cons, r.length]; rfl
  obtain ⟨oc, od, kV, doc, pm, an, cdv, ct, osl, rfl, lk, hcd⟩ := hF.ex
  refine fn_of lk hcd hS len fun A outer s H vs Q E hr hsp => ?_
  obtain ⟨a, C', dx, us, F, ds, fs, rfl, hC, ha, hs, hfa, r, e2, hq⟩ := hsp
  obtain rfl := clsAt_inj hC k.at_
  obtain ⟨m, n, rfl, rfl, b1, b2, b3, b4⟩ := forms _ _ e2
  cases r with
  | cons r1 r =>
  cases r with
  | cons r2 r =>
  cases r
  cases r1
  cases r2
  match hb : defBody st, ho with
  | [x1, x2, x3, x4], ho =>
    simp only [okHasher, Bool.and_eq_true] at ho
    obtain ⟨⟨⟨o1, o2⟩, o3⟩, o4⟩ := ho
    let X := cxOf (L2.CX prog w) prog w K mg base nnH qn (defScope st) f cdv A outer s H E
    have units : X.A.units + 100 < cLine := by
      have := hr.un
      have e : X.A.units = (A.deeper (PyProof.Rows.envOfC qn (defScope st) s.heap.objs.size f cdv)).units := rfl
      rw [e]
      omega
    have al : AlS lk0 pg0 call0N (fun cls d _ H => E cls d H) X := ⟨⟨⟨rfl, hS.nd, takes_of rfl rfl rfl rfl, units, blt, (fun _ _ _ h _ => by cases h), (fun _ h => by cases h), (fun _ h => by cases h)⟩, ⟨fun _ h => by cases h⟩, (fun _ _ h => by cases h)⟩, passes_of rfl, fun _ => rfl, hS.kind⟩
    refine ⟨_, pss_cons (sS _ _ X _ x1 al rfl rfl o1) (pss_cons (sS _ _ X _ x2 al rfl rfl o2) (pss_cons (ps_fld_of (X := X) o3) (pss_one (ps_fld_of (X := X) o4)))), ?_⟩
    let ρ : List Sl := [.no, .dat (.int m), .dat (.int n)]
    have noo : ∀ i x, getS ρ i ≠ .own x := fun i x e => by
      match i, e with
      | 0, e => cases e
      | 1, e => cases e
      | 2, e => cases e
      | i + 3, e => cases e
    have w0 : Wf K F H (L2.start nnH [.ref a, .int m, .int n]) ρ (fun _ => 0) := by
      refine ⟨hs, rfl, fun i => ?_, fun i j x y e => absurd e (noo i x)⟩
      match i with
      | 0 => trivial
      | 1 => exact ⟨.int m, rfl, .int m⟩
      | 2 => exact ⟨.int n, rfl, .int n⟩
      | i + 3 => trivial
    have q1 : evS pg0 call0N (.ife hashE1 [.nev] []) ⟨ρ, []⟩ = .ok .nx ⟨ρ, []⟩ := by
      have c1 : ¬ m < 2 := by omega
      have c2 : m < 2147483648 := by omega
      simp [hashE1, evS, evT, evE, evEs, evSs, rdV, C.get, getS, ρ, R.bind, doIsi, isiD, ofO, asB, truD, Vl.rd, cmpD, ltD, binD, c1, c2]
    have q2 : evS pg0 call0N (.ife hashE2 [.nev] []) ⟨ρ, []⟩ = .ok .nx ⟨ρ, []⟩ := by
      have c1 : ¬ n < 1 := by omega
      have c2 : n < 2147483648 := by omega
      simp [hashE2, evS, evT, evE, evEs, evSs, rdV, C.get, getS, ρ, R.bind, doIsi, isiD, ofO, asB, truD, Vl.rd, cmpD, ltD, binD, c1, c2]
    refine ⟨F, ⟨ρ, []⟩, fun _ => 0, w0, ?_⟩
    rw [q1]
    intro σ1 F1 H1 α1 w1 s1
    refine ⟨F1, ⟨ρ, []⟩, α1, w1, ?_⟩
    rw [q2]
    intro σ2 F2 H2 α2 w2 s2
    have e0 : σ2[0]? = some (some (.ref a)) := by rw [(s2.fix 0 rfl).1, (s1.fix 0 rfl).1]; rfl
    have e1 : σ2[1]? = some (some (.int m)) := by rw [(s2.fix 1 rfl).1, (s1.fix 1 rfl).1]; rfl
    have e2 : σ2[2]? = some (some (.int n)) := by rw [(s2.fix 2 rfl).1, (s1.fix 2 rfl).1]; rfl
    have kp : ∀ b o, H b = some o → H2 b = some o := fun b o e => s2.kept b o (s1.kept b o e fun i x z => absurd z (noo i x)) fun i x z => absurd z (noo i x)
    refine ⟨.int m, e1, .ref a, e0, a, C', dx, [], rfl, kp _ _ ha, k.cls, k.fld _ (by decide +kernel), by decide, ?_⟩
    refine ⟨.int n, e2, .ref a, e0, a, C', dx, putF "modulus" (.int m) [], rfl, upd_same, k.cls, k.fld _ (by decide +kernel), (show 1 < 1000 by decide), ?_⟩
    refine hq _ [.int m, .int n] (fun b o hb e => by rw [upd_ne hb, upd_ne hb]; exact kp b o e) ?_ (.cons (.int _) (.cons (.int _) .nil))
    rw [upd_same]
    have e : putF "multiplier" (.int n) (putF "modulus" (.int m) []) = (clsFields 0).zip [V.int m, V.int n] := by
      show (if ("modulus" : PySem.Str) = "multiplier" then _ else (("modulus" : PySem.Str), V.int m) :: putF "multiplier" (V.int n) []) = _
      rw [if_neg (by decide +kernel)]
      rfl
    rw [e]
end
end Ev
end
section
set_option maxRecDepth 100000
set_option maxHeartbeats 1000000
/-! Ev14: what an end needs. -/
namespace Ev
open PySem L2
theorem rep_of {K : Fg} {F : Hp} {x : PySem.Str} {l : List Nat} (h : okS x = true) (e : x.cps.toList = l) : Rep K F (.str x) (.str l) := e ▸ .str x h
theorem room_ok {k : Nat} (h : k ≤ 200) : Room k callerA := (show Room 200 callerA from ⟨rfl, by decide, by decide⟩).mono h
theorem no_ex {P : Program} {w : World} {outer : List Env} {H : Hp} {s : Shared} {u : Value} {s' : Shared} (h : L2.CX P w outer H s (fun _ _ _ => False) u s') : False := by
  obtain ⟨_, _, _, _, _, _, _, _, _, _, _, _, h⟩ := h
  exact h
end Ev
end
section
set_option maxRecDepth 100000
set_option maxHeartbeats 1000000
/-! Ev15: reckoning with the clean language. -/
namespace Ev
section
variable {P : Pg} {call : CallT} {c : C} {s : Sto} {x : Sl} {l : List Sl} {n : Nat} {α β : Type}
@[simp] theorem bind_ok {a : α} {f : α → C → R β} : (R.ok a c).bind f = f a c := rfl
@[simp] theorem bind_st {f : α → C → R β} : (R.st : R α).bind f = .st := rfl
@[simp] theorem bind_ex {x : Xc} {f : α → C → R β} : (R.ex x c : R α).bind f = .ex x c := rfl
@[simp] theorem ofO_some {a : α} : ofO (some a) c = .ok a c := rfl
@[simp] theorem ofO_none : ofO (none : Option α) c = .st := rfl
@[simp] theorem getS_zero : getS (x :: l) 0 = x := rfl
@[simp] theorem getS_succ : getS (x :: l) (n + 1) = getS l n := rfl
@[simp] theorem setS_zero {y : Sl} : setS (x :: l) 0 y = y :: l := rfl
@[simp] theorem setS_succ {y : Sl} : setS (x :: l) (n + 1) y = x :: setS l n y := rfl
@[simp] theorem get_mk {ρ : List Sl} {i : Nat} : C.get ⟨ρ, s⟩ i = getS ρ i := rfl
@[simp] theorem set_mk {ρ : List Sl} {i : Nat} {y : Sl} : C.set ⟨ρ, s⟩ i y = ⟨setS ρ i y, s⟩ := rfl
@[simp] theorem wipe_nil : c.wipe [] = c := rfl
@[simp] theorem wipe_cons {i : Nat} {is : List Nat} : c.wipe (i :: is) = (c.wipe is).set i .no := rfl
@[simp] theorem rd_d {d : D} : (Vl.d d).rd = d := rfl
@[simp] theorem rd_tmp {d : D} : (Vl.tmp d).rd = d := rfl
@[simp] theorem rd_bor {d : D} {i : Nat} : (Vl.bor i d).rd = d := rfl
@[simp] theorem frz_d {d : D} : frz (.d d) c = c := rfl
@[simp] theorem frz_tmp {d : D} : frz (.tmp d) c = c := rfl
@[simp] theorem frz_bor {d : D} {i : Nat} : frz (.bor i d) c = c.set i (.dat d) := rfl
@[simp] theorem frzs_nil : frzs [] c = c := rfl
@[simp] theorem frzs_cons {v : Vl} {vs : List Vl} : frzs (v :: vs) c = frzs vs (frz v c) := rfl
@[simp] theorem vl_d {d : D} : (Rv.d d).vl = .d d := rfl
@[simp] theorem vl_own {d : D} : (Rv.own d).vl = .tmp d := rfl
@[simp] theorem rv_d {d : D} : (Vl.d d).rv c = .d d := rfl
@[simp] theorem rv_tmp {d : D} : (Vl.tmp d).rv c = .own d := rfl
@[simp] theorem rv_bor {d : D} {i : Nat} : (Vl.bor i d).rv c = match c.get i with
    | .own _ => .own d
    | _ => .d d := rfl
/-! expressions -/
@[simp] theorem ev_v {i : Nat} : evE P call (.v i) c = match c.get i with
  | .no => .st
  | .dat x => .ok (.d x) c
  | .own x => .ok (.bor i x) c := by (rw [evE.eq_def]) <;> rfl
@[simp] theorem ev_k {g : Nat} : evE P call (.k g) c = ofO ((P.cs g).map Vl.d) c := by (rw [evE.eq_def]) <;> rfl
@[simp] theorem ev_n : evE P call .n c = .ok (.d .non) c := by (rw [evE.eq_def]) <;> rfl
@[simp] theorem ev_b {b : Bool} : evE P call (.b b) c = .ok (.d (.bl b)) c := by (rw [evE.eq_def]) <;> rfl
@[simp] theorem ev_i {i : Int} : evE P call (.i i) c = .ok (.d (.int i)) c := by (rw [evE.eq_def]) <;> rfl
@[simp] theorem ev_s {z : List Nat} : evE P call (.s z) c = .ok (.d (.str z)) c := by (rw [evE.eq_def]) <;> rfl
@[simp] theorem ev_bin {o : BOp} {x y : E} : evE P call (.bin o x y) c = (evE P call x c).bind fun a c => (evE P call y c).bind fun b c => ofO (binD o a.rd b.rd) c := by (rw [evE.eq_def]) <;> rfl
@[simp] theorem ev_neg {x : E} : evE P call (.neg x) c = (evE P call x c).bind fun a c => match a.rd with
    | .int i => .ok (.d (.int (-i))) c
    | _ => .st := by (rw [evE.eq_def]) <;> rfl
@[simp] theorem ev_cmp {o : COp} {x y : E} : evE P call (.cmp o x y) c = (evE P call x c).bind fun a c => (evE P call y c).bind fun b c => ofO ((cmpD o a.rd b.rd).map fun t => .d (.bl t)) c := by (rw [evE.eq_def]) <;> rfl
@[simp] theorem ev_chain {o p : COp} {x y z : E} : evE P call (.chain o p x y z) c = (evE P call x c).bind fun a c => (evE P call y c).bind fun b c => (ofO (cmpD o a.rd b.rd) c).bind fun t c =>
      if t then (evE P call z c).bind fun d c => ofO ((cmpD p b.rd d.rd).map fun t => .d (.bl t)) c else .ok (.d (.bl false)) c := by (rw [evE.eq_def]) <;> rfl
@[simp] theorem ev_and {x y : E} : evE P call (.and x y) c = (evE P call x c).bind fun a c => match a.rd with
    | .bl true => evE P call y c
    | .bl false => .ok (.d (.bl false)) c
    | _ => .st := by (rw [evE.eq_def]) <;> rfl
@[simp] theorem ev_or {x y : E} : evE P call (.or x y) c = (evE P call x c).bind fun a c => match a.rd with
    | .bl true => .ok (.d (.bl true)) c
    | .bl false => evE P call y c
    | _ => .st := by (rw [evE.eq_def]) <;> rfl
@[simp] theorem ev_not {x : E} : evE P call (.not x) c = (evE P call x c).bind fun a c => match a.rd with
    | .bl t => .ok (.d (.bl !t)) c
    | _ => .st := by (rw [evE.eq_def]) <;> rfl
@[simp] theorem ev_ite {t x y : E} : evE P call (.ite t x y) c = (evT P call t c).bind fun b c => if b then evE P call x c else evE P call y c := by (rw [evE.eq_def]) <;> rfl
@[simp] theorem ev_call {g : Nat} {xs : List E} : evE P call (.call g xs) c = (evEs P call xs c).bind (doCall call g) := by (rw [evE.eq_def]) <;> rfl
@[simp] theorem ev_blt {f : Blt} {xs : List E} : evE P call (.blt f xs) c = (evEs P call xs c).bind (doBlt f) := by (rw [evE.eq_def]) <;> rfl
@[simp] theorem ev_isi {x : E} {t : Ty} : evE P call (.isi x t) c = (evE P call x c).bind (doIsi t) := by (rw [evE.eq_def]) <;> rfl
@[simp] theorem ev_ix {x y : E} : evE P call (.ix x y) c = (evE P call x c).bind fun a c => (evE P call y c).bind (doIx a) := by (rw [evE.eq_def]) <;> rfl
@[simp] theorem ev_sl {x : E} {lo hi : Option E} : evE P call (.sl x lo hi) c = (evE P call x c).bind fun a c => (evO P call lo c).bind fun l c => (evO P call hi c).bind fun h c => ofO (slD a.rd l h) c := by (rw [evE.eq_def]) <;> rfl
@[simp] theorem ev_rev {x : E} : evE P call (.rev x) c = (evE P call x c).bind fun a c => match a.rd with
    | .lst xs => .ok (.tmp (.lst xs.reverse)) c
    | .tup xs => .ok (.d (.tup xs.reverse)) c
    | _ => .st := by (rw [evE.eq_def]) <;> rfl
@[simp] theorem ev_tup {xs : List E} : evE P call (.tup xs) c = (evEs P call xs c).bind fun vs c => .ok (.d (.tup (vs.map Vl.rd))) (frzs vs c) := by (rw [evE.eq_def]) <;> rfl
@[simp] theorem ev_lst {xs : List E} : evE P call (.lst xs) c = (evEs P call xs c).bind fun vs c => .ok (.tmp (.lst (vs.map Vl.rd))) (frzs vs c) := by (rw [evE.eq_def]) <;> rfl
theorem ev_lc {e : E} {t : Tg} {vs : List Nat} {w : Wk} {xs cs : List E} : evE P call (.lc e t vs w xs cs) c = (evEs P call xs c).bind fun us c => (ofO (wkD w (us.map Vl.rd)) c).bind fun its c => doLc t vs (evTs P call cs) (evE P call e) its c := by (rw [evE.eq_def]) <;> rfl
@[simp] theorem evs_nil : evEs P call [] c = .ok [] c := by (rw [evEs.eq_def]) <;> rfl
@[simp] theorem evs_cons {e : E} {es : List E} : evEs P call (e :: es) c = (evE P call e c).bind fun v c => (evEs P call es c).bind fun vs c => .ok (v :: vs) c := by (rw [evEs.eq_def]) <;> rfl
@[simp] theorem evo_none : evO P call none c = .ok none c := by (rw [evO.eq_def]) <;> rfl
@[simp] theorem evo_some {e : E} : evO P call (some e) c = (evE P call e c).bind fun v c => match v.rd with
    | .int i => .ok (some i) c
    | _ => .st := by (rw [evO.eq_def]) <;> rfl
@[simp] theorem evt_and {x y : E} : evT P call (.and x y) c = (evT P call x c).bind fun b c => if b then evT P call y c else .ok false c := by (rw [evT.eq_def]) <;> rfl
@[simp] theorem evt_or {x y : E} : evT P call (.or x y) c = (evT P call x c).bind fun b c => if b then .ok true c else evT P call y c := by (rw [evT.eq_def]) <;> rfl
@[simp] theorem evt_not {x : E} : evT P call (.not x) c = (evT P call x c).bind fun b c => .ok (!b) c := by (rw [evT.eq_def]) <;> rfl
@[simp] theorem evt_cmp {o : COp} {x y : E} : evT P call (.cmp o x y) c = (evE P call x c).bind fun a c => (evE P call y c).bind fun b c => ofO (cmpD o a.rd b.rd) c := by (rw [evT.eq_def]) <;> rfl
@[simp] theorem evt_chain {o p : COp} {x y z : E} : evT P call (.chain o p x y z) c = (evE P call x c).bind fun a c => (evE P call y c).bind fun b c => (ofO (cmpD o a.rd b.rd) c).bind fun t c =>
      if t then (evE P call z c).bind fun d c => ofO (cmpD p b.rd d.rd) c else .ok false c := by (rw [evT.eq_def]) <;> rfl
@[simp] theorem evt_v {i : Nat} : evT P call (.v i) c = (evE P call (.v i) c).bind asB := by rw [evT.eq_def, evE.eq_def]
@[simp] theorem evt_call {g : Nat} {xs : List E} : evT P call (.call g xs) c = ((evEs P call xs c).bind (doCall call g)).bind asB := by (rw [evT.eq_def]) <;> rfl
@[simp] theorem evt_blt {f : Blt} {xs : List E} : evT P call (.blt f xs) c = ((evEs P call xs c).bind (doBlt f)).bind asB := by (rw [evT.eq_def]) <;> rfl
@[simp] theorem evt_isi {x : E} {t : Ty} : evT P call (.isi x t) c = ((evE P call x c).bind (doIsi t)).bind asB := by (rw [evT.eq_def]) <;> rfl
@[simp] theorem evt_ix {x y : E} : evT P call (.ix x y) c = ((evE P call x c).bind fun a c => (evE P call y c).bind (doIx a)).bind asB := by (rw [evT.eq_def]) <;> rfl
@[simp] theorem evts_nil : evTs P call [] c = .ok true c := by (rw [evTs.eq_def]) <;> rfl
@[simp] theorem evts_one {e : E} : evTs P call [e] c = evT P call e c := by (rw [evTs.eq_def]) <;> rfl
@[simp] theorem doBlt_eq {f : Blt} {vs : List Vl} : doBlt f vs c = ofO (bltD f (vs.map Vl.rd)) c := rfl
@[simp] theorem doIsi_eq {t : Ty} {a : Vl} : doIsi t a c = ofO ((isiD a.rd t).map fun b => .d (.bl b)) c := rfl
@[simp] theorem doIx_eq {a b : Vl} : doIx a b c = ofO ((ixD a.rd b.rd).map Vl.d) c := rfl
@[simp] theorem doCall_eq {g : Nat} {vs : List Vl} : doCall call g vs c = called vs c (call g (vs.map Vl.rd) c.sto) := rfl
@[simp] theorem asB_eq {v : Vl} : asB v c = ofO (truD v.rd) c := rfl
@[simp] theorem called_ok {vs : List Vl} {r : Rv} : called vs c (.ok r s) = .ok r.vl (if r.free then ⟨c.env, s⟩ else ⟨(frzs vs c).env, s⟩) := rfl
/-! statements -/
@[simp] theorem es_asg {t : Tg} {e : E} : evS P call (.asg t e) c = (evE P call e c).bind (lay t) := by (rw [evS.eq_def]) <;> rfl
@[simp] theorem es_app {i : Nat} {e : E} : evS P call (.app i e) c = match c.get i with
    | .own (.lst _) => (evE P call e c).bind (doApp i)
    | _ => .st := by (rw [evS.eq_def]) <;> rfl
@[simp] theorem es_pop {t : Tg} {i : Nat} : evS P call (.pop t i) c = match c.get i with
    | .own (.lst xs) => match xs.getLast? with
      | some x => lay t (.d x) (c.set i (.own (.lst xs.dropLast)))
      | none => .st
    | _ => .st := by (rw [evS.eq_def]) <;> rfl
@[simp] theorem es_setix {i : Nat} {x y : E} : evS P call (.setix i x y) c = (evE P call y c).bind fun v c => match c.get i with
    | .own (.lst _) => (evE P call x c).bind (doSet i v)
    | _ => .st := by (rw [evS.eq_def]) <;> rfl
@[simp] theorem es_ife {t : E} {a b : List S} : evS P call (.ife t a b) c = (evT P call t c).bind fun q c => if q then evSs P call a c else evSs P call b c := by (rw [evS.eq_def]) <;> rfl
@[simp] theorem es_forr {t : Tg} {w : Wk} {xs : List E} {b : List S} : evS P call (.forr t w xs b) c = (evEs P call xs c).bind (doFor t w b (evSs P call b)) := by (rw [evS.eq_def]) <;> rfl
@[simp] theorem es_ret {e : E} : evS P call (.ret e) c = (evE P call e c).bind fun v c => .ok (.rt (v.rv c)) c := by (rw [evS.eq_def]) <;> rfl
@[simp] theorem es_retn : evS P call .retn c = .ok (.rt (.d .non)) c := by (rw [evS.eq_def]) <;> rfl
@[simp] theorem es_exp {e : E} : evS P call (.exp e) c = (evE P call e c).bind fun _ c => .ok .nx c := by (rw [evS.eq_def]) <;> rfl
@[simp] theorem es_pass : evS P call .pass c = .ok .nx c := by (rw [evS.eq_def]) <;> rfl
@[simp] theorem es_brk : evS P call .brk c = .ok .bk c := by (rw [evS.eq_def]) <;> rfl
@[simp] theorem es_cnt : evS P call .cnt c = .ok .ct c := by (rw [evS.eq_def]) <;> rfl
@[simp] theorem ess_nil : evSs P call [] c = .ok .nx c := by (rw [evSs.eq_def]) <;> rfl
@[simp] theorem ess_cons {a : S} {r : List S} : evSs P call (a :: r) c = (evS P call a c).bind fun f c => nxt f c (evSs P call r) := by (rw [evSs.eq_def]) <;> rfl
@[simp] theorem nxt_nx {k : C → R Fl} : nxt .nx c k = k c := rfl
@[simp] theorem nxt_rt {k : C → R Fl} {v : Rv} : nxt (.rt v) c k = .ok (.rt v) c := rfl
@[simp] theorem nxt_bk {k : C → R Fl} : nxt .bk c k = .ok .bk c := rfl
@[simp] theorem nxt_ct {k : C → R Fl} : nxt .ct c k = .ok .ct c := rfl
@[simp] theorem lay_d {i : Nat} {d : D} : lay (.nm i) (.d d) c = .ok .nx (c.set i (.dat d)) := rfl
@[simp] theorem lay_tmp {i : Nat} {d : D} : lay (.nm i) (.tmp d) c = .ok .nx (c.set i (.own d)) := rfl
@[simp] theorem lay_bor {i j : Nat} {d : D} : lay (.nm i) (.bor j d) c = .ok .nx ((c.set j (.dat d)).set i (.dat d)) := rfl
@[simp] theorem endR_nx : endR (.ok .nx c) = .ok (.d .non) c.sto := rfl
@[simp] theorem endR_rt {v : Rv} : endR (.ok (.rt v) c) = .ok v c.sto := rfl
/-- a statement that goes on -/
theorem step {a : S} {r : List S} {c' : C} (h : evS P call a c = .ok .nx c') : evSs P call (a :: r) c = evSs P call r c' := by rw [ess_cons, h]; rfl
/-- a statement that gives an answer -/
theorem stop {a : S} {r : List S} {c' : C} {v : Rv} (h : evS P call a c = .ok (.rt v) c') : evSs P call (a :: r) c = .ok (.rt v) c' := by rw [ess_cons, h]; rfl
end
/-- a call -/
theorem call_eq {P : Pg} {n g : Nat} {f : Fn} {ds : List D} {s : Sto} (h : P.fns g = some f) (hl : ds.length = f.np) : callN P (n + 1) g ds s = endR (evSs P (callN P n) f.body ⟨startL f.nl ds, s⟩) := by
  show (match P.fns g with
    | some f => runFn P (callN P n) f ds s
    | none => .st) = _
  rw [h]
  show (if ds.length = f.np then _ else _) = _
  rw [if_pos hl]
/-! ### loops -/
theorem forL_rel {t : Tg} {body : C → R Fl} {σ : Type} (I : σ → C → Prop) (f : σ → D → σ) : ∀ (xs : List D), (∀ a x c, x ∈ xs → I a c → ∃ c1 c2, tgt t x c = some c1 ∧ (body c1 = .ok .nx c2 ∨ body c1 = .ok .ct c2) ∧ I (f a x) c2) →
    ∀ a c, I a c → ∃ c', forL t body xs c = .ok .nx c' ∧ I (xs.foldl f a) c'
  | [], _, a, c, h => ⟨c, rfl, h⟩
  | x :: xs, hs, a, c, h => by
    obtain ⟨c1, c2, h1, h2, h3⟩ := hs a x c List.mem_cons_self h
    obtain ⟨c', h4, h5⟩ := forL_rel I f xs (fun a x c hx => hs a x c (List.mem_cons_of_mem _ hx)) _ _ h3
    refine ⟨c', ?_, h5⟩
    unfold forL
    rw [h1]
    rcases h2 with h2 | h2 <;> simp only [h2, bind_ok] <;> exact h4
/-- a loop that keeps a state -/
theorem forL_inv {t : Tg} {body : C → R Fl} (I : C → Prop) (xs : List D) (hs : ∀ x c, x ∈ xs → I c → ∃ c1 c2, tgt t x c = some c1 ∧ (body c1 = .ok .nx c2 ∨ body c1 = .ok .ct c2) ∧ I c2) (c : C) (h : I c) : ∃ c', forL t body xs c = .ok .nx c' ∧ I c' := by
  obtain ⟨c', h1, h2⟩ := forL_rel (fun (_ : Unit) c => I c) (fun a _ => a) xs (fun a x c hx hi => hs x c hx hi) () c h
  exact ⟨c', h1, h2⟩
theorem lcL_map {f : D → C → R (Option D)} {c : C} {g : D → Option D} : ∀ (xs acc : List D), acc.length + xs.length < line + 1 → (∀ x ∈ xs, f x c = .ok (g x) c) → lcL f xs acc c = .ok (acc ++ xs.filterMap g) c
  | [], acc, hl, h => by simp [lcL]
  | x :: xs, acc, hl, h => by
    have h1 := h x List.mem_cons_self
    have h2 := fun y hy => h y (List.mem_cons_of_mem _ hy)
    unfold lcL
    rw [h1, bind_ok]
    simp only [List.length_cons] at hl
    cases e : g x with
    | none =>
      simp only [List.filterMap_cons, e]
      exact lcL_map xs acc (by omega) h2
    | some y =>
      simp only [List.filterMap_cons, e]
      rw [if_pos (by omega), lcL_map xs (acc ++ [y]) (by simp; omega) h2]
      simp
/-- a comprehension whose parts leave all else as it is -/
theorem doLc_fm {t : Tg} {vs : List Nat} {rt : C → R Bool} {re : C → R Vl} {its : List D} {c : C} (g : D → Option D) (hl : its.length ≤ line) (hv : (vs.any fun i => isOwn (c.get i)) = false) (h : ∀ x ∈ its, lcF t vs rt re x (c.wipe vs) = .ok (g x) (c.wipe vs)) :
    doLc t vs rt re its c = .ok (.tmp (.lst (its.filterMap g))) (c.wipe vs) := by
  unfold doLc
  rw [hv, lcL_map (g := g) its [] (by simp only [List.length_nil]; omega) h]
  simp
theorem doLc_map {t : Tg} {vs : List Nat} {rt : C → R Bool} {re : C → R Vl} {its : List D} {c : C} (g : D → D) (hl : its.length ≤ line) (hv : (vs.any fun i => isOwn (c.get i)) = false) (h : ∀ x ∈ its, lcF t vs rt re x (c.wipe vs) = .ok (some (g x)) (c.wipe vs)) :
    doLc t vs rt re its c = .ok (.tmp (.lst (its.map g))) (c.wipe vs) := by
  rw [doLc_fm (fun x => some (g x)) hl hv h]
  simp

/-! operations by kind -/
@[simp] theorem add_i {i j : Int} : binD .add (.int i) (.int j) = some (.d (.int (i + j))) := rfl
@[simp] theorem add_s {x y : List Nat} : binD .add (.str x) (.str y) = if x.length + y.length ≤ line then some (.d (.str (x ++ y))) else none := rfl
@[simp] theorem add_t {x y : List D} : binD .add (.tup x) (.tup y) = if x.length + y.length ≤ line then some (.d (.tup (x ++ y))) else none := rfl
@[simp] theorem add_l {x y : List D} : binD .add (.lst x) (.lst y) = if x.length + y.length ≤ line then some (.tmp (.lst (x ++ y))) else none := rfl
@[simp] theorem sub_i {i j : Int} : binD .sub (.int i) (.int j) = some (.d (.int (i - j))) := rfl
@[simp] theorem mul_i {i j : Int} : binD .mul (.int i) (.int j) = if okMul i j then some (.d (.int (i * j))) else none := rfl
@[simp] theorem mul_s {x : List Nat} {j : Int} : binD .mul (.str x) (.int j) = if decide (0 ≤ j) && decide (j ≤ 1000) && decide (x.length ≤ 1000) then some (.d (.str (List.replicate j.toNat x).flatten)) else none := rfl
@[simp] theorem mul_t {x : List D} {j : Int} : binD .mul (.tup x) (.int j) = if (!x.isEmpty && decide (2 ≤ j) && decide (j ≤ 1000) && decide (x.length ≤ 1000)) = true then some (.d (.tup (List.replicate j.toNat x).flatten)) else none := rfl
@[simp] theorem fdiv_i {i j : Int} : binD .fdiv (.int i) (.int j) = if decide (0 < j) && decide (j < 1073741824) then some (.d (.int (i / j))) else none := rfl
@[simp] theorem mod_i {i j : Int} : binD .mod (.int i) (.int j) = if 0 < j then some (.d (.int (i % j))) else none := rfl
@[simp] theorem pow_i {i j : Int} : binD .pow (.int i) (.int j) = if decide (0 ≤ j) && decide (j ≤ 1000000) && decide (i.natAbs < 2 ^ 64) then some (.d (.int (i ^ j.toNat))) else none := rfl
@[simp] theorem band_i {i j : Int} : binD .band (.int i) (.int j) = if decide (0 ≤ i) && decide (0 ≤ j) then some (.d (.int ((i.toNat &&& j.toNat : Nat) : Int))) else none := rfl
@[simp] theorem c_eq {x y : D} : cmpD .eq x y = if shp x && shp y then some (deq x y) else none := rfl
@[simp] theorem c_ne {x y : D} : cmpD .ne x y = if shp x && shp y then some (!deq x y) else none := rfl
@[simp] theorem c_lt {x y : D} : cmpD .lt x y = ltD x y := rfl
@[simp] theorem c_gt {i j : Int} : cmpD .gt (.int i) (.int j) = some (decide (j < i)) := rfl
@[simp] theorem c_le {x y : D} : cmpD .le x y = (ltD y x).map (!·) := by
  cases x <;> cases y <;> rfl
@[simp] theorem c_ge {i j : Int} : cmpD .ge (.int i) (.int j) = some (!decide (i < j)) := rfl
@[simp] theorem c_in {x y : D} : cmpD .isin x y = inD x y := rfl
@[simp] theorem c_nin {x y : D} : cmpD .nin x y = (inD x y).map (!·) := rfl
@[simp] theorem c_is {x y : D} : cmpD .is x y = isD x y := rfl
@[simp] theorem c_isnot {x y : D} : cmpD .isnot x y = (isD x y).map (!·) := rfl
@[simp] theorem lt_i {i j : Int} : ltD (.int i) (.int j) = some (decide (i < j)) := rfl
@[simp] theorem lt_s {i j : List Nat} : ltD (.str i) (.str j) = some (strLt i j) := rfl
@[simp] theorem is_bb {a b : Bool} : isD (.bl a) (.bl b) = some (a == b) := rfl
@[simp] theorem is_nn : isD .non .non = some true := rfl
@[simp] theorem is_in {i : Int} : isD (.int i) .non = some false := rfl
@[simp] theorem is_sn {i : List Nat} : isD (.str i) .non = some false := rfl
@[simp] theorem is_tn {i : List D} : isD (.tup i) .non = some false := rfl
@[simp] theorem is_bn {i : Bool} : isD (.bl i) .non = some false := rfl
@[simp] theorem tru_b {b : Bool} : truD (.bl b) = some b := rfl
@[simp] theorem tru_i {i : Int} : truD (.int i) = some (i != 0) := rfl
@[simp] theorem tru_t {xs : List D} : truD (.tup xs) = some (!xs.isEmpty) := rfl
@[simp] theorem tru_l {xs : List D} : truD (.lst xs) = some (!xs.isEmpty) := rfl
@[simp] theorem tru_n : truD .non = some false := rfl
@[simp] theorem isi_i {i : Int} {t : Ty} : isiD (.int i) t = some (decide (t = .int)) := by cases t <;> rfl
@[simp] theorem isi_s {i : List Nat} {t : Ty} : isiD (.str i) t = some (decide (t = .str)) := by cases t <;> rfl
@[simp] theorem isi_t {i : List D} {t : Ty} : isiD (.tup i) t = some (decide (t = .tup)) := by cases t <;> rfl
@[simp] theorem isi_l {i : List D} {t : Ty} : isiD (.lst i) t = some (decide (t = .lst)) := by cases t <;> rfl
@[simp] theorem isi_n {t : Ty} : isiD .non t = some false := by cases t <;> rfl
@[simp] theorem isi_b {b : Bool} {t : Ty} : isiD (.bl b) t = some (decide (t = .bool) || decide (t = .int)) := by cases t <;> rfl
@[simp] theorem blt_one {f : Blt} {x : D} : bltD f [x] = blt1 f x := rfl
@[simp] theorem blt_two {f : Blt} {x y : D} : bltD f [x, y] = blt2 f x y := rfl
@[simp] theorem len_s {x : List Nat} : blt1 .len (.str x) = if x.length ≤ line then some (.d (.int x.length)) else none := rfl
@[simp] theorem len_t {x : List D} : blt1 .len (.tup x) = some (.d (.int x.length)) := rfl
@[simp] theorem len_l {x : List D} : blt1 .len (.lst x) = some (.d (.int x.length)) := rfl
@[simp] theorem int_i {i : Int} : blt1 .int (.int i) = some (.d (.int i)) := rfl
@[simp] theorem int_b {i : Bool} : blt1 .int (.bl i) = some (.d (.int (if i then 1 else 0))) := rfl
@[simp] theorem ord_s {c : Nat} : blt1 .ord (.str [c]) = some (.d (.int c)) := rfl
@[simp] theorem tuple_t {x : List D} : blt1 .tuple (.tup x) = some (.d (.tup x)) := rfl
@[simp] theorem tuple_l {x : List D} : blt1 .tuple (.lst x) = some (.d (.tup x)) := rfl
@[simp] theorem list_t {x : List D} : blt1 .list (.tup x) = some (.tmp (.lst x)) := rfl
@[simp] theorem list_l {x : List D} : blt1 .list (.lst x) = some (.tmp (.lst x)) := rfl
@[simp] theorem all_l {x : List D} : blt1 .all (.lst x) = (bools? x).map fun bs => .d (.bl (bs.all id)) := rfl
@[simp] theorem any_l {x : List D} : blt1 .any (.lst x) = (bools? x).map fun bs => .d (.bl (bs.any id)) := rfl
@[simp] theorem sum_l {x : List D} : blt1 .sum (.lst x) = (ints? x).map fun is => .d (.int is.sum) := rfl
@[simp] theorem min_2 {i j : Int} : blt2 .min (.int i) (.int j) = some (.d (.int (if j < i then j else i))) := rfl
@[simp] theorem max_2 {i j : Int} : blt2 .max (.int i) (.int j) = some (.d (.int (if j > i then j else i))) := rfl
@[simp] theorem ix_l {xs : List D} {i : Int} : ixD (.lst xs) (.int i) = atI xs i := rfl
@[simp] theorem ix_t {xs : List D} {i : Int} : ixD (.tup xs) (.int i) = atI xs i := rfl
@[simp] theorem ix_s {z : List Nat} {i : Int} : ixD (.str z) (.int i) = if z.length ≤ line then (atI z i).map fun c => .str [c] else none := rfl
@[simp] theorem sl_l {xs : List D} {lo hi : Option Int} : slD (.lst xs) lo hi = some (.tmp (.lst (cut xs lo hi))) := rfl
@[simp] theorem sl_t {xs : List D} {lo hi : Option Int} : slD (.tup xs) lo hi = some (.d (.tup (cut xs lo hi))) := rfl
@[simp] theorem sl_s {z : List Nat} {lo hi : Option Int} : slD (.str z) lo hi = if z.length ≤ line then some (.d (.str (cut z lo hi))) else none := rfl
@[simp] theorem wk_l {xs : List D} : wkD .seq [.lst xs] = some xs := rfl
@[simp] theorem wk_t {xs : List D} : wkD .seq [.tup xs] = some xs := rfl
@[simp] theorem wk_s {z : List Nat} : wkD .seq [.str z] = if z.length ≤ line then some (z.map fun c => .str [c]) else none := rfl
@[simp] theorem wk_r1 {j : Int} : wkD .rng1 [.int j] = if in62 j then some (rngL 0 j.toNat) else none := rfl
@[simp] theorem wk_r2 {i j : Int} : wkD .rng2 [.int i, .int j] = if in62 i && in62 j then some (rngL i (j - i).toNat) else none := rfl
@[simp] theorem wk_el {xs : List D} : wkD .enum [.lst xs] = some (enumF 0 xs) := rfl
@[simp] theorem wk_et {xs : List D} : wkD .enum [.tup xs] = some (enumF 0 xs) := rfl
@[simp] theorem wk_zl {xs ys : List D} : wkD .zip [.lst xs, .lst ys] = some (zipT xs ys) := rfl
@[simp] theorem wk_zt {xs ys : List D} : wkD .zip [.tup xs, .tup ys] = some (zipT xs ys) := rfl
@[simp] theorem tgt_nm {i : Nat} {d : D} {c : C} : tgt (.nm i) d c = some (c.set i (.dat d)) := rfl
@[simp] theorem keepsV_nil {b : List S} : keepsV b [] = true := rfl
@[simp] theorem keepsV_d {b : List S} {d : D} {r : List Vl} : keepsV b (.d d :: r) = keepsV b r := rfl
@[simp] theorem keepsV_tmp {b : List S} {d : D} {r : List Vl} : keepsV b (.tmp d :: r) = keepsV b r := rfl
@[simp] theorem keepsV_bor {b : List S} {i : Nat} {d : D} {r : List Vl} : keepsV b (.bor i d :: r) = (keepsSs i b && keepsV b r) := rfl
end Ev
end
section
set_option maxRecDepth 100000
/-! the clean functions -/
namespace Ev
/-- _law_draws; 0 _law_cell, 1 _law_many, 2 _law_rows, 3 _law_rest, 4 _law_k, 5 _law_state -/
def b0 : List S :=
   [.asg (.nm 2) (.lst []),
    .asg (.nm 3) (.blt .int [(.v 0)]),
    .ife (.cmp .ge (.v 3) (.bin .pow (.i 10) (.i 18)))
    [.forr (.nm 4) .rng1 [(.v 1)]
      [.ife (.cmp .gt (.v 3) (.i 0))
        [.app 2 (.bin .mod (.blt .int [(.v 3)]) (.i 1000)),
        .asg (.nm 3) (.bin .fdiv (.v 3) (.i 1000))]
        []]]
    [],
    .asg (.nm 5) (.bin .mod (.blt .int [(.bin .add (.bin .mul (.blt .int [(.v 0)]) (.i 48271)) (.i 11))]) (.i 2147483647)),
    .forr (.nm 4) .rng1 [(.v 1)]
    [.asg (.nm 5) (.bin .mod (.blt .int [(.bin .add (.bin .add (.bin .mul (.v 5) (.i 48271)) (.bin .mul (.v 4) (.i 69621))) (.i 7))]) (.i 2147483647)),
    .ife (.cmp .lt (.blt .len [(.v 2)]) (.v 1))
      [.app 2 (.bin .mod (.blt .int [(.bin .mod (.blt .int [(.bin .add (.bin .mul (.v 5) (.i 69621)) (.i 5))]) (.i 2147483629))]) (.i 1000))]
      []],
    .ret (.v 2)]
def f0 : Fn := ⟨2, 6, b0⟩
/-- value_octets; 0 value, 1 sign -/
def b1 : List S :=
   [.ife (.isi (.v 0) .str)
    [.ret (.bin .add (.bin .add (.tup [(.i 2)]) (.blt .tuple [(.lc (.blt .ord [(.v 1)]) (.nm 1) [1] .seq [(.v 0)] [])])) (.tup [(.i 0)]))]
    [],
    .ret (.tup [(.i 1), (.bin .fdiv (.v 0) (.i 65536)), (.bin .mod (.bin .fdiv (.v 0) (.i 256)) (.i 256)), (.bin .mod (.v 0) (.i 256))])]
def f1 : Fn := ⟨1, 2, b1⟩
/-- body; 0 values, 1 octets, 2 value -/
def b2 : List S :=
   [.asg (.nm 1) (.tup []),
    .forr (.nm 2) .seq [(.v 0)]
    [.asg (.nm 1) (.bin .add (.v 1) (.call 1 [(.v 2)]))],
    .ret (.v 1)]
def f2 : Fn := ⟨1, 3, b2⟩
/-- key_octets; 0 key -/
def b3 : List S :=
   [.ret (.bin .add (.call 2 [(.v 0)]) (.tup [(.i 0)]))]
def f3 : Fn := ⟨1, 1, b3⟩
/-- _law_value; 0 _law_draw, 1 _law_numbers, 2 _law_texts -/
def b4 : List S :=
   [.asg (.nm 1) (.lst [(.i 0), (.i 1), (.i 2), (.i 7), (.i 255), (.i 256), (.i 65535), (.i 65536), (.i 999999)]),
    .asg (.nm 2) (.lst [(.s []), (.s [97]), (.s [97, 98]), (.s [98]), (.s [97, 32, 98]), (.s [111, 108, 100, 32, 109, 105, 108, 108]), (.s [77, 105, 108, 108]), (.s [116, 101]), (.s [116, 101, 97]), (.s [116, 101, 97, 45, 116, 105, 109, 101]), (.s [120, 49]), (.s [126]), (.s [32]), (.s [97, 98, 99]), (.s [109, 105, 108, 108, 32, 119, 101, 105, 114])]),
    .ife (.cmp .eq (.bin .mod (.blt .int [(.v 0)]) (.i 3)) (.i 0))
    [.ret (.ix (.v 1) (.bin .mod (.bin .fdiv (.blt .int [(.v 0)]) (.i 3)) (.i 9)))]
    [],
    .ife (.cmp .eq (.bin .mod (.blt .int [(.v 0)]) (.i 100)) (.i 98))
    [.ret (.bin .mul (.s [97, 98]) (.i 20))]
    [],
    .ret (.ix (.v 2) (.bin .mod (.bin .fdiv (.blt .int [(.v 0)]) (.i 3)) (.i 15)))]
def f4 : Fn := ⟨1, 3, b4⟩
/-- _law_key; 0 _law_draws_here, 1 _law_k -/
def b5 : List S :=
   [.ret (.blt .tuple [(.lc (.call 4 [(.ix (.v 0) (.bin .add (.i 1) (.v 1)))]) (.nm 1) [1] .rng1 [(.bin .add (.i 1) (.bin .mod (.blt .int [(.ix (.v 0) (.i 0))]) (.i 3)))] [])])]
def f5 : Fn := ⟨1, 2, b5⟩
/-- _law_bits; 0 _law_octets_here, 1 _law_bits_here, 2 _law_octet, 3 _law_unit -/
def b6 : List S :=
   [.asg (.nm 1) (.lst []),
    .forr (.nm 2) .seq [(.v 0)]
    [.asg (.nm 1) (.bin .add (.v 1) (.lc (.bin .mod (.bin .fdiv (.blt .int [(.v 2)]) (.v 3)) (.i 2)) (.nm 3) [3] .seq [(.tup [(.i 128), (.i 64), (.i 32), (.i 16), (.i 8), (.i 4), (.i 2), (.i 1)])] []))],
    .ret (.v 1)]
def f6 : Fn := ⟨1, 4, b6⟩
/-- first_bit; 0 one, 1 other, 2 at, 3 turn, 4 mask -/
def b7 : List S :=
   [.forr (.nm 2) .rng1 [(.blt .min [(.blt .len [(.v 0)]), (.blt .len [(.v 1)])])]
    [.ife (.cmp .ne (.ix (.v 0) (.v 2)) (.ix (.v 1) (.v 2)))
      [.forr (.tp [3, 4]) .enum [(.k 0)]
        [.ife (.cmp .ne (.bin .band (.ix (.v 0) (.v 2)) (.v 4)) (.bin .band (.ix (.v 1) (.v 2)) (.v 4)))
          [.ret (.bin .add (.bin .mul (.i 8) (.v 2)) (.v 3))]
          []]]
      []],
    .ret .n]
def f7 : Fn := ⟨2, 5, b7⟩
/-- has_bit; 0 octets, 1 number -/
def b8 : List S :=
   [.ret (.cmp .ne (.bin .band (.ix (.v 0) (.bin .fdiv (.v 1) (.i 8))) (.ix (.k 0) (.bin .mod (.v 1) (.i 8)))) (.i 0))]
def f8 : Fn := ⟨2, 2, b8⟩
/-- is_number; 0 value, 1 most -/
def b10 : List S :=
   [.ret (.and (.isi (.v 0) .int) (.and (.not (.isi (.v 0) .bool)) (.chain .le .le (.i 0) (.v 0) (.v 1))))]
def f10 : Fn := ⟨2, 2, b10⟩
/-- is_text; 0 value, 1 one -/
def b11 : List S :=
   [.ret (.and (.isi (.v 0) .str) (.and (.cmp .le (.blt .len [(.v 0)]) (.k 3)) (.blt .all [(.lc (.chain .le .le (.s [32]) (.v 1) (.s [126])) (.nm 1) [1] .seq [(.v 0)] [])])))]
def f11 : Fn := ⟨1, 2, b11⟩
/-- kind_of; 0 value -/
def b12 : List S :=
   [.ife (.call 10 [(.v 0), (.k 2)])
    [.ret (.s [110, 117, 109, 98, 101, 114])]
    [],
    .ife (.call 11 [(.v 0)])
    [.ret (.s [116, 101, 120, 116])]
    [],
    .ret .n]
def f12 : Fn := ⟨1, 1, b12⟩
/-- is_key; 0 value, 1 one -/
def b13 : List S :=
   [.ife (.or (.not (.isi (.v 0) .tup)) (.not (.chain .le .le (.i 1) (.blt .len [(.v 0)]) (.k 1))))
    [.ret (.b false)]
    [],
    .forr (.nm 1) .seq [(.v 0)]
    [.ife (.cmp .is (.call 12 [(.v 1)]) .n)
      [.ret (.b false)]
      []],
    .ret (.b true)]
def f13 : Fn := ⟨1, 2, b13⟩
/-- value_end; 0 octets, 1 at, 2 number, 3 end -/
def b14 : List S :=
   [.ife (.cmp .eq (.ix (.v 0) (.v 1)) (.i 1))
    [.ife (.cmp .gt (.bin .add (.v 1) (.i 4)) (.blt .len [(.v 0)]))
      [.ret .n]
      [],
    .asg (.nm 2) (.bin .add (.bin .add (.bin .mul (.ix (.v 0) (.bin .add (.v 1) (.i 1))) (.i 65536)) (.bin .mul (.ix (.v 0) (.bin .add (.v 1) (.i 2))) (.i 256))) (.ix (.v 0) (.bin .add (.v 1) (.i 3)))),
    .ret (.ite (.cmp .le (.v 2) (.i 999999)) (.bin .add (.v 1) (.i 4)) .n)]
    [],
    .ife (.cmp .ne (.ix (.v 0) (.v 1)) (.i 2))
    [.ret .n]
    [],
    .forr (.nm 3) .rng2 [(.bin .add (.v 1) (.i 1)), (.blt .min [(.blt .len [(.v 0)]), (.bin .add (.v 1) (.i 42))])]
    [.ife (.cmp .eq (.ix (.v 0) (.v 3)) (.i 0))
      [.ret (.bin .add (.v 3) (.i 1))]
      [],
    .ife (.not (.chain .le .le (.i 32) (.ix (.v 0) (.v 3)) (.i 126)))
      [.ret .n]
      []],
    .ret .n]
def f14 : Fn := ⟨2, 4, b14⟩
/-- are_key_octets; 0 octets, 1 at, 2 many, 3 end -/
def b15 : List S :=
   [.asg (.nm 1) (.i 0),
    .asg (.nm 2) (.i 0),
    .whl (.cmp .lt (.v 1) (.blt .len [(.v 0)]))
    [.ife (.cmp .eq (.ix (.v 0) (.v 1)) (.i 0))
      [.ret (.and (.chain .le .le (.i 1) (.v 2) (.k 1)) (.cmp .eq (.bin .add (.v 1) (.i 1)) (.blt .len [(.v 0)])))]
      [],
    .asg (.nm 2) (.bin .add (.v 2) (.i 1)),
    .asg (.nm 3) (.call 14 [(.v 0), (.v 1)]),
    .ife (.cmp .is (.v 3) .n)
      [.ret (.b false)]
      [],
    .asg (.nm 1) (.v 3)],
    .ret (.b false)]
def f15 : Fn := ⟨1, 4, b15⟩
/-- _law_octets; 0 _law_key_here, 1 _law_octets_here, 2 _law_value_here, 3 _law_unit, 4 _law_sign -/
def b16 : List S :=
   [.asg (.nm 1) (.lst []),
    .forr (.nm 2) .seq [(.v 0)]
    [.ife (.isi (.v 2) .str)
      [.asg (.nm 1) (.bin .add (.bin .add (.bin .add (.v 1) (.lst [(.i 2)])) (.lc (.blt .ord [(.v 4)]) (.nm 4) [4] .seq [(.v 2)] [])) (.lst [(.i 0)]))]
      [.asg (.nm 1) (.bin .add (.bin .add (.v 1) (.lst [(.i 1)])) (.lc (.bin .mod (.bin .fdiv (.blt .int [(.v 2)]) (.v 3)) (.i 256)) (.nm 3) [3] .seq [(.tup [(.i 65536), (.i 256), (.i 1)])] []))]],
    .ret (.blt .tuple [(.bin .add (.v 1) (.lst [(.i 0)]))])]
def f16 : Fn := ⟨1, 5, b16⟩
/-- _law_kinds; 0 _law_many, 1 _law_k, 2 _law_long, 3 _law_values, 4 _law_value_here, 5 _law_told -/
def b17 : List S :=
   [.asg (.nm 0) (.blt .tuple [(.lc (.v 1) (.nm 1) [1] .rng1 [(.i 13)] [])]),
    .asg (.nm 2) (.bin .mul (.s [97]) (.i 41)),
    .asg (.nm 3) (.lst [(.tup []), (.tup [(.b true)]), (.tup [(.i 1000000)]), (.tup [(.neg (.i 1))]), (.v 0), (.tup [(.v 2)]), (.tup [(.s [97]), (.v 2)]), (.i 7), (.s [97]), .n, (.tup [(.s [97]), .n]), (.tup [(.s [97]), (.tup [(.s [98])])]), (.lst [(.i 1)])]),
    .ife (.cmp .isin (.b true) (.lc (.cmp .isnot (.call 13 [(.v 4)]) (.b false)) (.nm 4) [4] .seq [(.v 3)] []))
    [.ret (.b false)]
    [],
    .ife (.or (.cmp .isnot (.call 13 [(.sl (.v 0) none (some (.i 12)))]) (.b true)) (.cmp .isnot (.call 13 [(.tup [(.sl (.v 2) none (some (.i 40))), (.i 999999), (.s [])])]) (.b true)))
    [.ret (.b false)]
    [],
    .asg (.nm 5) (.lc (.call 15 [(.call 16 [(.v 4)])]) (.nm 4) [4] .seq [(.lst [(.v 0), (.tup [(.v 2)]), (.tup [(.i 1000000)]), (.sl (.v 0) none (some (.i 12))), (.tup [(.sl (.v 2) none (some (.i 40))), (.i 999999), (.s [])])])] []),
    .ret (.and (.cmp .eq (.v 5) (.lst [(.b false), (.b false), (.b false), (.b true), (.b true)])) (.cmp .eq (.call 2 [(.lst [(.s [97]), (.i 5)])]) (.tup [(.i 2), (.i 97), (.i 0), (.i 1), (.i 0), (.i 0), (.i 5)])))]
def f17 : Fn := ⟨0, 6, b17⟩
/-- _law_less; 0 _law_one, 1 _law_other, 2 _law_k -/
def b18 : List S :=
   [.forr (.nm 2) .rng1 [(.blt .min [(.blt .len [(.v 0)]), (.blt .len [(.v 1)])])]
    [.ife (.cmp .ne (.ix (.v 0) (.v 2)) (.ix (.v 1) (.v 2)))
      [.ife (.cmp .ne (.isi (.ix (.v 0) (.v 2)) .str) (.isi (.ix (.v 1) (.v 2)) .str))
        [.ret (.isi (.ix (.v 1) (.v 2)) .str)]
        [],
      .ret (.cmp .lt (.ix (.v 0) (.v 2)) (.ix (.v 1) (.v 2)))]
      []],
    .ret (.cmp .lt (.blt .len [(.v 0)]) (.blt .len [(.v 1)]))]
def f18 : Fn := ⟨2, 3, b18⟩
/-- _law_value_end; 0 _law_octets_here, 1 _law_at, 2 _law_number, 3 _law_end -/
def b19 : List S :=
   [.ife (.and (.cmp .eq (.ix (.v 0) (.v 1)) (.i 1)) (.cmp .le (.bin .add (.v 1) (.i 4)) (.blt .len [(.v 0)])))
    [.asg (.nm 2) (.bin .add (.bin .add (.bin .mul (.ix (.v 0) (.bin .add (.v 1) (.i 1))) (.i 65536)) (.bin .mul (.ix (.v 0) (.bin .add (.v 1) (.i 2))) (.i 256))) (.ix (.v 0) (.bin .add (.v 1) (.i 3)))),
    .ret (.ite (.cmp .le (.v 2) (.i 999999)) (.bin .add (.v 1) (.i 4)) .n)]
    [],
    .ife (.cmp .ne (.ix (.v 0) (.v 1)) (.i 2))
    [.ret .n]
    [],
    .forr (.nm 3) .rng2 [(.bin .add (.v 1) (.i 1)), (.blt .len [(.v 0)])]
    [.ife (.cmp .eq (.ix (.v 0) (.v 3)) (.i 0))
      [.ret (.ite (.cmp .le (.bin .sub (.v 3) (.v 1)) (.i 41)) (.bin .add (.v 3) (.i 1)) .n)]
      [],
    .ife (.or (.cmp .lt (.ix (.v 0) (.v 3)) (.i 32)) (.cmp .gt (.ix (.v 0) (.v 3)) (.i 126)))
      [.ret .n]
      []],
    .ret .n]
def f19 : Fn := ⟨2, 4, b19⟩
/-- _law_reads; 0 _law_octets_here, 1 _law_at, 2 _law_many, 3 _law_turn -/
def b20 : List S :=
   [.asg (.nm 1) (.i 0),
    .asg (.nm 2) (.i 0),
    .forr (.nm 3) .rng1 [(.blt .len [(.v 0)])]
    [.ife (.and (.cmp .isnot (.v 1) .n) (.and (.cmp .lt (.v 1) (.blt .len [(.v 0)])) (.cmp .ne (.ix (.v 0) (.v 1)) (.i 0))))
      [.asg (.nm 1) (.call 19 [(.v 0), (.v 1)]),
      .asg (.nm 2) (.bin .add (.v 2) (.i 1))]
      []],
    .ife (.or (.cmp .is (.v 1) .n) (.or (.cmp .ne (.bin .add (.v 1) (.i 1)) (.blt .len [(.v 0)])) (.or (.cmp .eq (.v 2) (.i 0)) (.cmp .gt (.v 2) (.i 12)))))
    [.ret (.b false)]
    [],
    .ret (.cmp .eq (.ix (.v 0) (.v 1)) (.i 0))]
def f20 : Fn := ⟨1, 4, b20⟩
/-- _law_body; 0 _law_values, 1 _law_octets, 2 _law_value_here, 3 _law_unit, 4 _law_sign -/
def b22 : List S :=
   [.asg (.nm 1) (.lst []),
    .forr (.nm 2) .seq [(.v 0)]
    [.ife (.isi (.v 2) .str)
      [.asg (.nm 1) (.bin .add (.bin .add (.bin .add (.v 1) (.lst [(.i 2)])) (.lc (.blt .ord [(.v 4)]) (.nm 4) [4] .seq [(.v 2)] [])) (.lst [(.i 0)]))]
      [.asg (.nm 1) (.bin .add (.bin .add (.v 1) (.lst [(.i 1)])) (.lc (.bin .mod (.bin .fdiv (.blt .int [(.v 2)]) (.v 3)) (.i 256)) (.nm 3) [3] .seq [(.tup [(.i 65536), (.i 256), (.i 1)])] []))]],
    .ret (.blt .tuple [(.v 1)])]
def f22 : Fn := ⟨1, 5, b22⟩
/-- range_of_text; 0 values, 1 beginning, 2 start, 3 sign -/
def b23 : List S :=
   [.asg (.nm 2) (.bin .add (.bin .add (.call 2 [(.v 0)]) (.tup [(.i 2)])) (.blt .tuple [(.lc (.blt .ord [(.v 3)]) (.nm 3) [3] .seq [(.v 1)] [])])),
    .ret (.tup [(.v 2), (.bin .add (.v 2) (.tup [(.i 127)]))])]
def f23 : Fn := ⟨2, 4, b23⟩
/-- range_of; 0 values, 1 start -/
def b24 : List S :=
   [.asg (.nm 1) (.call 2 [(.v 0)]),
    .ret (.tup [(.v 1), (.bin .add (.v 1) (.tup [(.i 3)]))])]
def f24 : Fn := ⟨1, 2, b24⟩
/-- range_of_key; 0 key, 1 octets -/
def b25 : List S :=
   [.asg (.nm 1) (.call 3 [(.v 0)]),
    .ret (.tup [(.v 1), (.bin .add (.v 1) (.tup [(.i 0)]))])]
def f25 : Fn := ⟨1, 2, b25⟩
/-- _law_lies; 0 _law_key_here, 1 _law_bounds -/
def b26 : List S :=
   [.ret (.chain .le .lt (.ix (.v 1) (.i 0)) (.call 3 [(.v 0)]) (.ix (.v 1) (.i 1)))]
def f26 : Fn := ⟨2, 2, b26⟩
/-- _law_wish; 0 _law_draws_here, 1 _law_deep, 2 _law_words, 3 _law_way, 4 _law_parts, 5 _law_k, 6 _law_at -/
def b28 : List S :=
   [.asg (.nm 2) (.lst [(.s [111, 108, 100]), (.s [109, 105, 108, 108]), (.s [116, 101]), (.s [116, 101, 97]), (.s [120, 49]), (.s [109]), (.s [116]), (.s [110, 101, 119]), (.s [122, 122]), (.s [49])]),
    .asg (.nm 3) (.bin .mod (.blt .int [(.ix (.v 0) (.i 0))]) (.i 7)),
    .ife (.or (.cmp .eq (.v 1) (.i 0)) (.cmp .lt (.v 3) (.i 2)))
    [.ret (.tup [(.s [119, 111, 114, 100]), (.ix (.v 2) (.bin .mod (.blt .int [(.ix (.v 0) (.i 1))]) (.i 10)))])]
    [],
    .ife (.cmp .eq (.v 3) (.i 2))
    [.ret (.tup [(.s [98, 101, 103, 105, 110, 115]), (.ix (.v 2) (.bin .mod (.blt .int [(.ix (.v 0) (.i 1))]) (.i 10)))])]
    [],
    .ife (.cmp .eq (.v 3) (.i 3))
    [.ret (.tup [(.s [110, 111, 110, 101]), (.call 28 [(.bin .add (.sl (.v 0) (some (.i 2)) none) (.sl (.v 0) none (some (.i 2)))), (.bin .sub (.v 1) (.i 1))])])]
    [],
    .asg (.nm 4) (.lst []),
    .forr (.nm 5) .rng1 [(.bin .add (.bin .add (.i 2) (.bin .mod (.blt .int [(.ix (.v 0) (.i 1))]) (.i 2))) (.ite (.cmp .eq (.bin .mod (.blt .int [(.ix (.v 0) (.i 1))]) (.i 11)) (.i 10)) (.i 2) (.i 0)))]
    [.asg (.nm 6) (.bin .mod (.bin .add (.bin .mul (.i 5) (.v 5)) (.i 3)) (.blt .len [(.v 0)])),
    .app 4 (.call 28 [(.bin .add (.sl (.v 0) (some (.v 6)) none) (.sl (.v 0) none (some (.v 6)))), (.bin .sub (.v 1) (.i 1))])],
    .ret (.tup [(.ite (.cmp .lt (.v 3) (.i 6)) (.s [97, 108, 108]) (.s [97, 110, 121])), (.blt .tuple [(.v 4)])])]
def f28 : Fn := ⟨2, 7, b28⟩
/-- is_word; 0 value, 1 sign -/
def b29 : List S :=
   [.ife (.or (.not (.isi (.v 0) .str)) (.cmp .eq (.v 0) (.s [])))
    [.ret (.b false)]
    [],
    .forr (.nm 1) .seq [(.v 0)]
    [.ife (.cmp .nin (.v 1) (.k 5))
      [.ret (.b false)]
      []],
    .ret (.b true)]
def f29 : Fn := ⟨1, 2, b29⟩
/-- is_word_wish; 0 value -/
def b30 : List S :=
   [.ife (.or (.cmp .ne (.blt .len [(.v 0)]) (.i 2)) (.cmp .nin (.ix (.v 0) (.i 0)) (.tup [(.s [119, 111, 114, 100]), (.s [98, 101, 103, 105, 110, 115])])))
    [.ret (.b false)]
    [],
    .ret (.and (.call 29 [(.ix (.v 0) (.i 1))]) (.cmp .le (.blt .len [(.ix (.v 0) (.i 1))]) (.k 3)))]
def f30 : Fn := ⟨1, 1, b30⟩
/-- is_deep_wish; 0 value, 1 deep, 2 part -/
def b31 : List S :=
   [.ife (.or (.not (.isi (.v 0) .tup)) (.or (.cmp .ne (.blt .len [(.v 0)]) (.i 2)) (.cmp .eq (.v 1) (.i 0))))
    [.ret (.b false)]
    [],
    .ife (.cmp .eq (.ix (.v 0) (.i 0)) (.s [110, 111, 110, 101]))
    [.ret (.call 31 [(.ix (.v 0) (.i 1)), (.bin .sub (.v 1) (.i 1))])]
    [],
    .ife (.cmp .nin (.ix (.v 0) (.i 0)) (.tup [(.s [97, 108, 108]), (.s [97, 110, 121])]))
    [.ret (.call 30 [(.v 0)])]
    [],
    .ife (.or (.not (.isi (.ix (.v 0) (.i 1)) .tup)) (.not (.chain .le .le (.i 2) (.blt .len [(.ix (.v 0) (.i 1))]) (.k 4))))
    [.ret (.b false)]
    [],
    .forr (.nm 2) .seq [(.ix (.v 0) (.i 1))]
    [.ife (.not (.call 31 [(.v 2), (.bin .sub (.v 1) (.i 1))]))
      [.ret (.b false)]
      []],
    .ret (.b true)]
def f31 : Fn := ⟨2, 3, b31⟩
/-- is_wish; 0 value -/
def b32 : List S :=
   [.ret (.call 31 [(.v 0), (.k 4)])]
def f32 : Fn := ⟨1, 1, b32⟩
/-- _law_takes; 0 _law_value, 1 _law_deep, 2 _law_kind, 3 _law_inner, 4 _law_sign, 5 _law_part -/
def b33 : List S :=
   [.ife (.or (.not (.isi (.v 0) .tup)) (.or (.cmp .ne (.blt .len [(.v 0)]) (.i 2)) (.cmp .eq (.v 1) (.i 0))))
    [.ret (.b false)]
    [],
    .asg (.tp [2, 3]) (.v 0),
    .ife (.or (.cmp .eq (.v 2) (.s [119, 111, 114, 100])) (.cmp .eq (.v 2) (.s [98, 101, 103, 105, 110, 115])))
    [.ife (.or (.not (.isi (.v 3) .str)) (.not (.chain .le .le (.i 1) (.blt .len [(.v 3)]) (.i 40))))
      [.ret (.b false)]
      [],
    .ret (.cmp .eq (.lc (.v 4) (.nm 4) [4] .seq [(.v 3)] [(.cmp .nin (.v 4) (.s [97, 98, 99, 100, 101, 102, 103, 104, 105, 106, 107, 108, 109, 110, 111, 112, 113, 114, 115, 116, 117, 118, 119, 120, 121, 122, 48, 49, 50, 51, 52, 53, 54, 55, 56, 57]))]) (.lst []))]
    [],
    .ife (.cmp .eq (.v 2) (.s [110, 111, 110, 101]))
    [.ret (.call 33 [(.v 3), (.bin .sub (.v 1) (.i 1))])]
    [],
    .ife (.or (.cmp .nin (.v 2) (.tup [(.s [97, 108, 108]), (.s [97, 110, 121])])) (.or (.not (.isi (.v 3) .tup)) (.not (.chain .le .le (.i 2) (.blt .len [(.v 3)]) (.i 6)))))
    [.ret (.b false)]
    [],
    .ret (.cmp .eq (.lc (.v 5) (.nm 5) [5] .seq [(.v 3)] [(.not (.call 33 [(.v 5), (.bin .sub (.v 1) (.i 1))]))]) (.lst []))]
def f33 : Fn := ⟨2, 6, b33⟩
/-- wish_ranges; 0 wish, 1 table, 2 column, 3 kind, 4 inner, 5 ranges, 6 part -/
def b35 : List S :=
   [.asg (.tp [3, 4]) (.v 0),
    .ife (.cmp .eq (.v 3) (.s [119, 111, 114, 100]))
    [.ret (.lst [(.call 24 [(.tup [(.s [119]), (.v 1), (.v 2), (.v 4)])])])]
    [],
    .ife (.cmp .eq (.v 3) (.s [98, 101, 103, 105, 110, 115]))
    [.ret (.lst [(.call 23 [(.tup [(.s [119]), (.v 1), (.v 2)]), (.v 4)])])]
    [],
    .ife (.cmp .eq (.v 3) (.s [110, 111, 110, 101]))
    [.ret (.bin .add (.lst [(.call 24 [(.tup [(.s [116]), (.v 1)])])]) (.call 35 [(.v 4), (.v 1), (.v 2)]))]
    [],
    .asg (.nm 5) (.lst []),
    .forr (.nm 6) .seq [(.v 4)]
    [.asg (.nm 5) (.bin .add (.v 5) (.call 35 [(.v 6), (.v 1), (.v 2)]))],
    .ret (.v 5)]
def f35 : Fn := ⟨3, 7, b35⟩
/-- _law_ranges_of; 0 _law_wish_here, 1 _law_table, 2 _law_column, 3 _law_waiting, 4 _law_ranges, 5 _law_turn, 6 _law_kind, 7 _law_inner -/
def b36 : List S :=
   [.asg (.nm 3) (.lst [(.v 0)]),
    .asg (.nm 4) (.lst []),
    .forr (.nm 5) .rng1 [(.i 400)]
    [.ife (.v 3)
      [.pop (.tp [6, 7]) 3,
      .ife (.cmp .eq (.v 6) (.s [119, 111, 114, 100]))
        [.app 4 (.call 24 [(.tup [(.s [119]), (.v 1), (.v 2), (.v 7)])])]
        [.ife (.cmp .eq (.v 6) (.s [98, 101, 103, 105, 110, 115]))
          [.app 4 (.call 23 [(.tup [(.s [119]), (.v 1), (.v 2)]), (.v 7)])]
          [.ife (.cmp .eq (.v 6) (.s [110, 111, 110, 101]))
            [.app 4 (.call 24 [(.tup [(.s [116]), (.v 1)])]),
            .app 3 (.v 7)]
            [.asg (.nm 3) (.bin .add (.v 3) (.blt .list [(.rev (.v 7))]))]]]]
      []],
    .ret (.v 4)]
def f36 : Fn := ⟨3, 8, b36⟩
end Ev
end
section
set_option maxRecDepth 100000
/-! the clean functions -/
namespace Ev
/-- _law_hasher; 0 _law_cell_here, 1 _law_draws_here, 2 _law_modulus -/
def b38 : List S :=
   [.asg (.nm 1) (.call 0 [(.v 0), (.i 2)]),
    .asg (.nm 2) (.ix (.lst [(.i 2), (.i 3), (.i 5), (.i 7), (.i 13), (.i 101), (.i 997), (.i 1000003), (.i 2147483647)]) (.bin .mod (.blt .int [(.ix (.v 1) (.i 0))]) (.i 9))),
    .ret (.new 0 [(.v 2), (.bin .add (.i 1) (.bin .mul (.blt .int [(.ix (.v 1) (.i 1))]) (.ix (.lst [(.i 1), (.i 1000), (.i 2000000)]) (.bin .mod (.bin .fdiv (.blt .int [(.ix (.v 1) (.i 0))]) (.i 9)) (.i 3)))))])]
def f38 : Fn := ⟨1, 3, b38⟩
/-- _law_cell; 0 _law_script, 1 _law_k -/
def b39 : List S :=
   [.ife (.cmp .lt (.v 1) (.blt .len [(.v 0)]))
    [.ret (.blt .int [(.ix (.v 0) (.v 1))])]
    [],
    .ret (.i 0)]
def f39 : Fn := ⟨2, 2, b39⟩
/-- _law_spans; 0 _law_first_here, 1 _law_second, 2 _law_start, 3 _law_stop -/
def b40 : List S :=
   [.asg (.nm 2) (.bin .mod (.blt .int [(.v 0)]) (.i 9)),
    .asg (.nm 3) (.bin .add (.bin .add (.v 2) (.i 1)) (.bin .mod (.blt .int [(.v 1)]) (.i 4))),
    .ife (.cmp .eq (.bin .mod (.blt .int [(.v 1)]) (.i 3)) (.i 0))
    [.ret (.tup [(.tup [(.v 2), (.v 3)]), (.tup [(.bin .add (.bin .add (.v 3) (.i 1)) (.bin .mod (.bin .fdiv (.blt .int [(.v 0)]) (.i 9)) (.i 3))), (.bin .add (.bin .add (.v 3) (.i 5)) (.bin .mod (.bin .fdiv (.blt .int [(.v 1)]) (.i 12)) (.i 3)))])])]
    [],
    .ife (.cmp .eq (.bin .mod (.blt .int [(.v 1)]) (.i 50)) (.i 49))
    [.ret (.tup [(.tup [(.i 0), (.i 10000)])])]
    [],
    .ret (.tup [(.tup [(.v 2), (.v 3)])])]
def f40 : Fn := ⟨2, 4, b40⟩
def l41_0 : List S :=
   [.asg (.nm 4) (.call 0 [(.v 3), (.i 6)]),
    .asg (.nm 5) (.ite (.cmp .eq (.bin .mod (.ix (.v 4) (.i 4)) (.i 5)) (.i 0)) (.tup []) (.call 40 [(.ix (.v 4) (.i 4)), (.ix (.v 4) (.i 5))])),
    .app 2 (.tup [(.call 5 [(.v 4)]), (.v 5)])]
/-- _law_rows; 0 _law_script, 1 _law_start, 2 _law_rows_here, 3 _law_cell_here, 4 _law_draws_here, 5 _law_spans_here -/
def b41 : List S :=
   [.asg (.nm 2) (.lst []),
    .forr (.nm 3) .seq [(.sl (.v 0) (some (.v 1)) (some (.bin .add (.v 1) (.i 24))))]
    l41_0,
    .ret (.v 2)]
def f41 : Fn := ⟨2, 6, b41⟩
def l42_0 : List S :=
   [.asg (.nm 2) (.bin .mod (.bin .add (.bin .add (.bin .mul (.v 2) (.fld (.v 0) 0 1)) (.v 3)) (.i 1)) (.fld (.v 0) 0 0))]
/-- Hasher.digest; 0 self, 1 numbers, 2 value, 3 number -/
def b42 : List S :=
   [.asg (.nm 2) (.i 0),
    .forr (.nm 3) .seq [(.v 1)]
    l42_0,
    .ret (.v 2)]
def f42 : Fn := ⟨2, 4, b42⟩
def l43_0 : List S :=
   [.asg (.nm 2) (.bin .add (.v 2) (.lst [(.v 3), (.v 4)]))]
/-- leaf_input; 0 octets, 1 spans, 2 numbers, 3 first, 4 last -/
def b43 : List S :=
   [.asg (.nm 2) (.bin .add (.bin .add (.lst [(.i 0), (.blt .len [(.v 0)])]) (.blt .list [(.v 0)])) (.lst [(.blt .len [(.v 1)])])),
    .forr (.tp [3, 4]) .seq [(.v 1)]
    l43_0,
    .ret (.v 2)]
def f43 : Fn := ⟨2, 5, b43⟩
/-- make_leaf; 0 hasher, 1 key, 2 spans, 3 octets -/
def b44 : List S :=
   [.asg (.nm 3) (.call 3 [(.v 1)]),
    .ret (.tup [(.s [108, 101, 97, 102]), (.i 1), (.v 3), (.v 3), (.meth 0 42 (.v 0) [(.call 43 [(.v 3), (.v 2)])]), (.v 1), (.v 2)])]
def f44 : Fn := ⟨3, 4, b44⟩
def l45_0 : List S :=
   [.asg (.nm 3) (.call 7 [(.ix (.v 0) (.i 2)), (.v 1)]),
    .asg (.nm 4) (.call 7 [(.ix (.v 0) (.i 2)), (.ix (.v 0) (.i 3))]),
    .ife (.and (.cmp .isnot (.v 3) .n) (.cmp .lt (.v 3) (.v 4)))
      [.ret (.tup [(.v 2), (.v 0)])]
      [],
    .ife (.cmp .eq (.ix (.v 0) (.i 0)) (.s [112, 114, 117, 110, 101, 100]))
      [.nev]
      [],
    .asg (.nm 5) (.call 8 [(.v 1), (.v 4)]),
    .app 2 (.tup [(.v 0), (.v 5)]),
    .asg (.nm 0) (.ite (.v 5) (.ix (.v 0) (.i 6)) (.ix (.v 0) (.i 5)))]
/-- way_to; 0 tree, 1 octets, 2 way, 3 own, 4 split, 5 right -/
def b45 : List S :=
   [.asg (.nm 2) (.lst []),
    .whl (.cmp .gt (.ix (.v 0) (.i 1)) (.i 1))
    l45_0,
    .ret (.tup [(.v 2), (.v 0)])]
def f45 : Fn := ⟨2, 6, b45⟩
/-- side_input; 0 tree, 1 kind, 2 count, 3 low, 4 high, 5 digest -/
def b46 : List S :=
   [.asg (.tp [1, 2, 3, 4, 5]) (.sl (.v 0) none (some (.i 5))),
    .ret (.bin .add (.bin .add (.bin .add (.bin .add (.lst [(.v 2), (.blt .len [(.v 3)])]) (.blt .list [(.v 3)])) (.lst [(.blt .len [(.v 4)])])) (.blt .list [(.v 4)])) (.lst [(.v 5)]))]
def f46 : Fn := ⟨1, 6, b46⟩
/-- make_node; 0 hasher, 1 left, 2 right, 3 digest -/
def b47 : List S :=
   [.asg (.nm 3) (.meth 0 42 (.v 0) [(.bin .add (.bin .add (.lst [(.i 1)]) (.call 46 [(.v 1)])) (.call 46 [(.v 2)]))]),
    .ret (.tup [(.s [110, 111, 100, 101]), (.bin .add (.ix (.v 1) (.i 1)) (.ix (.v 2) (.i 1))), (.ix (.v 1) (.i 2)), (.ix (.v 2) (.i 3)), (.v 3), (.v 1), (.v 2)])]
def f47 : Fn := ⟨3, 4, b47⟩
/-- join; 0 hasher, 1 tree, 2 leaf -/
def b48 : List S :=
   [.ife (.cmp .lt (.ix (.v 2) (.i 2)) (.ix (.v 1) (.i 2)))
    [.ret (.call 47 [(.v 0), (.v 2), (.v 1)])]
    [],
    .ret (.call 47 [(.v 0), (.v 1), (.v 2)])]
def f48 : Fn := ⟨3, 3, b48⟩
def l49_0 : List S :=
   [.asg (.nm 10) (.ite (.v 9) (.ix (.v 8) (.i 5)) (.ix (.v 8) (.i 6))),
    .ife (.cmp .is (.v 7) .n)
      [.asg (.nm 7) (.v 10)]
      [.ife (.v 9)
        [.asg (.nm 7) (.call 47 [(.v 0), (.v 10), (.v 7)])]
        [.asg (.nm 7) (.call 47 [(.v 0), (.v 7), (.v 10)])]]]
/-- put; 0 hasher, 1 tree, 2 key, 3 spans, 4 octets, 5 way, 6 place, 7 new, 8 node, 9 right, 10 sibling -/
def b49 : List S :=
   [.ife (.cmp .is (.v 1) .n)
    [.ret (.ite (.v 3) (.call 44 [(.v 0), (.v 2), (.v 3)]) .n)]
    [],
    .asg (.nm 4) (.call 3 [(.v 2)]),
    .asg (.tp [5, 6]) (.call 45 [(.v 1), (.v 4)]),
    .asg (.nm 7) .n,
    .ife (.or (.cmp .ne (.ix (.v 6) (.i 2)) (.v 4)) (.cmp .ne (.ix (.v 6) (.i 3)) (.v 4)))
    [.ife (.not (.v 3))
      [.ret (.v 1)]
      [],
    .asg (.nm 7) (.call 48 [(.v 0), (.v 6), (.call 44 [(.v 0), (.v 2), (.v 3)])])]
    [.ife (.v 3)
      [.asg (.nm 7) (.call 44 [(.v 0), (.v 2), (.v 3)])]
      []],
    .forr (.tp [8, 9]) .revd [(.v 5)]
    l49_0,
    .ret (.v 7)]
def f49 : Fn := ⟨4, 11, b49⟩
def l50_0 : List S :=
   [.pop (.nm 3) 2,
    .ife (.cmp .eq (.ix (.v 3) (.i 0)) (.s [110, 111, 100, 101]))
      [.app 1 (.tup [(.s [110, 111, 100, 101])]),
      .app 2 (.ix (.v 3) (.i 6)),
      .app 2 (.ix (.v 3) (.i 5))]
      [.ife (.cmp .eq (.ix (.v 3) (.i 0)) (.s [108, 101, 97, 102]))
        [.app 1 (.tup [(.s [108, 101, 97, 102]), (.ix (.v 3) (.i 5)), (.ix (.v 3) (.i 6))])]
        [.app 1 (.v 3)]]]
/-- paper_of; 0 tree, 1 parts, 2 waiting, 3 part -/
def b50 : List S :=
   [.asg (.nm 1) (.lst []),
    .asg (.nm 2) (.ite (.cmp .is (.v 0) .n) (.lst []) (.lst [(.v 0)])),
    .whl (.v 2)
    l50_0,
    .ret (.v 1)]
def f50 : Fn := ⟨1, 4, b50⟩
def l51_0 : List S :=
   [.asg (.nm 2) (.bin .mod (.blt .int [(.bin .add (.bin .add (.bin .mul (.v 2) (.fld (.v 0) 0 1)) (.v 3)) (.i 1))]) (.fld (.v 0) 0 0))]
/-- _law_digest; 0 _law_hasher_here, 1 _law_numbers, 2 _law_value_here, 3 _law_number -/
def b51 : List S :=
   [.asg (.nm 2) (.i 0),
    .forr (.nm 3) .seq [(.v 1)]
    l51_0,
    .ret (.v 2)]
def f51 : Fn := ⟨2, 4, b51⟩
/-- _law_side; 0 _law_summary_here, 1 _law_count, 2 _law_low, 3 _law_high, 4 _law_digest_here -/
def b52 : List S :=
   [.asg (.tp [1, 2, 3, 4]) (.v 0),
    .ret (.bin .add (.bin .add (.bin .add (.bin .add (.lst [(.v 1), (.blt .len [(.v 2)])]) (.blt .list [(.v 2)])) (.lst [(.blt .len [(.v 3)])])) (.blt .list [(.v 3)])) (.lst [(.v 4)]))]
def f52 : Fn := ⟨1, 5, b52⟩
def l53_0 : List S :=
   [.asg (.nm 5) (.bin .add (.v 5) (.lst [(.v 9), (.v 10)]))]
def l53_1 : List S :=
   [.ife (.cmp .eq (.ix (.v 3) (.i 0)) (.s [112, 114, 117, 110, 101, 100]))
      [.app 2 (.sl (.v 3) (some (.i 1)) none)]
      [.ife (.cmp .eq (.ix (.v 3) (.i 0)) (.s [108, 101, 97, 102]))
        [.asg (.nm 4) (.call 16 [(.ix (.v 3) (.i 1))]),
        .asg (.nm 5) (.bin .add (.bin .add (.lst [(.i 0), (.blt .len [(.v 4)])]) (.blt .list [(.v 4)])) (.lst [(.blt .len [(.ix (.v 3) (.i 2))])])),
        .forr (.tp [9, 10]) .seq [(.ix (.v 3) (.i 2))]
          l53_0,
        .app 2 (.tup [(.i 1), (.v 4), (.v 4), (.call 51 [(.v 0), (.v 5)])])]
        [.pop (.nm 6) 2,
        .pop (.nm 7) 2,
        .asg (.nm 8) (.call 51 [(.v 0), (.bin .add (.bin .add (.lst [(.i 1)]) (.call 52 [(.v 6)])) (.call 52 [(.v 7)]))]),
        .app 2 (.tup [(.bin .add (.ix (.v 6) (.i 0)) (.ix (.v 7) (.i 0))), (.ix (.v 6) (.i 1)), (.ix (.v 7) (.i 2)), (.v 8)])]]]
/-- _law_summary; 0 _law_hasher_here, 1 _law_parts, 2 _law_done, 3 _law_part, 4 _law_octets_here, 5 _law_numbers, 6 _law_left, 7 _law_right, 8 _law_digest_here, 9 _law_start, 10 _law_stop -/
def b53 : List S :=
   [.asg (.nm 2) (.lst []),
    .forr (.nm 3) .revd [(.v 1)]
    l53_1,
    .ret (.ite (.v 2) (.ix (.v 2) (.i 0)) .n)]
def f53 : Fn := ⟨2, 11, b53⟩
/-- state_input; 0 tree -/
def b54 : List S :=
   [.ife (.cmp .is (.v 0) .n)
    [.ret (.lst [(.i 2)])]
    [],
    .ret (.bin .add (.lst [(.i 3)]) (.call 46 [(.v 0)]))]
def f54 : Fn := ⟨1, 1, b54⟩
/-- root; 0 hasher, 1 tree -/
def b55 : List S :=
   [.ret (.meth 0 42 (.v 0) [(.call 54 [(.v 1)])])]
def f55 : Fn := ⟨2, 2, b55⟩
/-- _law_root; 0 _law_hasher_here, 1 _law_parts, 2 _law_summary_here -/
def b56 : List S :=
   [.asg (.nm 2) (.call 53 [(.v 0), (.v 1)]),
    .ret (.call 51 [(.v 0), (.ite (.cmp .is (.v 2) .n) (.lst [(.i 2)]) (.bin .add (.lst [(.i 3)]) (.call 52 [(.v 2)])))])]
def f56 : Fn := ⟨2, 3, b56⟩
/-- input_of; 0 tree -/
def b57 : List S :=
   [.ife (.cmp .eq (.ix (.v 0) (.i 0)) (.s [108, 101, 97, 102]))
    [.ret (.call 43 [(.ix (.v 0) (.i 2)), (.ix (.v 0) (.i 6))])]
    [],
    .ret (.bin .add (.bin .add (.lst [(.i 1)]) (.call 46 [(.ix (.v 0) (.i 5))])) (.call 46 [(.ix (.v 0) (.i 6))]))]
def f57 : Fn := ⟨1, 1, b57⟩
def l59_0 : List S :=
   [.asg (.nm 2) (.call 49 [(.v 0), (.v 2), (.v 3), (.v 4)])]
/-- tree_of; 0 hasher, 1 rows, 2 tree, 3 key, 4 spans -/
def b59 : List S :=
   [.asg (.nm 2) .n,
    .forr (.tp [3, 4]) .seq [(.v 1)]
    l59_0,
    .ret (.v 2)]
def f59 : Fn := ⟨2, 5, b59⟩
/-- meets; 0 tree, 1 first, 2 last -/
def b60 : List S :=
   [.ret (.and (.cmp .lt (.ix (.v 0) (.i 2)) (.v 2)) (.cmp .ge (.ix (.v 0) (.i 3)) (.v 1)))]
def f60 : Fn := ⟨3, 3, b60⟩
def l61_0 : List S :=
   [.ife (.call 60 [(.v 0), (.v 2), (.v 3)])
      [.ret (.b true)]
      []]
/-- is_open; 0 tree, 1 ranges, 2 first, 3 last -/
def b61 : List S :=
   [.forr (.tp [2, 3]) .seq [(.v 1)]
    l61_0,
    .ret (.b false)]
def f61 : Fn := ⟨2, 4, b61⟩
/-- pruned; 0 tree -/
def b62 : List S :=
   [.ret (.bin .add (.tup [(.s [112, 114, 117, 110, 101, 100])]) (.sl (.v 0) (some (.i 1)) (some (.i 5))))]
def f62 : Fn := ⟨1, 1, b62⟩
def l63_0 : List S :=
   [.ife (.cmp .eq (.ix (.v 2) (.i 0)) (.s [110, 111, 100, 101]))
      [.pop (.nm 3) 1,
      .pop (.nm 4) 1,
      .app 1 (.bin .add (.sl (.v 2) none (some (.i 5))) (.tup [(.v 3), (.v 4)]))]
      [.app 1 (.v 2)]]
/-- rebuilt; 0 parts, 1 done, 2 part, 3 left, 4 right -/
def b63 : List S :=
   [.asg (.nm 1) (.lst []),
    .forr (.nm 2) .revd [(.v 0)]
    l63_0,
    .ret (.ix (.v 1) (.i 0))]
def f63 : Fn := ⟨1, 5, b63⟩
def l64_0 : List S :=
   [.pop (.nm 4) 3,
    .ife (.not (.call 61 [(.v 4), (.v 1)]))
      [.asg (.nm 4) (.call 62 [(.v 4)])]
      [],
    .app 2 (.v 4),
    .ife (.cmp .eq (.ix (.v 4) (.i 0)) (.s [110, 111, 100, 101]))
      [.app 3 (.ix (.v 4) (.i 6)),
      .app 3 (.ix (.v 4) (.i 5))]
      []]
/-- prune; 0 tree, 1 ranges, 2 parts, 3 waiting, 4 part -/
def b64 : List S :=
   [.ife (.cmp .is (.v 0) .n)
    [.ret .n]
    [],
    .asg (.nm 2) (.lst []),
    .asg (.nm 3) (.lst [(.v 0)]),
    .whl (.v 3)
    l64_0,
    .ret (.call 63 [(.v 2)])]
def f64 : Fn := ⟨2, 5, b64⟩
def l65_0 : List S :=
   [.asg (.nm 5) (.ix (.v 1) (.bin .mod (.ix (.v 2) (.bin .mul (.i 3) (.v 4))) (.blt .len [(.v 1)]))),
    .asg (.nm 6) (.ix (.v 1) (.bin .mod (.ix (.v 2) (.bin .add (.bin .mul (.i 3) (.v 4)) (.i 1))) (.blt .len [(.v 1)]))),
    .asg (.nm 7) (.bin .mod (.ix (.v 2) (.bin .add (.bin .mul (.i 3) (.v 4)) (.i 2))) (.i 4)),
    .ife (.cmp .eq (.v 7) (.i 0))
      [.app 3 (.call 24 [(.sl (.v 5) none (some (.i 1)))])]
      [.ife (.cmp .eq (.v 7) (.i 1))
        [.app 3 (.call 25 [(.v 5)])]
        [.ife (.and (.cmp .eq (.v 7) (.i 2)) (.isi (.ix (.v 5) (.i 0)) .str))
          [.app 3 (.call 23 [(.tup []), (.sl (.ix (.v 5) (.i 0)) none (some (.i 1)))])]
          [.app 3 (.tup [(.blt .min [(.call 3 [(.v 5)]), (.call 3 [(.v 6)])]), (.blt .max [(.call 3 [(.v 5)]), (.call 3 [(.v 6)])])])]]]]
/-- _law_ranges; 0 _law_cell_here, 1 _law_keys, 2 _law_draws_here, 3 _law_bounds, 4 _law_k, 5 _law_one, 6 _law_other, 7 _law_way -/
def b65 : List S :=
   [.asg (.nm 2) (.call 0 [(.v 0), (.i 10)]),
    .asg (.nm 3) (.lst []),
    .forr (.nm 4) .rng1 [(.bin .mod (.ix (.v 2) (.i 9)) (.i 4))]
    l65_0,
    .ret (.v 3)]
def f65 : Fn := ⟨2, 8, b65⟩
/-- _law_first; 0 _law_one, 1 _law_other -/
def b66 : List S :=
   [.ife (.or (.cmp .is (.v 0) .n) (.or (.cmp .is (.v 1) .n) (.or (.cmp .eq (.ix (.v 0) (.i 0)) (.s [112, 114, 117, 110, 101, 100])) (.cmp .eq (.ix (.v 1) (.i 0)) (.s [112, 114, 117, 110, 101, 100])))))
    [.ret .n]
    [],
    .ife (.cmp .ne (.call 57 [(.v 0)]) (.call 57 [(.v 1)]))
    [.ret (.tup [(.call 57 [(.v 0)]), (.call 57 [(.v 1)])])]
    [],
    .ife (.cmp .eq (.ix (.v 0) (.i 0)) (.s [108, 101, 97, 102]))
    [.ret .n]
    [],
    .ret (.or (.call 66 [(.ix (.v 0) (.i 5)), (.ix (.v 1) (.i 5))]) (.call 66 [(.ix (.v 0) (.i 6)), (.ix (.v 1) (.i 6))]))]
def f66 : Fn := ⟨2, 2, b66⟩
def l67_0 : List S :=
   [.pop (.tp [4, 5]) 3,
    .ife (.and (.cmp .ne (.ix (.v 4) (.i 0)) (.s [112, 114, 117, 110, 101, 100])) (.cmp .ne (.ix (.v 5) (.i 0)) (.s [112, 114, 117, 110, 101, 100])))
      [.ife (.cmp .ne (.call 57 [(.v 4)]) (.call 57 [(.v 5)]))
        [.ret (.tup [(.call 57 [(.v 4)]), (.call 57 [(.v 5)])])]
        [],
      .ife (.cmp .eq (.ix (.v 4) (.i 0)) (.s [110, 111, 100, 101]))
        [.app 3 (.tup [(.ix (.v 4) (.i 6)), (.ix (.v 5) (.i 6))]),
        .app 3 (.tup [(.ix (.v 4) (.i 5)), (.ix (.v 5) (.i 5))])]
        []]
      []]
/-- find_clash; 0 hasher, 1 tree, 2 paper, 3 waiting, 4 one, 5 other -/
def b67 : List S :=
   [.ife (.cmp .ne (.call 55 [(.v 0), (.v 1)]) (.call 55 [(.v 0), (.v 2)]))
    [.ret .n]
    [],
    .ife (.cmp .ne (.call 54 [(.v 1)]) (.call 54 [(.v 2)]))
    [.ret (.tup [(.call 54 [(.v 1)]), (.call 54 [(.v 2)])])]
    [],
    .asg (.nm 3) (.ite (.cmp .is (.v 1) .n) (.lst []) (.lst [(.tup [(.v 1), (.v 2)])])),
    .whl (.v 3)
    l67_0,
    .ret .n]
def f67 : Fn := ⟨3, 6, b67⟩
end Ev
end
section
set_option maxRecDepth 100000
/-! the clean functions -/
namespace Ev
def l69_0 : List S :=
   [.asg (.nm 5) (.call 0 [(.v 4), (.i 2)]),
    .app 3 (.bin .mod (.bin .add (.bin .mul (.ix (.v 5) (.i 0)) (.i 1000)) (.ix (.v 5) (.i 1))) (.v 2))]
/-- _law_digests; 0 _law_script, 1 _law_start, 2 _law_modulus, 3 _law_digests_here, 4 _law_cell_here, 5 _law_draws_here -/
def b69 : List S :=
   [.asg (.nm 3) (.lst []),
    .forr (.nm 4) .seq [(.sl (.v 0) (some (.v 1)) (some (.bin .add (.v 1) (.i 40))))]
    l69_0,
    .ret (.ite (.v 3) (.v 3) (.lst [(.i 0)]))]
def f69 : Fn := ⟨3, 6, b69⟩
def l70_0 : List S :=
   [.asg (.nm 1) (.bin .mul (.i 2) (.v 1))]
/-- left_size; 0 size, 1 power -/
def b70 : List S :=
   [.asg (.nm 1) (.i 1),
    .whl (.cmp .lt (.bin .mul (.i 2) (.v 1)) (.v 0))
    l70_0,
    .ret (.v 1)]
def f70 : Fn := ⟨1, 2, b70⟩
/-- leaf_digest; 0 hasher, 1 digest -/
def b71 : List S :=
   [.ret (.meth 0 42 (.v 0) [(.lst [(.i 4), (.v 1)])])]
def f71 : Fn := ⟨2, 2, b71⟩
/-- node_digest; 0 hasher, 1 left, 2 right -/
def b72 : List S :=
   [.ret (.meth 0 42 (.v 0) [(.lst [(.i 5), (.v 1), (.v 2)])])]
def f72 : Fn := ⟨3, 3, b72⟩
/-- part_digest; 0 hasher, 1 digests, 2 size -/
def b73 : List S :=
   [.ife (.cmp .eq (.blt .len [(.v 1)]) (.i 1))
    [.ret (.call 71 [(.v 0), (.ix (.v 1) (.i 0))])]
    [],
    .asg (.nm 2) (.call 70 [(.blt .len [(.v 1)])]),
    .ret (.call 72 [(.v 0), (.call 73 [(.v 0), (.sl (.v 1) none (some (.v 2)))]), (.call 73 [(.v 0), (.sl (.v 1) (some (.v 2)) none)])])]
def f73 : Fn := ⟨2, 3, b73⟩
/-- inclusion; 0 hasher, 1 digests, 2 place, 3 size -/
def b74 : List S :=
   [.ife (.cmp .eq (.blt .len [(.v 1)]) (.i 1))
    [.ret (.lst [])]
    [],
    .asg (.nm 3) (.call 70 [(.blt .len [(.v 1)])]),
    .ife (.cmp .lt (.v 2) (.v 3))
    [.ret (.bin .add (.call 74 [(.v 0), (.sl (.v 1) none (some (.v 3))), (.v 2)]) (.lst [(.call 73 [(.v 0), (.sl (.v 1) (some (.v 3)) none)])]))]
    [],
    .ret (.bin .add (.call 74 [(.v 0), (.sl (.v 1) (some (.v 3)) none), (.bin .sub (.v 2) (.v 3))]) (.lst [(.call 73 [(.v 0), (.sl (.v 1) none (some (.v 3)))])]))]
def f74 : Fn := ⟨3, 4, b74⟩
def l75_0 : List S :=
   [.asg (.nm 3) (.call 70 [(.v 0)]),
    .app 2 (.cmp .ge (.v 1) (.v 3)),
    .ife (.cmp .ge (.v 1) (.v 3))
      [.asg (.nm 1) (.bin .sub (.v 1) (.v 3)),
      .asg (.nm 0) (.bin .sub (.v 0) (.v 3))]
      [.asg (.nm 0) (.v 3)]]
/-- turns_to; 0 size, 1 place, 2 turns, 3 left -/
def b75 : List S :=
   [.asg (.nm 2) (.lst []),
    .whl (.cmp .gt (.v 0) (.i 1))
    l75_0,
    .ret (.v 2)]
def f75 : Fn := ⟨2, 4, b75⟩
def l76_0 : List S :=
   [.asg (.nm 8) (.meth 0 42 (.v 0) [(.ix (.v 5) (.neg (.i 1)))]),
    .app 5 (.ite (.v 6) (.lst [(.i 5), (.v 7), (.v 8)]) (.lst [(.i 5), (.v 8), (.v 7)]))]
/-- inclusion_inputs; 0 hasher, 1 size, 2 place, 3 digest, 4 paper, 5 inputs, 6 right, 7 beside, 8 found -/
def b76 : List S :=
   [.asg (.nm 5) (.lst [(.lst [(.i 4), (.v 3)])]),
    .forr (.tp [6, 7]) (.zipr false) [(.isl (.call 75 [(.v 1), (.v 2)])), (.v 4)]
    l76_0,
    .app 5 (.lst [(.i 6), (.v 1), (.meth 0 42 (.v 0) [(.ix (.v 5) (.neg (.i 1)))])]),
    .ret (.v 5)]
def f76 : Fn := ⟨5, 9, b76⟩
def l77_0 : List S :=
   [.ife (.cmp .ne (.meth 0 42 (.v 0) [(.v 7)]) (.meth 0 42 (.v 0) [(.v 8)]))
      [.ret .n]
      [],
    .ife (.cmp .ne (.v 7) (.v 8))
      [.ret (.tup [(.v 7), (.v 8)])]
      []]
/-- find_row_clash; 0 hasher, 1 digests, 2 place, 3 digest, 4 paper, 5 told, 6 true, 7 one, 8 other -/
def b77 : List S :=
   [.asg (.nm 5) (.call 76 [(.v 0), (.blt .len [(.v 1)]), (.v 2), (.v 3), (.v 4)]),
    .asg (.nm 6) (.call 76 [(.v 0), (.blt .len [(.v 1)]), (.v 2), (.ix (.v 1) (.v 2)), (.call 74 [(.v 0), (.v 1), (.v 2)])]),
    .forr (.tp [7, 8]) (.zipr true) [(.isl (.v 6)), (.v 5)]
    l77_0,
    .ret .n]
def f77 : Fn := ⟨5, 9, b77⟩
def l78_0 : List S :=
   [.ife (.v 7)
      [.asg (.nm 6) (.call 72 [(.v 0), (.v 8), (.v 6)])]
      [.asg (.nm 6) (.call 72 [(.v 0), (.v 6), (.v 8)])]]
/-- included_digest; 0 hasher, 1 size, 2 place, 3 digest, 4 paper, 5 turns, 6 found, 7 right, 8 beside -/
def b78 : List S :=
   [.asg (.nm 5) (.call 75 [(.v 1), (.v 2)]),
    .ife (.cmp .ne (.blt .len [(.v 4)]) (.blt .len [(.v 5)]))
    [.ret .n]
    [],
    .asg (.nm 6) (.call 71 [(.v 0), (.v 3)]),
    .forr (.tp [7, 8]) (.zipr false) [(.isl (.v 5)), (.v 4)]
    l78_0,
    .ret (.meth 0 42 (.v 0) [(.lst [(.i 6), (.v 1), (.v 6)])])]
def f78 : Fn := ⟨5, 9, b78⟩
/-- row_digest; 0 hasher, 1 digests -/
def b79 : List S :=
   [.ret (.meth 0 42 (.v 0) [(.lst [(.i 6), (.blt .len [(.v 1)]), (.call 73 [(.v 0), (.v 1)])])])]
def f79 : Fn := ⟨2, 2, b79⟩
def l80_0 : List S :=
   [.ife (.cmp .lt (.bin .mul (.i 2) (.v 9)) (.v 6))
          [.asg (.nm 9) (.bin .mul (.i 2) (.v 9))]
          []]
def l80_1 : List S :=
   [.ife (.cmp .gt (.v 6) (.i 1))
      [.asg (.nm 9) (.i 1),
      .forr (.nm 10) .rng1 [(.i 12)]
        l80_0,
      .app 5 (.cmp .ge (.v 7) (.v 9)),
      .ife (.cmp .ge (.v 7) (.v 9))
        [.asg (.nm 7) (.bin .sub (.v 7) (.v 9)),
        .asg (.nm 6) (.bin .sub (.v 6) (.v 9))]
        [.asg (.nm 6) (.v 9)]]
      []]
def l80_2 : List S :=
   [.asg (.nm 14) (.meth 0 42 (.v 0) [(.ix (.v 11) (.neg (.i 1)))]),
    .app 11 (.ite (.v 13) (.lst [(.i 5), (.ix (.v 4) (.v 12)), (.v 14)]) (.lst [(.i 5), (.v 14), (.ix (.v 4) (.v 12))]))]
/-- _law_way; 0 _law_hasher, 1 _law_many, 2 _law_place, 3 _law_digest, 4 _law_paper, 5 _law_turns, 6 _law_size, 7 _law_at, 8 _law_turn, 9 _law_half, 10 _law_step, 11 _law_inputs, 12 _law_k, 13 _law_right, 14 _law_own -/
def b80 : List S :=
   [.asg (.nm 5) (.lst []),
    .asg (.nm 6) (.v 1),
    .asg (.nm 7) (.v 2),
    .forr (.nm 8) .rng1 [(.i 12)]
    l80_1,
    .asg (.nm 11) (.lst [(.lst [(.i 4), (.v 3)])]),
    .forr (.tp [12, 13]) .enum [(.rev (.v 5))]
    l80_2,
    .ret (.bin .add (.v 11) (.lst [(.lst [(.i 6), (.v 1), (.meth 0 42 (.v 0) [(.ix (.v 11) (.neg (.i 1)))])])]))]
def f80 : Fn := ⟨5, 15, b80⟩
def l81_0 : List S :=
   [.asg (.nm 4) (.bin .mod (.blt .int [(.bin .add (.bin .add (.bin .mul (.v 4) (.fld (.v 0) 0 1)) (.v 5)) (.i 1))]) (.fld (.v 0) 0 0))]
def l81_1 : List S :=
   [.asg (.nm 4) (.i 0),
    .forr (.nm 5) .seq [(.v 3)]
      l81_0,
    .app 2 (.v 4)]
/-- _law_is_clash; 0 _law_hasher, 1 _law_pair, 2 _law_values, 3 _law_numbers, 4 _law_value, 5 _law_number -/
def b81 : List S :=
   [.ife (.or (.not (.isi (.v 1) .tup)) (.or (.cmp .ne (.blt .len [(.v 1)]) (.i 2)) (.cmp .eq (.ix (.v 1) (.i 0)) (.ix (.v 1) (.i 1)))))
    [.ret (.b false)]
    [],
    .asg (.nm 2) (.lst []),
    .forr (.nm 3) .seq [(.v 1)]
    l81_1,
    .ret (.cmp .eq (.ix (.v 2) (.i 0)) (.ix (.v 2) (.i 1)))]
def f81 : Fn := ⟨2, 6, b81⟩
/-- extension; 0 hasher, 1 digests, 2 size, 3 left -/
def b83 : List S :=
   [.ife (.cmp .eq (.v 2) (.blt .len [(.v 1)]))
    [.ret (.lst [(.call 73 [(.v 0), (.v 1)])])]
    [],
    .asg (.nm 3) (.call 70 [(.blt .len [(.v 1)])]),
    .ife (.cmp .le (.v 2) (.v 3))
    [.ret (.bin .add (.call 83 [(.v 0), (.sl (.v 1) none (some (.v 3))), (.v 2)]) (.lst [(.call 73 [(.v 0), (.sl (.v 1) (some (.v 3)) none)])]))]
    [],
    .ret (.bin .add (.call 83 [(.v 0), (.sl (.v 1) (some (.v 3)) none), (.bin .sub (.v 2) (.v 3))]) (.lst [(.call 73 [(.v 0), (.sl (.v 1) none (some (.v 3)))])]))]
def f83 : Fn := ⟨3, 4, b83⟩
def l84_0 : List S :=
   [.asg (.nm 3) (.call 70 [(.v 1)]),
    .app 2 (.cmp .gt (.v 0) (.v 3)),
    .ife (.cmp .gt (.v 0) (.v 3))
      [.asg (.nm 0) (.bin .sub (.v 0) (.v 3)),
      .asg (.nm 1) (.bin .sub (.v 1) (.v 3))]
      [.asg (.nm 1) (.v 3)]]
/-- extension_turns; 0 old, 1 size, 2 turns, 3 left -/
def b84 : List S :=
   [.asg (.nm 2) (.lst []),
    .whl (.cmp .lt (.v 0) (.v 1))
    l84_0,
    .ret (.v 2)]
def f84 : Fn := ⟨2, 4, b84⟩
def l85_0 : List S :=
   [.ife (.v 7)
      [.asg (.nm 5) (.call 72 [(.v 0), (.v 8), (.v 5)]),
      .asg (.nm 6) (.call 72 [(.v 0), (.v 8), (.v 6)])]
      [.asg (.nm 6) (.call 72 [(.v 0), (.v 6), (.v 8)])]]
/-- extended_digests; 0 hasher, 1 old, 2 size, 3 paper, 4 turns, 5 before, 6 after, 7 right, 8 beside -/
def b85 : List S :=
   [.asg (.nm 4) (.call 84 [(.v 1), (.v 2)]),
    .ife (.cmp .ne (.blt .len [(.v 3)]) (.bin .add (.blt .len [(.v 4)]) (.i 1)))
    [.ret .n]
    [],
    .asg (.nm 5) (.ix (.v 3) (.i 0)),
    .asg (.nm 6) (.ix (.v 3) (.i 0)),
    .forr (.tp [7, 8]) (.zipr false) [(.isl (.v 4)), (.sl (.v 3) (some (.i 1)) none)]
    l85_0,
    .ret (.tup [(.meth 0 42 (.v 0) [(.lst [(.i 6), (.v 1), (.v 5)])]), (.meth 0 42 (.v 0) [(.lst [(.i 6), (.v 2), (.v 6)])])])]
def f85 : Fn := ⟨4, 9, b85⟩
def l86_0 : List S :=
   [.app 5 (.ite (.v 8) (.lst [(.i 5), (.v 9), (.v 7)]) (.lst [(.i 5), (.v 7), (.v 9)])),
    .asg (.nm 7) (.meth 0 42 (.v 0) [(.ix (.v 5) (.neg (.i 1)))]),
    .ife (.v 8)
      [.app 4 (.lst [(.i 5), (.v 9), (.v 6)]),
      .asg (.nm 6) (.meth 0 42 (.v 0) [(.ix (.v 4) (.neg (.i 1)))])]
      []]
/-- paper_inputs; 0 hasher, 1 old, 2 size, 3 paper, 4 before, 5 after, 6 low, 7 high, 8 right, 9 beside -/
def b86 : List S :=
   [.asg (.nm 4) (.lst []),
    .asg (.nm 5) (.lst []),
    .asg (.nm 6) (.ix (.v 3) (.i 0)),
    .asg (.nm 7) (.ix (.v 3) (.i 0)),
    .forr (.tp [8, 9]) (.zipr false) [(.isl (.call 84 [(.v 1), (.v 2)])), (.sl (.v 3) (some (.i 1)) none)]
    l86_0,
    .app 4 (.lst [(.i 6), (.v 1), (.v 6)]),
    .app 5 (.lst [(.i 6), (.v 2), (.v 7)]),
    .ret (.tup [(.rev (.v 4)), (.rev (.v 5))])]
def f86 : Fn := ⟨4, 10, b86⟩
def l87_0 : List S :=
   [.ife (.cmp .ne (.v 3) (.v 4))
      [.ret (.tup [(.v 3), (.v 4)])]
      []]
/-- unlike_inputs; 0 hasher, 1 true, 2 told, 3 one, 4 other -/
def b87 : List S :=
   [.forr (.tp [3, 4]) .zip [(.v 1), (.v 2)]
    l87_0,
    .ret .n]
def f87 : Fn := ⟨3, 5, b87⟩
/-- part_input; 0 hasher, 1 digests, 2 size -/
def b88 : List S :=
   [.ife (.cmp .eq (.blt .len [(.v 1)]) (.i 1))
    [.ret (.lst [(.i 4), (.ix (.v 1) (.i 0))])]
    [],
    .asg (.nm 2) (.call 70 [(.blt .len [(.v 1)])]),
    .ret (.lst [(.i 5), (.call 73 [(.v 0), (.sl (.v 1) none (some (.v 2)))]), (.call 73 [(.v 0), (.sl (.v 1) (some (.v 2)) none)])])]
def f88 : Fn := ⟨2, 3, b88⟩
def l89_0 : List S :=
   [.app 3 (.call 88 [(.v 0), (.v 1)]),
    .asg (.nm 5) (.call 70 [(.blt .len [(.v 1)])]),
    .asg (.nm 1) (.ite (.v 4) (.sl (.v 1) (some (.v 5)) none) (.sl (.v 1) none (some (.v 5))))]
/-- way_inputs; 0 hasher, 1 digests, 2 turns, 3 inputs, 4 right, 5 size -/
def b89 : List S :=
   [.asg (.nm 3) (.lst [(.lst [(.i 6), (.blt .len [(.v 1)]), (.call 73 [(.v 0), (.v 1)])])]),
    .forr (.nm 4) .seq [(.v 2)]
    l89_0,
    .ret (.v 3)]
def f89 : Fn := ⟨3, 6, b89⟩
/-- find_part_clash; 0 hasher, 1 one, 2 other, 3 size, 4 first, 5 second, 6 found -/
def b90 : List S :=
   [.ife (.or (.cmp .eq (.v 1) (.v 2)) (.cmp .ne (.call 73 [(.v 0), (.v 1)]) (.call 73 [(.v 0), (.v 2)])))
    [.ret .n]
    [],
    .ife (.cmp .eq (.blt .len [(.v 1)]) (.i 1))
    [.ret (.tup [(.lst [(.i 4), (.ix (.v 1) (.i 0))]), (.lst [(.i 4), (.ix (.v 2) (.i 0))])])]
    [],
    .asg (.nm 3) (.call 70 [(.blt .len [(.v 1)])]),
    .asg (.nm 4) (.call 88 [(.v 0), (.v 1)]),
    .asg (.nm 5) (.call 88 [(.v 0), (.v 2)]),
    .ife (.cmp .ne (.v 4) (.v 5))
    [.ret (.tup [(.v 4), (.v 5)])]
    [],
    .asg (.nm 6) (.call 90 [(.v 0), (.sl (.v 1) none (some (.v 3))), (.sl (.v 2) none (some (.v 3)))]),
    .ife (.cmp .is (.v 6) .n)
    [.asg (.nm 6) (.call 90 [(.v 0), (.sl (.v 1) (some (.v 3)) none), (.sl (.v 2) (some (.v 3)) none)])]
    [],
    .ret (.v 6)]
def f90 : Fn := ⟨3, 7, b90⟩
def l91_0 : List S :=
   [.asg (.nm 11) (.call 70 [(.v 10)]),
    .ife (.and (.v 8) (.cmp .is (.v 7) .n))
      [.asg (.nm 7) (.call 90 [(.v 0), (.sl (.v 1) (some (.v 9)) (some (.bin .add (.v 9) (.v 11)))), (.sl (.v 2) (some (.v 9)) (some (.bin .add (.v 9) (.v 11))))])]
      [],
    .asg (.nm 9) (.ite (.v 8) (.bin .add (.v 9) (.v 11)) (.v 9)),
    .asg (.nm 10) (.ite (.v 8) (.bin .sub (.v 10) (.v 11)) (.v 11))]
/-- find_extension_clash; 0 hasher, 1 old, 2 new, 3 paper, 4 turns, 5 before, 6 after, 7 found, 8 right, 9 start, 10 size, 11 left -/
def b91 : List S :=
   [.ife (.cmp .ne (.call 85 [(.v 0), (.blt .len [(.v 1)]), (.blt .len [(.v 2)]), (.v 3)]) (.tup [(.call 79 [(.v 0), (.v 1)]), (.call 79 [(.v 0), (.v 2)])]))
    [.ret .n]
    [],
    .asg (.nm 4) (.call 84 [(.blt .len [(.v 1)]), (.blt .len [(.v 2)])]),
    .asg (.tp [5, 6]) (.call 86 [(.v 0), (.blt .len [(.v 1)]), (.blt .len [(.v 2)]), (.v 3)]),
    .asg (.nm 7) (.call 87 [(.v 0), (.call 89 [(.v 0), (.v 1), (.lc (.v 8) (.nm 8) [8] .seq [(.v 4)] [(.v 8)])]), (.v 5)]),
    .ife (.cmp .is (.v 7) .n)
    [.asg (.nm 7) (.call 87 [(.v 0), (.call 89 [(.v 0), (.v 2), (.v 4)]), (.v 6)])]
    [],
    .asg (.nm 9) (.i 0),
    .asg (.nm 10) (.blt .len [(.v 2)]),
    .forr (.nm 8) .seq [(.v 4)]
    l91_0,
    .ife (.cmp .is (.v 7) .n)
    [.asg (.nm 7) (.call 90 [(.v 0), (.sl (.v 1) (some (.v 9)) none), (.sl (.v 2) (some (.v 9)) (some (.bin .add (.v 9) (.v 10))))])]
    [],
    .ret (.v 7)]
def f91 : Fn := ⟨4, 12, b91⟩
def l92_0 : List S :=
   [.ife (.cmp .lt (.bin .mul (.i 2) (.v 1)) (.v 0))
      [.asg (.nm 1) (.bin .mul (.i 2) (.v 1))]
      []]
/-- _law_half; 0 _law_size, 1 _law_half_here, 2 _law_step -/
def b92 : List S :=
   [.asg (.nm 1) (.i 1),
    .forr (.nm 2) .rng1 [(.i 12)]
    l92_0,
    .ret (.v 1)]
def f92 : Fn := ⟨1, 3, b92⟩
/-- _law_inputs; 0 _law_hasher, 1 _law_digests_here, 2 _law_half_here, 3 _law_left, 4 _law_right, 5 _law_own -/
def b93 : List S :=
   [.ife (.cmp .eq (.blt .len [(.v 1)]) (.i 1))
    [.ret (.lst [(.lst [(.lst [(.i 4), (.ix (.v 1) (.i 0))])]), (.meth 0 42 (.v 0) [(.lst [(.i 4), (.ix (.v 1) (.i 0))])])])]
    [],
    .asg (.nm 2) (.call 92 [(.blt .len [(.v 1)])]),
    .asg (.nm 3) (.call 93 [(.v 0), (.sl (.v 1) none (some (.v 2)))]),
    .asg (.nm 4) (.call 93 [(.v 0), (.sl (.v 1) (some (.v 2)) none)]),
    .asg (.nm 5) (.lst [(.i 5), (.ix (.v 3) (.i 1)), (.ix (.v 4) (.i 1))]),
    .ret (.lst [(.bin .add (.bin .add (.ix (.v 3) (.i 0)) (.ix (.v 4) (.i 0))) (.lst [(.v 5)])), (.meth 0 42 (.v 0) [(.v 5)])])]
def f93 : Fn := ⟨2, 6, b93⟩
def l94_0 : List S :=
   [.ife (.cmp .lt (.v 5) (.v 6))
      [.asg (.nm 8) (.call 92 [(.v 6)]),
      .app 4 (.cmp .gt (.v 5) (.v 8)),
      .ife (.cmp .gt (.v 5) (.v 8))
        [.asg (.nm 5) (.bin .sub (.v 5) (.v 8)),
        .asg (.nm 6) (.bin .sub (.v 6) (.v 8))]
        [.asg (.nm 6) (.v 8)]]
      []]
def l94_1 : List S :=
   [.ife (.v 13)
      [.asg (.nm 11) (.bin .add (.v 11) (.lst [(.lst [(.i 5), (.ix (.v 3) (.bin .add (.i 1) (.v 12))), (.v 9)]), (.lst [(.i 5), (.ix (.v 3) (.bin .add (.i 1) (.v 12))), (.v 10)])])),
      .asg (.nm 9) (.meth 0 42 (.v 0) [(.lst [(.i 5), (.ix (.v 3) (.bin .add (.i 1) (.v 12))), (.v 9)])]),
      .asg (.nm 10) (.meth 0 42 (.v 0) [(.lst [(.i 5), (.ix (.v 3) (.bin .add (.i 1) (.v 12))), (.v 10)])])]
      [.app 11 (.lst [(.i 5), (.v 10), (.ix (.v 3) (.bin .add (.i 1) (.v 12)))]),
      .asg (.nm 10) (.meth 0 42 (.v 0) [(.lst [(.i 5), (.v 10), (.ix (.v 3) (.bin .add (.i 1) (.v 12)))])])]]
/-- _law_told; 0 _law_hasher, 1 _law_many, 2 _law_size, 3 _law_paper, 4 _law_turns, 5 _law_before, 6 _law_after, 7 _law_turn, 8 _law_half_here, 9 _law_old, 10 _law_new, 11 _law_inputs_here, 12 _law_k, 13 _law_right -/
def b94 : List S :=
   [.asg (.nm 4) (.lst []),
    .asg (.nm 5) (.v 1),
    .asg (.nm 6) (.v 2),
    .forr (.nm 7) .rng1 [(.i 12)]
    l94_0,
    .asg (.nm 9) (.ix (.v 3) (.i 0)),
    .asg (.nm 10) (.ix (.v 3) (.i 0)),
    .asg (.nm 11) (.lst []),
    .forr (.tp [12, 13]) .enum [(.rev (.v 4))]
    l94_1,
    .ret (.bin .add (.v 11) (.lst [(.lst [(.i 6), (.v 1), (.v 9)]), (.lst [(.i 6), (.v 2), (.v 10)])]))]
def f94 : Fn := ⟨4, 14, b94⟩
end Ev
end
section
set_option maxRecDepth 100000
set_option maxHeartbeats 1000000
/-! Oct: draws, keys and their octets. -/
namespace Ev
def tpI (xs : List Int) : D := .tup (xs.map .int)
def lsI (xs : List Int) : D := .lst (xs.map .int)
def octV : D → List Int
  | .str s => 2 :: (s.map (fun (c : Nat) => (c : Int)) ++ [0])
  | .int v => [1, v / 65536, v / 256 % 256, v % 256]
  | _ => []
def valOk : D → Bool
  | .str s => decide (s.length ≤ 1000) && s.all fun c => decide (1 ≤ c) && decide (c < 127)
  | .int v => decide (0 ≤ v) && decide (v < 16777216)
  | _ => false
def keyOct (ds : List D) : List Int := ds.flatMap octV ++ [0]
theorem line_big {n : Nat} (h : n ≤ 16000000) : n ≤ line := Nat.le_trans h (by unfold line; decide)
theorem flatA_ints : ∀ xs : List Int, flatA (xs.map .int) = true
  | [] => rfl
  | x :: xs => by simp only [List.map_cons, flatA, flat, flatA_ints xs, Bool.and_self]
theorem octV_len {d : D} (h : valOk d = true) : (octV d).length ≤ 1002 := by
  cases d <;> simp [valOk, octV] at *
  omega
@[simp] theorem shp_int {i : Int} : shp (.int i) = true := rfl
@[simp] theorem shp_non : shp .non = true := rfl
@[simp] theorem shp_bl {b : Bool} : shp (.bl b) = true := rfl
@[simp] theorem shp_str {z : List Nat} : shp (.str z) = true := rfl
@[simp] theorem deq_int {i j : Int} : deq (.int i) (.int j) = (i == j) := by simp [deq]
@[simp] theorem deq_in {i : Int} : deq (.int i) .non = false := by simp [deq]
@[simp] theorem deq_ni {i : Int} : deq .non (.int i) = false := by simp [deq]
@[simp] theorem deq_nn : deq .non .non = true := by simp [deq]
@[simp] theorem deq_bb {a b : Bool} : deq (.bl a) (.bl b) = (a == b) := by simp [deq]
theorem dep_ints : ∀ xs : List Int, depA (xs.map .int) = 0 := by
  intro xs
  induction xs with
  | nil => rfl
  | cons x xs ih => simp [depA, dep, ih]
theorem pln_ints : ∀ xs : List Int, plnA (xs.map .int) = true := by
  intro xs
  induction xs with
  | nil => rfl
  | cons x xs ih => simp [plnA, pln, ih]
theorem shp_tI (xs : List Int) : shp (tpI xs) = true := by simp [shp, tpI, pln, dep, pln_ints, dep_ints]
theorem deqs_ints : ∀ xs ys : List Int, deqs (xs.map .int) (ys.map .int) = (xs == ys)
  | [], [] => by simp [deqs]
  | [], _ :: _ => by simp [deqs]
  | _ :: _, [] => by simp [deqs]
  | x :: xs, y :: ys => by simp [deqs, deqs_ints xs ys]
theorem deq_tI (xs ys : List Int) : deq (tpI xs) (tpI ys) = (xs == ys) := by simp [tpI, deq, deqs_ints]
theorem ints_tI (xs : List Int) : ints? (xs.map .int) = some xs := by
  induction xs with
  | nil => rfl
  | cons x xs ih => simp [ints?, ih]
theorem atI_map {xs : List Int} {i : Int} {j : Nat} (h : i = j) (hj : j < xs.length) : atI (xs.map D.int) i = some (.int (xs[j]'hj)) := by
  subst h
  have h2 : ((j : Int) < (xs.length : Int)) := by omega
  simp [atI, ixN, h2, hj]
theorem atI_at {α : Type} {xs : List α} {i : Int} (h0 : 0 ≤ i) (h : i < xs.length) : ∃ (hj : i.toNat < xs.length), atI xs i = some (xs[i.toNat]'hj) := by
  have hj : i.toNat < xs.length := by omega
  refine ⟨hj, ?_⟩
  simp [atI, ixN, h0, h, hj]
section
variable {P : Pg} {n : Nat} {s : Sto}
theorem call1 (h1 : P.fns 1 = some f1) {d : D} (hd : valOk d = true) : callN P (n + 1) 1 [d] s = .ok (.d (tpI (octV d))) s := by
  rw [call_eq h1 rfl]
  cases d <;> first | (cases hd; done) | skip
  case str z =>
    simp only [valOk, Bool.and_eq_true, decide_eq_true_eq] at hd
    have hl := hd.1
    have hz : z.length ≤ line := line_big (by omega)
    have e : evE P (callN P n) (.lc (.blt .ord [.v 1]) (.nm 1) [1] .seq [.v 0] []) ⟨[.dat (.str z), .no], s⟩ = .ok (.tmp (.lst (z.map fun (c : Nat) => .int c))) ⟨[.dat (.str z), .no], s⟩ := by
      simp only [ev_lc, evs_cons, evs_nil, ev_v, get_mk, getS_zero, bind_ok, List.map_cons, List.map_nil, rd_d, wk_s, if_pos hz, ofO_some]
      rw [doLc_map (fun x => match x with
        | .str [c] => .int c
        | _ => .non) (by simpa using hz) (by simp [isOwn]) ?_]
      · simp [Function.comp_def]
      · intro x hx
        obtain ⟨c, hc, rfl⟩ := List.mem_map.mp hx
        simp [lcF, noex]
    have l1 : 1 + z.length ≤ line := line_big (by omega)
    have l2 : 1 + z.length + 1 ≤ line := line_big (by omega)
    simp [f1, b1, startL, e, tpI, octV, l1]
    have l3 : z.length + 1 + 1 ≤ line := by omega
    simp [l3, Function.comp_def]
  case int v =>
    simp [f1, b1, startL, tpI, octV]
theorem loop2 (h1 : P.fns 1 = some f1) {d0 : Sl} : ∀ (xs : List D) (acc : List Int) (v : Sl), (∀ x ∈ xs, valOk x = true) → acc.length + 1002 * xs.length ≤ line →
    ∃ v', forL (.nm 2) (evSs P (callN P (n + 1)) [.asg (.nm 1) (.bin .add (.v 1) (.call 1 [.v 2]))]) xs ⟨[d0, .dat (tpI acc), v], s⟩ = .ok .nx ⟨[d0, .dat (tpI (acc ++ xs.flatMap octV)), v'], s⟩
  | [], acc, v, _, _ => ⟨v, by simp [forL]⟩
  | x :: xs, acc, v, hx, hl => by
    have h := hx x List.mem_cons_self
    have ho := octV_len h
    simp only [List.length_cons] at hl
    obtain ⟨v', e⟩ := loop2 h1 (d0 := d0) xs (acc ++ octV x) (.dat x) (fun y hy => hx y (List.mem_cons_of_mem _ hy)) (by simp only [List.length_append]; omega)
    have l1 : acc.length + (octV x).length ≤ line := by omega
    refine ⟨v', ?_⟩
    unfold forL
    simp only [tgt, set_mk, setS_succ, setS_zero]
    have e1 : evSs P (callN P (n + 1)) [.asg (.nm 1) (.bin .add (.v 1) (.call 1 [.v 2]))] ⟨[d0, .dat (tpI acc), .dat x], s⟩ = .ok .nx ⟨[d0, .dat (tpI (acc ++ octV x)), .dat x], s⟩ := by
      simp [call1 h1 h, tpI, l1]
    rw [e1, bind_ok]
    simp only [List.flatMap_cons, ← List.append_assoc]
    exact e
theorem call2 (h1 : P.fns 1 = some f1) (h2 : P.fns 2 = some f2) {ds : List D} (hd : ∀ x ∈ ds, valOk x = true) (hl : ds.length ≤ 1000) : callN P (n + 2) 2 [.tup ds] s = .ok (.d (tpI (ds.flatMap octV))) s := by
  rw [call_eq h2 rfl]
  obtain ⟨v', e⟩ := loop2 (n := n) (s := s) h1 (d0 := .dat (.tup ds)) ds [] .no hd (line_big (by simp only [List.length_nil]; omega))
  simp only [tpI, List.map_nil, List.nil_append] at e
  simp [f2, b2, startL, doFor, e, tpI]
theorem flat_len {ds : List D} (hd : ∀ x ∈ ds, valOk x = true) : (ds.flatMap octV).length ≤ 1002 * ds.length := by
  induction ds with
  | nil => simp
  | cons x ds ih =>
    have := octV_len (hd x List.mem_cons_self)
    have := ih fun y hy => hd y (List.mem_cons_of_mem _ hy)
    simp only [List.flatMap_cons, List.length_append, List.length_cons]
    omega
theorem call3 (h1 : P.fns 1 = some f1) (h2 : P.fns 2 = some f2) (h3 : P.fns 3 = some f3) {ds : List D} (hd : ∀ x ∈ ds, valOk x = true) (hl : ds.length ≤ 1000) : callN P (n + 3) 3 [.tup ds] s = .ok (.d (tpI (keyOct ds))) s := by
  rw [call_eq h3 rfl]
  have hf := flat_len hd
  have l1 : (ds.flatMap octV).length + 1 ≤ line := line_big (by omega)
  have e := call2 (n := n) (s := s) h1 h2 hd hl
  unfold keyOct
  generalize ds.flatMap octV = g at *
  simp [f3, b3, startL, e, tpI, l1]
end
end Ev
end
section
set_option maxRecDepth 100000
set_option maxHeartbeats 1000000
/-! Oct2: draws; keys drawn. -/
namespace Ev
section
variable {P : Pg} {n : Nat} {s : Sto}
@[simp] theorem okMul_r {i j : Int} (h : (decide (-(2 ^ 64) < j) && decide (j < 2 ^ 64)) = true) : okMul i j = true := by unfold okMul; rw [h, Bool.or_true]
theorem rngL_mem : ∀ (m : Nat) (lo : Int) (x : D), x ∈ rngL lo m → ∃ k : Int, x = .int k ∧ lo ≤ k ∧ k < lo + m
  | 0, lo, x, h => by cases h
  | m + 1, lo, x, h => by
    rcases List.mem_cons.mp h with h | h
    · exact ⟨lo, h, by omega, by omega⟩
    · obtain ⟨k, e, h1, h2⟩ := rngL_mem m (lo + 1) x h
      exact ⟨k, e, by omega, by omega⟩
theorem rngL_length : ∀ (m : Nat) (lo : Int), (rngL lo m).length = m
  | 0, _ => rfl
  | m + 1, lo => by simp [rngL, rngL_length m]
def isInt (x : D) : Prop := ∃ k : Int, x = .int k
theorem draws1 {a b st : Sl} : ∀ (xs : List D) (l : List Int) (r : Int) (v : Sl), l.length + xs.length ≤ 1000 →
    ∃ (l' : List Int) (r' : Int) (v' : Sl), forL (.nm 4) (evSs P (callN P n) [.ife (.cmp .gt (.v 3) (.i 0)) [.app 2 (.bin .mod (.blt .int [.v 3]) (.i 1000)), .asg (.nm 3) (.bin .fdiv (.v 3) (.i 1000))] []]) xs ⟨[a, b, .own (lsI l), .dat (.int r), v, st], s⟩
      = .ok .nx ⟨[a, b, .own (lsI l'), .dat (.int r'), v', st], s⟩ ∧ l'.length ≤ l.length + xs.length
  | [], l, r, v, h => ⟨l, r, v, rfl, Nat.le_refl _⟩
  | x :: xs, l, r, v, h => by
    simp only [List.length_cons] at h
    have hl : l.length < line := Nat.lt_of_lt_of_le (show l.length < 1001 by omega) (line_big (by decide))
    unfold forL
    simp only [tgt_nm, set_mk, setS_succ, setS_zero]
    by_cases hr : 0 < r
    · obtain ⟨l', r', v', e, h'⟩ := draws1 (a := a) (b := b) (st := st) xs (l ++ [r % 1000]) (r / 1000) (.dat x) (by simp only [List.length_append, List.length_cons, List.length_nil]; omega)
      refine ⟨l', r', v', ?_, by simp only [List.length_append, List.length_cons, List.length_nil] at h'; simp only [List.length_cons]; omega⟩
      rw [← e]
      simp [hr, lsI, doApp, hl]
    · obtain ⟨l', r', v', e, h'⟩ := draws1 (a := a) (b := b) (st := st) xs l r (.dat x) (by omega)
      refine ⟨l', r', v', ?_, by simp only [List.length_cons]; omega⟩
      rw [← e]
      simp [hr]
theorem draws2 {a rest : Sl} {m : Nat} (hm : m ≤ 1000) : ∀ (xs : List D) (l : List Int) (z : Int) (v : Sl), (∀ x ∈ xs, isInt x) → l.length ≤ m →
    ∃ (l' : List Int) (z' : Int) (v' : Sl), forL (.nm 4) (evSs P (callN P n) [.asg (.nm 5) (.bin .mod (.blt .int [(.bin .add (.bin .add (.bin .mul (.v 5) (.i 48271)) (.bin .mul (.v 4) (.i 69621))) (.i 7))]) (.i 2147483647)),
      .ife (.cmp .lt (.blt .len [(.v 2)]) (.v 1)) [.app 2 (.bin .mod (.blt .int [(.bin .mod (.blt .int [(.bin .add (.bin .mul (.v 5) (.i 69621)) (.i 5))]) (.i 2147483629))]) (.i 1000))] []]) xs ⟨[a, .dat (.int m), .own (lsI l), rest, v, .dat (.int z)], s⟩
      = .ok .nx ⟨[a, .dat (.int m), .own (lsI l'), rest, v', .dat (.int z')], s⟩ ∧ l'.length ≤ m ∧ (m ≤ l'.length ∨ l.length + xs.length ≤ l'.length)
  | [], l, z, v, hx, h => ⟨l, z, v, rfl, h, .inr (Nat.le_refl _)⟩
  | x :: xs, l, z, v, hx, h => by
    obtain ⟨k, rfl⟩ := hx x List.mem_cons_self
    unfold forL
    simp only [tgt_nm, set_mk, setS_succ, setS_zero]
    by_cases hl : l.length < m
    · have hl2 : l.length < line := Nat.lt_of_lt_of_le (show l.length < 1001 by omega) (line_big (by decide))
      have hl3 : (l.length : Int) < m := by omega
      obtain ⟨l', z', v', e, h1, h2⟩ := draws2 (a := a) (rest := rest) hm xs (l ++ [((z * 48271 + k * 69621 + 7) % 2147483647 * 69621 + 5) % 2147483629 % 1000]) ((z * 48271 + k * 69621 + 7) % 2147483647) (.dat (.int k)) (fun y hy => hx y (List.mem_cons_of_mem _ hy)) (by simp only [List.length_append, List.length_cons, List.length_nil]; omega)
      refine ⟨l', z', v', ?_, h1, by simp only [List.length_append, List.length_cons, List.length_nil] at h2; simp only [List.length_cons]; omega⟩
      rw [← e]
      simp [lsI, doApp, hl2, hl, okMul_r]
    · obtain ⟨l', z', v', e, h1, h2⟩ := draws2 (a := a) (rest := rest) hm xs l ((z * 48271 + k * 69621 + 7) % 2147483647) (.dat (.int k)) (fun y hy => hx y (List.mem_cons_of_mem _ hy)) h
      refine ⟨l', z', v', ?_, h1, by simp only [List.length_cons]; omega⟩
      have hl3 : ¬ ((l.length : Int) < m) := by omega
      rw [← e]
      simp [lsI, hl, okMul_r]
def dTail : List S := [.asg (.nm 5) (.bin .mod (.blt .int [(.bin .add (.bin .mul (.blt .int [(.v 0)]) (.i 48271)) (.i 11))]) (.i 2147483647)),
    .forr (.nm 4) .rng1 [(.v 1)]
    [.asg (.nm 5) (.bin .mod (.blt .int [(.bin .add (.bin .add (.bin .mul (.v 5) (.i 48271)) (.bin .mul (.v 4) (.i 69621))) (.i 7))]) (.i 2147483647)),
    .ife (.cmp .lt (.blt .len [(.v 2)]) (.v 1))
      [.app 2 (.bin .mod (.blt .int [(.bin .mod (.blt .int [(.bin .add (.bin .mul (.v 5) (.i 69621)) (.i 5))]) (.i 2147483629))]) (.i 1000))]
      []],
    .ret (.v 2)]
def dLoop : S := .forr (.nm 4) .rng1 [(.v 1)]
      [.ife (.cmp .gt (.v 3) (.i 0))
        [.app 2 (.bin .mod (.blt .int [(.v 3)]) (.i 1000)),
        .asg (.nm 3) (.bin .fdiv (.v 3) (.i 1000))]
        []]
theorem mem_ints (m : Nat) : ∀ x ∈ rngL 0 m, isInt x := fun x hx => by
  obtain ⟨k, e, _⟩ := rngL_mem m 0 x hx
  exact ⟨k, e⟩
theorem dTail_ok {c : Int} {m : Nat} (hm : m ≤ 1000) (l : List Int) (r : Int) (v : Sl) (hl : l.length ≤ m) : ∃ l' : List Int, l'.length = m ∧
    endR (evSs P (callN P n) dTail ⟨[.dat (.int c), .dat (.int m), .own (lsI l), .dat (.int r), v, .no], s⟩) = .ok (.own (lsI l')) s := by
  have hi := in62_small (i := (m : Int)) (by omega) (by omega)
  obtain ⟨l', z', v', e, h1, h2⟩ := draws2 (P := P) (n := n) (s := s) (a := .dat (.int c)) (rest := .dat (.int r)) hm (rngL 0 m) l ((c * 48271 + 11) % 2147483647) v (mem_ints m) hl
  rw [rngL_length] at h2
  refine ⟨l', by omega, ?_⟩
  unfold dTail
  rw [step (c' := ⟨[.dat (.int c), .dat (.int m), .own (lsI l), .dat (.int r), v, .dat (.int ((c * 48271 + 11) % 2147483647))], s⟩) (by simp [okMul_r])]
  rw [step (c' := ⟨[.dat (.int c), .dat (.int m), .own (lsI l'), .dat (.int r), v', .dat (.int z')], s⟩) ?_]
  · simp
  · rw [es_forr]
    simp only [evs_cons, evs_nil, ev_v, get_mk, getS_succ, getS_zero, bind_ok, doFor, List.map_cons, List.map_nil, rd_d, wk_r1, hi, if_true, ofO_some, keepsV_d, keepsV_nil, Int.toNat_natCast]
    exact e
theorem dLoop_ok {c : Int} {m : Nat} (hm : m ≤ 1000) : ∃ (l1 : List Int) (r1 : Int) (v1 : Sl), l1.length ≤ m ∧ evS P (callN P n) dLoop ⟨[.dat (.int c), .dat (.int m), .own (lsI []), .dat (.int c), .no, .no], s⟩ = .ok .nx ⟨[.dat (.int c), .dat (.int m), .own (lsI l1), .dat (.int r1), v1, .no], s⟩ := by
  have hi := in62_small (i := (m : Int)) (by omega) (by omega)
  obtain ⟨l1, r1, v1, e1, hl1⟩ := draws1 (P := P) (n := n) (s := s) (a := .dat (.int c)) (b := .dat (.int m)) (st := .no) (rngL 0 m) [] c .no (by simp only [List.length_nil, rngL_length]; omega)
  simp only [List.length_nil, rngL_length, Nat.zero_add] at hl1
  refine ⟨l1, r1, v1, hl1, ?_⟩
  unfold dLoop
  rw [es_forr]
  simp only [evs_cons, evs_nil, ev_v, get_mk, getS_succ, getS_zero, bind_ok, doFor, List.map_cons, List.map_nil, rd_d, wk_r1, hi, if_true, ofO_some, keepsV_d, keepsV_nil, Int.toNat_natCast]
  exact e1
theorem dIf {c d : Int} {a : S} {ρ : List Sl} {c' : C} (hd : getS ρ 3 = .dat (.int c)) (ha : ¬ c < d → evS P (callN P n) a ⟨ρ, s⟩ = .ok .nx c') {p : E} (hp : evE P (callN P n) p ⟨ρ, s⟩ = .ok (.d (.int d)) ⟨ρ, s⟩) : evS P (callN P n) (.ife (.cmp .ge (.v 3) p) [a] []) ⟨ρ, s⟩ = .ok .nx (if c < d then ⟨ρ, s⟩ else c') := by
  by_cases h : c < d
  · simp [hd, hp, h]
  · simp [hd, hp, h, ha h]
theorem pow18 {c : C} : evE P (callN P n) (.bin .pow (.i 10) (.i 18)) c = .ok (.d (.int (10 ^ 18))) c := by simp
/-- the draws of a cell: as many as asked for -/
theorem call0 (h0 : P.fns 0 = some f0) (c : Int) (m : Nat) (hm : m ≤ 1000) : ∃ l : List Int, l.length = m ∧ callN P (n + 1) 0 [.int c, .int m] s = .ok (.own (lsI l)) s := by
  rw [call_eq h0 rfl]
  have e0 : startL f0.nl [.int c, .int (m : Int)] = [.dat (.int c), .dat (.int m), .no, .no, .no, .no] := rfl
  have eb : f0.body = .asg (.nm 2) (.lst []) :: .asg (.nm 3) (.blt .int [(.v 0)]) :: .ife (.cmp .ge (.v 3) (.bin .pow (.i 10) (.i 18))) [dLoop] [] :: dTail := rfl
  rw [e0, eb, step (c' := ⟨[.dat (.int c), .dat (.int m), .own (lsI []), .no, .no, .no], s⟩) (by simp [lsI]), step (c' := ⟨[.dat (.int c), .dat (.int m), .own (lsI []), .dat (.int c), .no, .no], s⟩) (by simp)]
  obtain ⟨l1, r1, v1, hl1, e1⟩ := dLoop_ok (P := P) (n := n) (s := s) (c := c) hm
  rw [step (dIf (by rfl) (fun _ => e1) pow18)]
  split
  · exact dTail_ok hm [] c .no (by simp)
  · exact dTail_ok hm l1 r1 v1 hl1
end
end Ev
end
section
set_option maxRecDepth 100000
set_option maxHeartbeats 1000000
/-! Oct3: values and keys drawn; bits. -/
namespace Ev
def numsL : List D := [.int 0, .int 1, .int 2, .int 7, .int 255, .int 256, .int 65535, .int 65536, .int 999999]
def textsL : List D := [.str [], .str [97], .str [97, 98], .str [98], .str [97, 32, 98], .str [111, 108, 100, 32, 109, 105, 108, 108], .str [77, 105, 108, 108], .str [116, 101], .str [116, 101, 97], .str [116, 101, 97, 45, 116, 105, 109, 101], .str [120, 49], .str [126], .str [32], .str [97, 98, 99], .str [109, 105, 108, 108, 32, 119, 101, 105, 114]]
def abab : D := .str (List.replicate 20 [97, 98]).flatten
def lawVal (d : Int) : D := if d % 3 = 0 then numsL.getD (d / 3 % 9).toNat .non else if d % 100 = 98 then abab else textsL.getD (d / 3 % 15).toNat .non
theorem getD_all {xs : List D} (h : xs.all valOk = true) {i : Nat} (hi : i < xs.length) : valOk (xs.getD i .non) = true := by
  rw [List.getD_eq_getElem?_getD, List.getElem?_eq_getElem hi]
  exact List.all_eq_true.mp h _ (List.getElem_mem hi)
theorem lawVal_ok (d : Int) : valOk (lawVal d) = true := by
  unfold lawVal
  split
  · exact getD_all (by decide +kernel) (show _ < 9 by omega)
  · split
    · decide +kernel
    · exact getD_all (by decide +kernel) (show _ < 15 by omega)
theorem atI_getD {xs : List D} {i : Int} (h0 : 0 ≤ i) (h : i < xs.length) : atI xs i = some (xs.getD i.toNat .non) := by
  obtain ⟨hj, e⟩ := atI_at h0 h
  rw [e, List.getD_eq_getElem?_getD, List.getElem?_eq_getElem hj]; rfl
section
variable {P : Pg} {n : Nat} {s : Sto}
theorem call4 (h4 : P.fns 4 = some f4) (d : Int) : callN P (n + 1) 4 [.int d] s = .ok (.d (lawVal d)) s := by
  rw [call_eq h4 rfl]
  have e0 : startL f4.nl [.int d] = [.dat (.int d), .no, .no] := rfl
  have eb : f4.body = b4 := rfl
  rw [e0, eb]
  unfold b4
  rw [step (c' := ⟨[.dat (.int d), .own (.lst numsL), .no], s⟩) (by simp [numsL]), step (c' := ⟨[.dat (.int d), .own (.lst numsL), .own (.lst textsL)], s⟩) (by simp [textsL])]
  unfold lawVal
  by_cases h1 : d % 3 = 0
  · have e1 := atI_getD (xs := numsL) (i := d / 3 % 9) (by omega) (show _ < (9 : Int) by omega)
    rw [stop (v := .d (numsL.getD (d / 3 % 9).toNat .non)) (c' := ⟨[.dat (.int d), .own (.lst numsL), .own (.lst textsL)], s⟩) (by simp [h1, e1])]
    simp [h1]
  · rw [step (c' := ⟨[.dat (.int d), .own (.lst numsL), .own (.lst textsL)], s⟩) (by simp [h1])]
    by_cases h2 : d % 100 = 98
    · rw [stop (v := .d abab) (c' := ⟨[.dat (.int d), .own (.lst numsL), .own (.lst textsL)], s⟩) (by simp [h2, abab])]
      simp [h1, h2]
    · have e1 := atI_getD (xs := textsL) (i := d / 3 % 15) (by omega) (show _ < (15 : Int) by omega)
      rw [step (c' := ⟨[.dat (.int d), .own (.lst numsL), .own (.lst textsL)], s⟩) (by simp [h2])]
      rw [stop (v := .d (textsL.getD (d / 3 % 15).toNat .non)) (c' := ⟨[.dat (.int d), .own (.lst numsL), .own (.lst textsL)], s⟩) (by simp [e1])]
      simp [h1, h2]
def lawKey (l : List Int) : List D := (rngL 0 (1 + l.getD 0 0 % 3).toNat).map fun x => match x with
  | .int k => lawVal (l.getD (1 + k).toNat 0)
  | _ => .non
theorem lawKey_len (l : List Int) : 1 ≤ (lawKey l).length ∧ (lawKey l).length ≤ 3 := by
  unfold lawKey
  rw [List.length_map, rngL_length]
  omega
theorem lawKey_ok (l : List Int) : ∀ x ∈ lawKey l, valOk x = true := by
  intro x hx
  obtain ⟨y, hy, rfl⟩ := List.mem_map.mp hx
  obtain ⟨k, rfl, _⟩ := rngL_mem _ _ _ hy
  exact lawVal_ok _
theorem atI_lI {l : List Int} {i : Int} (h0 : 0 ≤ i) (h : i < l.length) : atI (l.map D.int) i = some (.int (l.getD i.toNat 0)) := by
  have hj : i.toNat < l.length := by omega
  rw [atI_map (j := i.toNat) (by omega) hj, List.getD_eq_getElem?_getD, List.getElem?_eq_getElem hj]; rfl
theorem call5 (h4 : P.fns 4 = some f4) (h5 : P.fns 5 = some f5) {l : List Int} (hl : 4 ≤ l.length) : callN P (n + 2) 5 [lsI l] s = .ok (.d (.tup (lawKey l))) s := by
  rw [call_eq h5 rfl]
  have e0 : startL f5.nl [lsI l] = [.dat (lsI l), .no] := rfl
  have eb : f5.body = b5 := rfl
  rw [e0, eb]
  unfold b5
  have g0 : atI (l.map D.int) 0 = some (.int (l.getD 0 0)) := atI_lI (by omega) (by omega)
  have hi : in62 (1 + l.getD 0 0 % 3) = true := in62_small (by omega) (by omega)
  have e : evE P (callN P (n + 1)) (.lc (.call 4 [(.ix (.v 0) (.bin .add (.i 1) (.v 1)))]) (.nm 1) [1] .rng1 [(.bin .add (.i 1) (.bin .mod (.blt .int [(.ix (.v 0) (.i 0))]) (.i 3)))] []) ⟨[.dat (lsI l), .no], s⟩ = .ok (.tmp (.lst (lawKey l))) ⟨[.dat (lsI l), .no], s⟩ := by
    rw [ev_lc]
    simp only [evs_cons, evs_nil, ev_bin, ev_i, ev_blt, ev_ix, ev_v, get_mk, getS_zero, bind_ok, rd_d, doIx_eq, lsI, ix_l, g0, Option.map_some, ofO_some, List.map_cons, List.map_nil, doBlt_eq, blt_one, int_i, mod_i, add_i, wk_r1, hi, if_true, show (0 : Int) < 3 from by decide]
    rw [doLc_map (fun x => match x with
        | .int k => lawVal (l.getD (1 + k).toNat 0)
        | _ => .non) (by rw [rngL_length]; exact line_big (by omega)) (by simp [isOwn]) ?_]
    · rfl
    · intro x hx
      obtain ⟨k, rfl, k1, k2⟩ := rngL_mem _ _ _ hx
      have g1 : atI (l.map D.int) (1 + k) = some (.int (l.getD (1 + k).toNat 0)) := atI_lI (by omega) (by omega)
      simp [lcF, noex, g1, call4 h4]
  simp [e]
/-! bits -/
def masks : List Int := [128, 64, 32, 16, 8, 4, 2, 1]
def bits8 (o : Int) : List Int := masks.map fun u => o / u % 2
def bitsOf (os : List Int) : List Int := os.flatMap bits8
theorem bits8_len (o : Int) : (bits8 o).length = 8 := rfl
theorem bitsOf_len : ∀ os : List Int, (bitsOf os).length = 8 * os.length
  | [] => rfl
  | o :: os => by
    have := bitsOf_len os
    unfold bitsOf at *
    rw [List.flatMap_cons, List.length_append, bits8_len, this, List.length_cons]; omega
theorem lcBits {o : Int} {d0 b1 : Sl} : evE P (callN P n) (.lc (.bin .mod (.bin .fdiv (.blt .int [(.v 2)]) (.v 3)) (.i 2)) (.nm 3) [3] .seq [(.tup [(.i 128), (.i 64), (.i 32), (.i 16), (.i 8), (.i 4), (.i 2), (.i 1)])] []) ⟨[d0, b1, .dat (.int o), .no], s⟩ = .ok (.tmp (lsI (bits8 o))) ⟨[d0, b1, .dat (.int o), .no], s⟩ := by
  rw [ev_lc]
  simp only [evs_cons, evs_nil, ev_tup, ev_i, bind_ok, List.map_cons, List.map_nil, rd_d, wk_t, ofO_some, frzs_cons, frzs_nil, frz_d]
  rw [doLc_map (fun x => match x with
      | .int u => .int (o / u % 2)
      | _ => .non) (line_big (by simp)) (by simp [isOwn]) ?_]
  · rfl
  · intro x hx
    have : x ∈ masks.map D.int := hx
    obtain ⟨u, hu, rfl⟩ := List.mem_map.mp this
    have h1 : 0 < u ∧ u < 1073741824 := by
      simp only [masks, List.mem_cons, List.not_mem_nil, or_false] at hu
      omega
    simp [lcF, noex, h1.1, h1.2]
theorem loop6 {d0 : Sl} : ∀ (xs : List Int) (acc : List Int) (v : Sl), acc.length + 8 * xs.length ≤ line →
    ∃ v', forL (.nm 2) (evSs P (callN P n) [.asg (.nm 1) (.bin .add (.v 1) (.lc (.bin .mod (.bin .fdiv (.blt .int [(.v 2)]) (.v 3)) (.i 2)) (.nm 3) [3] .seq [(.tup [(.i 128), (.i 64), (.i 32), (.i 16), (.i 8), (.i 4), (.i 2), (.i 1)])] []))]) (xs.map .int) ⟨[d0, .own (lsI acc), v, .no], s⟩ = .ok .nx ⟨[d0, .own (lsI (acc ++ bitsOf xs)), v', .no], s⟩
  | [], acc, v, _ => ⟨v, by simp [forL, bitsOf]⟩
  | x :: xs, acc, v, hl => by
    simp only [List.length_cons] at hl
    obtain ⟨v', e⟩ := loop6 (d0 := d0) xs (acc ++ bits8 x) (.dat (.int x)) (by simp only [List.length_append, bits8_len]; omega)
    have l1 : acc.length + (bits8 x).length ≤ line := by rw [bits8_len]; omega
    refine ⟨v', ?_⟩
    rw [List.map_cons]
    unfold forL
    simp only [tgt_nm, set_mk, setS_succ, setS_zero]
    have e1 : evSs P (callN P n) [.asg (.nm 1) (.bin .add (.v 1) (.lc (.bin .mod (.bin .fdiv (.blt .int [(.v 2)]) (.v 3)) (.i 2)) (.nm 3) [3] .seq [(.tup [(.i 128), (.i 64), (.i 32), (.i 16), (.i 8), (.i 4), (.i 2), (.i 1)])] []))] ⟨[d0, .own (lsI acc), .dat (.int x), .no], s⟩ = .ok .nx ⟨[d0, .own (lsI (acc ++ bits8 x)), .dat (.int x), .no], s⟩ := by
      have e2 := lcBits (P := P) (n := n) (s := s) (o := x) (d0 := d0) (b1 := .own (lsI acc))
      simp [e2]
      simp [lsI, l1]
    rw [e1, bind_ok]
    have e3 : acc ++ bitsOf (x :: xs) = acc ++ bits8 x ++ bitsOf xs := by simp [bitsOf]
    rw [e3]
    exact e
theorem call6 (h6 : P.fns 6 = some f6) {os : List Int} (hl : os.length ≤ 1000000) : callN P (n + 1) 6 [tpI os] s = .ok (.own (lsI (bitsOf os))) s := by
  rw [call_eq h6 rfl]
  have e0 : startL f6.nl [tpI os] = [.dat (tpI os), .no, .no, .no] := rfl
  have eb : f6.body = b6 := rfl
  rw [e0, eb]
  unfold b6
  obtain ⟨v', e⟩ := loop6 (P := P) (n := n) (s := s) (d0 := .dat (tpI os)) os [] .no (line_big (by simp only [List.length_nil]; omega))
  rw [step (c' := ⟨[.dat (tpI os), .own (lsI []), .no, .no], s⟩) (by simp [lsI])]
  rw [step (c' := ⟨[.dat (tpI os), .own (lsI (bitsOf os)), v', .no], s⟩) ?_]
  · simp
  · rw [es_forr]
    simp only [evs_cons, evs_nil, ev_v, get_mk, getS_zero, bind_ok, doFor, List.map_cons, List.map_nil, rd_d, tpI, wk_t, ofO_some, keepsV_d, keepsV_nil, if_true]
    exact e
end
end Ev
end
section
set_option maxRecDepth 100000
set_option maxHeartbeats 1000000
/-! Oct4: the first bit; plain facts about octets. -/
namespace Ev
def isOct (o : Int) : Prop := 0 ≤ o ∧ o < 256
def fdiff : List Int → List Int → Option Nat
  | x :: xs, y :: ys => if x = y then (fdiff xs ys).map (· + 1) else some 0
  | _, _ => none
theorem octV_oct {d : D} (h : valOk d = true) : ∀ o ∈ octV d, isOct o := by
  intro o ho
  cases d <;> simp [valOk, octV] at h ho
  case int v =>
    unfold isOct
    omega
  case str z =>
    unfold isOct
    rcases ho with rfl | ⟨c, hc, rfl⟩ | rfl
    · omega
    · have := h.2 c hc; omega
    · omega
theorem keyOct_oct {ds : List D} (h : ∀ x ∈ ds, valOk x = true) : ∀ o ∈ keyOct ds, isOct o := by
  intro o ho
  rcases List.mem_append.mp ho with ho | ho
  · obtain ⟨d, hd, h1⟩ := List.mem_flatMap.mp ho
    exact octV_oct (h d hd) o h1
  · simp at ho; subst ho; exact ⟨by omega, by omega⟩
theorem keyOct_len {ds : List D} (h : ∀ x ∈ ds, valOk x = true) (hl : ds.length ≤ 3) : (keyOct ds).length ≤ 3007 ∧ 1 ≤ (keyOct ds).length := by
  have := flat_len h
  unfold keyOct
  rw [List.length_append]
  simp only [List.length_cons, List.length_nil]
  omega
theorem fdiff_app : ∀ (a b u w : List Int), a.length = b.length → fdiff (a ++ u) (b ++ w) = match fdiff a b with
    | some t => some t
    | none => (fdiff u w).map (· + a.length)
  | [], [], u, w, _ => by simp [fdiff]
  | x :: a, y :: b, u, w, h => by
    simp only [List.length_cons, Nat.add_right_cancel_iff] at h
    have ih := fdiff_app a b u w h
    simp only [List.cons_append, fdiff]
    split
    · rw [ih]
      cases fdiff a b with
      | some t => rfl
      | none => simp only [Option.map_none]; cases fdiff u w <;> simp [Nat.add_assoc]
    · rfl
  | [], _ :: _, _, _, h => by simp at h
  | _ :: _, [], _, _, h => by simp at h
theorem fdiff_self : ∀ a : List Int, fdiff a a = none
  | [] => rfl
  | x :: a => by simp [fdiff, fdiff_self a]
theorem fdiff_none : ∀ (a b : List Int), a.length = b.length → fdiff a b = none → a = b
  | [], [], _, _ => rfl
  | x :: a, y :: b, h, e => by
    simp only [List.length_cons, Nat.add_right_cancel_iff] at h
    unfold fdiff at e
    split at e
    · rename_i q
      rw [q, fdiff_none a b h (by cases q2 : fdiff a b <;> rw [q2] at e <;> simp at e)]
    · cases e
  | [], _ :: _, h, _ => by simp at h
  | _ :: _, [], h, _ => by simp at h
theorem fdiff_lt : ∀ (a b : List Int) (t : Nat), fdiff a b = some t → ∃ (h1 : t < a.length) (h2 : t < b.length), a[t] ≠ b[t]
  | [], _, _, e => by simp [fdiff] at e
  | _ :: _, [], _, e => by simp [fdiff] at e
  | x :: a, y :: b, t, e => by
    unfold fdiff at e
    split at e
    · cases q : fdiff a b with
      | none => rw [q] at e; simp at e
      | some u =>
        rw [q] at e
        simp at e
        subst e
        obtain ⟨h1, h2, h3⟩ := fdiff_lt a b u q
        exact ⟨by simp; omega, by simp; omega, by simpa using h3⟩
    · rename_i q
      cases e
      exact ⟨by simp, by simp, by simpa using q⟩
/-! an octet and its bits -/
theorem bits8_inj {x y : Int} (hx : isOct x) (hy : isOct y) (h : bits8 x = bits8 y) : x = y := by
  unfold isOct at hx hy
  simp only [bits8, masks, List.map_cons, List.map_nil, List.cons.injEq, and_true] at h
  omega
def bval : List Int → Int
  | [] => 0
  | b :: bs => b * 2 ^ bs.length + bval bs
theorem bval_lt : ∀ (a : List Int), (∀ b ∈ a, b = 0 ∨ b = 1) → 0 ≤ bval a ∧ bval a < 2 ^ a.length
  | [], _ => by simp [bval]
  | b :: a, h => by
    obtain ⟨h1, h2⟩ := bval_lt a fun c hc => h c (List.mem_cons_of_mem _ hc)
    have hp : (2 : Int) ^ (a.length + 1) = 2 ^ a.length * 2 := Int.pow_succ ..
    simp only [bval, List.length_cons, hp]
    rcases h b List.mem_cons_self with rfl | rfl <;> omega
theorem bval_first : ∀ (a b : List Int) (t : Nat), (∀ x ∈ a, x = 0 ∨ x = 1) → (∀ x ∈ b, x = 0 ∨ x = 1) → a.length = b.length → fdiff a b = some t → (bval a < bval b ↔ b.getD t 0 = 1)
  | [], _, _, _, _, _, e => by simp [fdiff] at e
  | _ :: _, [], _, _, _, _, e => by simp [fdiff] at e
  | x :: a, y :: b, t, ha, hb, hl, e => by
    simp only [List.length_cons, Nat.add_right_cancel_iff] at hl
    have a1 := bval_lt a fun c hc => ha c (List.mem_cons_of_mem _ hc)
    have b1 := bval_lt b fun c hc => hb c (List.mem_cons_of_mem _ hc)
    unfold fdiff at e
    split at e
    · rename_i q
      subst q
      cases q : fdiff a b with
      | none => rw [q] at e; simp at e
      | some u =>
        rw [q] at e
        simp at e
        subst e
        have ih := bval_first a b u (fun c hc => ha c (List.mem_cons_of_mem _ hc)) (fun c hc => hb c (List.mem_cons_of_mem _ hc)) hl q
        simp only [bval, hl, List.getD_cons_succ]
        rw [← ih]
        omega
    · rename_i q
      cases e
      simp only [bval, hl, List.getD_cons_zero]
      rw [hl] at a1
      rcases ha x List.mem_cons_self with rfl | rfl <;> rcases hb y List.mem_cons_self with rfl | rfl
      · exact absurd rfl q
      · simp; omega
      · simp; omega
      · exact absurd rfl q
theorem bits8_01 {o : Int} (h : 0 ≤ o) : ∀ b ∈ bits8 o, b = 0 ∨ b = 1 := by
  intro b hb
  obtain ⟨u, hu, rfl⟩ := List.mem_map.mp hb
  omega
theorem bval8 {o : Int} (h : isOct o) : bval (bits8 o) = o := by
  unfold isOct at h
  have e : bval (bits8 o) = o / 128 % 2 * 128 + (o / 64 % 2 * 64 + (o / 32 % 2 * 32 + (o / 16 % 2 * 16 + (o / 8 % 2 * 8 + (o / 4 % 2 * 4 + (o / 2 % 2 * 2 + (o / 1 % 2 * 1 + 0))))))) := rfl
  rw [e]
  omega
theorem bits_first {x y : Int} {t : Nat} (hx : isOct x) (hy : isOct y) (h : fdiff (bits8 x) (bits8 y) = some t) : x < y ↔ (bits8 y).getD t 0 = 1 := by
  have := bval_first _ _ t (bits8_01 hx.1) (bits8_01 hy.1) rfl h
  rw [bval8 hx, bval8 hy] at this
  exact this
theorem bitsOf_cons (o : Int) (os : List Int) : bitsOf (o :: os) = bits8 o ++ bitsOf os := by simp [bitsOf]
theorem fdiff_bits (x y : Int) (xs ys : List Int) : fdiff (bitsOf (x :: xs)) (bitsOf (y :: ys)) = match fdiff (bits8 x) (bits8 y) with
    | some t => some t
    | none => (fdiff (bitsOf xs) (bitsOf ys)).map (· + 8) := by
  rw [bitsOf_cons, bitsOf_cons, fdiff_app (bits8 x) (bits8 y) _ _ rfl]; rfl
theorem bits8_diff {x y : Int} (hx : isOct x) (hy : isOct y) (h : x ≠ y) : ∃ t, fdiff (bits8 x) (bits8 y) = some t := by
  cases e : fdiff (bits8 x) (bits8 y) with
  | some t => exact ⟨t, rfl⟩
  | none => exact absurd (bits8_inj hx hy (fdiff_none _ _ rfl e)) h
/-- where two rows of bits first differ, there they are compared -/
theorem lex_bits : ∀ (xs ys : List Int) (t : Nat), (∀ o ∈ xs, isOct o) → (∀ o ∈ ys, isOct o) → fdiff (bitsOf xs) (bitsOf ys) = some t → (lexLt xs ys = true ↔ (bitsOf ys).getD t 0 = 1)
  | [], _, _, _, _, e => by simp [bitsOf, fdiff] at e
  | _ :: _, [], _, _, _, e => by
    rw [bitsOf_cons] at e
    simp [bitsOf, fdiff, bits8, masks] at e
  | x :: xs, y :: ys, t, hx, hy, e => by
    have hx1 := hx x List.mem_cons_self
    have hy1 := hy y List.mem_cons_self
    rw [fdiff_bits] at e
    by_cases h : x = y
    · subst h
      rw [fdiff_self] at e
      cases q : fdiff (bitsOf xs) (bitsOf ys) with
      | none => rw [q] at e; simp at e
      | some u =>
        rw [q] at e
        simp at e
        subst e
        have ih := lex_bits xs ys u (fun o ho => hx o (List.mem_cons_of_mem _ ho)) (fun o ho => hy o (List.mem_cons_of_mem _ ho)) q
        rw [bitsOf_cons]
        simp only [lexLt, if_true]
        rw [ih, List.getD_eq_getElem?_getD, List.getD_eq_getElem?_getD, List.getElem?_append_right (by rw [bits8_len]; omega), bits8_len, Nat.add_sub_cancel]
    · obtain ⟨u, q⟩ := bits8_diff hx1 hy1 h
      rw [q] at e
      cases e
      have h1 := bits_first hx1 hy1 q
      obtain ⟨h2, h3, _⟩ := fdiff_lt _ _ _ q
      rw [bitsOf_cons]
      simp only [lexLt, if_neg h, decide_eq_true_eq]
      rw [h1, List.getD_eq_getElem?_getD, List.getD_eq_getElem?_getD, List.getElem?_append_left h3]
theorem pre_of : ∀ (xs ys : List Int), (∀ o ∈ xs, isOct o) → (∀ o ∈ ys, isOct o) → fdiff (bitsOf xs) (bitsOf ys) = none → (∃ z, xs ++ z = ys) ∨ ∃ z, ys ++ z = xs
  | [], ys, _, _, _ => .inl ⟨ys, rfl⟩
  | x :: xs, [], _, _, _ => .inr ⟨x :: xs, rfl⟩
  | x :: xs, y :: ys, hx, hy, e => by
    rw [fdiff_bits] at e
    by_cases h : x = y
    · subst h
      rw [fdiff_self] at e
      rcases pre_of xs ys (fun o ho => hx o (List.mem_cons_of_mem _ ho)) (fun o ho => hy o (List.mem_cons_of_mem _ ho)) (by simpa using e) with ⟨z, q⟩ | ⟨z, q⟩
      · exact .inl ⟨z, by rw [← q]; rfl⟩
      · exact .inr ⟨z, by rw [← q]; rfl⟩
    · obtain ⟨u, q⟩ := bits8_diff (hx x List.mem_cons_self) (hy y List.mem_cons_self) h
      rw [q] at e
      cases e
/-! no key's octets begin with another's -/
theorem zero_split : ∀ (a b u w : List Int), (∀ x ∈ a, x ≠ 0) → (∀ x ∈ b, x ≠ 0) → a ++ 0 :: u = b ++ 0 :: w → a = b ∧ u = w
  | [], [], u, w, _, _, e => by simpa using e
  | [], y :: b, u, w, _, hb, e => by
    simp at e
    exact absurd e.1.symm (hb y List.mem_cons_self)
  | x :: a, [], u, w, ha, _, e => by
    simp at e
    exact absurd e.1 (ha x List.mem_cons_self)
  | x :: a, y :: b, u, w, ha, hb, e => by
    simp only [List.cons_append, List.cons.injEq] at e
    obtain ⟨h1, h2⟩ := zero_split a b u w (fun z hz => ha z (List.mem_cons_of_mem _ hz)) (fun z hz => hb z (List.mem_cons_of_mem _ hz)) e.2
    exact ⟨by rw [e.1, h1], h2⟩
theorem octV_split {d e : D} (hd : valOk d = true) (he : valOk e = true) {u w : List Int} (h : octV d ++ u = octV e ++ w) : octV d = octV e ∧ u = w := by
  cases d <;> simp [valOk] at hd <;> cases e <;> simp [valOk] at he
  case int.int v v' => exact List.append_inj h rfl
  case int.str v z => simp [octV] at h
  case str.int z v => simp [octV] at h
  case str.str z z' =>
    simp only [octV, List.cons_append, List.append_assoc, List.nil_append, List.cons.injEq, true_and] at h
    obtain ⟨h1, h2⟩ := zero_split _ _ _ _ (fun x hx => by
      obtain ⟨c, hc, rfl⟩ := List.mem_map.mp hx
      have := hd.2 c hc; omega) (fun x hx => by
      obtain ⟨c, hc, rfl⟩ := List.mem_map.mp hx
      have := he.2 c hc; omega) h
    exact ⟨by simp only [octV, h1], h2⟩
theorem octV_head {d : D} (hd : valOk d = true) : ∃ x r, octV d = x :: r ∧ x ≠ 0 := by
  cases d <;> simp [valOk] at hd
  · exact ⟨1, _, rfl, by decide⟩
  · exact ⟨2, _, rfl, by decide⟩
theorem keyOct_cons (d : D) (ds : List D) : keyOct (d :: ds) = octV d ++ keyOct ds := by simp [keyOct]
theorem prefix_free : ∀ (ds es : List D) (z : List Int), (∀ x ∈ ds, valOk x = true) → (∀ x ∈ es, valOk x = true) → keyOct ds ++ z = keyOct es → keyOct ds = keyOct es
  | [], [], z, _, _, _ => rfl
  | [], e :: es, z, _, he, h => by
    obtain ⟨x, r, q, hx⟩ := octV_head (he e List.mem_cons_self)
    rw [keyOct_cons, q] at h
    simp only [keyOct, List.flatMap_nil, List.nil_append, List.cons_append, List.cons.injEq] at h
    exact absurd h.1.symm hx
  | d :: ds, [], z, hd, _, h => by
    obtain ⟨x, r, q, hx⟩ := octV_head (hd d List.mem_cons_self)
    rw [keyOct_cons, q] at h
    simp only [keyOct, List.flatMap_nil, List.nil_append, List.cons_append, List.cons.injEq] at h
    exact absurd h.1 hx
  | d :: ds, e :: es, z, hd, he, h => by
    rw [keyOct_cons, keyOct_cons, List.append_assoc] at h
    obtain ⟨h1, h2⟩ := octV_split (hd d List.mem_cons_self) (he e List.mem_cons_self) h
    rw [keyOct_cons, keyOct_cons, h1, prefix_free ds es z (fun x hx => hd x (List.mem_cons_of_mem _ hx)) (fun x hx => he x (List.mem_cons_of_mem _ hx)) h2]
end Ev
end
section
set_option maxRecDepth 100000
set_option maxHeartbeats 1000000
/-! Oct5: first_bit and has_bit. -/
namespace Ev
theorem land_nat : ∀ o : Fin 256, ∀ u ∈ [128, 64, 32, 16, 8, 4, 2, 1], (o.val &&& u) = o.val / u % 2 * u := by decide +kernel
theorem land_mask {o u : Int} (ho : isOct o) (hu : u ∈ masks) : ((o.toNat &&& u.toNat : Nat) : Int) = o / u % 2 * u := by
  obtain ⟨h0, h1⟩ := ho
  obtain ⟨a, rfl⟩ := Int.eq_ofNat_of_zero_le h0
  have ha : a < 256 := by omega
  have hm : ∃ b : Nat, u = b ∧ b ∈ [128, 64, 32, 16, 8, 4, 2, 1] := by
    simp only [masks, List.mem_cons, List.not_mem_nil, or_false] at hu
    rcases hu with rfl | rfl | rfl | rfl | rfl | rfl | rfl | rfl
    · exact ⟨128, rfl, by decide⟩
    · exact ⟨64, rfl, by decide⟩
    · exact ⟨32, rfl, by decide⟩
    · exact ⟨16, rfl, by decide⟩
    · exact ⟨8, rfl, by decide⟩
    · exact ⟨4, rfl, by decide⟩
    · exact ⟨2, rfl, by decide⟩
    · exact ⟨1, rfl, by decide⟩
  obtain ⟨b, rfl, hb⟩ := hm
  have e := land_nat ⟨a, ha⟩ b hb
  simp only at e
  simp only [Int.toNat_natCast]
  rw [e, Int.natCast_mul, Int.natCast_emod, Int.natCast_ediv]
  rfl
theorem masks_pos {u : Int} (hu : u ∈ masks) : 0 < u := by
  simp only [masks, List.mem_cons, List.not_mem_nil, or_false] at hu
  omega
theorem bit_ne {o u : Int} (ho : isOct o) (hu : u ∈ masks) : (((o.toNat &&& u.toNat : Nat) : Int) == 0) = !(o / u % 2 == 1) := by
  rw [land_mask ho hu]
  have hp := masks_pos hu
  have : o / u % 2 = 0 ∨ o / u % 2 = 1 := by omega
  rcases this with e | e <;> rw [e] <;> simp
  omega
theorem bit_eq {o p u : Int} (ho : isOct o) (hp : isOct p) (hu : u ∈ masks) : (((o.toNat &&& u.toNat : Nat) : Int) == ((p.toNat &&& u.toNat : Nat) : Int)) = (o / u % 2 == p / u % 2) := by
  rw [land_mask ho hu, land_mask hp hu]
  have hq := masks_pos hu
  have h1 : o / u % 2 = 0 ∨ o / u % 2 = 1 := by omega
  have h2 : p / u % 2 = 0 ∨ p / u % 2 = 1 := by omega
  rcases h1 with e | e <;> rcases h2 with e' | e' <;> rw [e, e'] <;> simp <;> omega
theorem getD_mem {xs : List Int} {i : Nat} (h : i < xs.length) : xs.getD i 0 ∈ xs := by
  rw [List.getD_eq_getElem?_getD, List.getElem?_eq_getElem h]
  exact List.getElem_mem h
theorem bits8_get {o : Int} {t : Nat} (h : t < 8) : (bits8 o).getD t 0 = o / masks.getD t 0 % 2 := by
  have h2 : t < masks.length := h
  unfold bits8
  rw [List.getD_eq_getElem?_getD, List.getD_eq_getElem?_getD, List.getElem?_map, List.getElem?_eq_getElem h2]
  rfl
theorem bitsOf_get : ∀ (os : List Int) (k : Nat), k < 8 * os.length → (bitsOf os).getD k 0 = os.getD (k / 8) 0 / masks.getD (k % 8) 0 % 2
  | [], k, h => by simp at h
  | o :: os, k, h => by
    rw [bitsOf_cons]
    by_cases hk : k < 8
    · rw [List.getD_eq_getElem?_getD, List.getElem?_append_left (by rw [bits8_len]; exact hk), ← List.getD_eq_getElem?_getD, bits8_get hk]
      have h1 : k / 8 = 0 := by omega
      have h2 : k % 8 = k := by omega
      rw [h1, h2]; rfl
    · simp only [List.length_cons] at h
      rw [List.getD_eq_getElem?_getD, List.getElem?_append_right (by rw [bits8_len]; omega), ← List.getD_eq_getElem?_getD, bits8_len, bitsOf_get os (k - 8) (by omega)]
      have h1 : k / 8 = (k - 8) / 8 + 1 := by omega
      have h2 : k % 8 = (k - 8) % 8 := by omega
      rw [h1, h2, List.getD_cons_succ]
theorem bitsOf_01 : ∀ (os : List Int), (∀ o ∈ os, isOct o) → ∀ b ∈ bitsOf os, b = 0 ∨ b = 1 := by
  intro os h b hb
  obtain ⟨o, ho, h1⟩ := List.mem_flatMap.mp hb
  exact bits8_01 (h o ho).1 b h1
section
variable {P : Pg} {n : Nat} {s : Sto}
theorem call8 (h8 : P.fns 8 = some f8) (c0 : P.cs 0 = some (.tup (masks.map .int))) {os : List Int} (ho : ∀ o ∈ os, isOct o) {k : Nat} (hk : k < 8 * os.length) : callN P (n + 1) 8 [tpI os, .int k] s = .ok (.d (.bl ((bitsOf os).getD k 0 == 1))) s := by
  rw [call_eq h8 rfl]
  have e0 : startL f8.nl [tpI os, .int (k : Int)] = [.dat (tpI os), .dat (.int k)] := rfl
  have eb : f8.body = b8 := rfl
  rw [e0, eb]
  unfold b8
  have h1 : k / 8 < os.length := by omega
  have h2 : k % 8 < masks.length := by show k % 8 < 8; omega
  have g1 : atI (os.map D.int) ((k : Int) / 8) = some (.int (os.getD (k / 8) 0)) := by
    have := atI_lI (l := os) (i := (k : Int) / 8) (by omega) (by omega)
    have e : ((k : Int) / 8).toNat = k / 8 := by omega
    rw [e] at this; exact this
  have g2 : atI (masks.map D.int) ((k : Int) % 8) = some (.int (masks.getD (k % 8) 0)) := by
    have := atI_lI (l := masks) (i := (k : Int) % 8) (by omega) (by show _ < (8 : Int); omega)
    have e : ((k : Int) % 8).toNat = k % 8 := by omega
    rw [e] at this; exact this
  have m1 := ho _ (getD_mem h1)
  have m2 := getD_mem h2
  have p1 := m1.1
  have p2 := Int.le_of_lt (masks_pos m2)
  have e := bit_ne m1 m2
  have e2 := bitsOf_get os k hk
  rw [e2]
  generalize os.getD (k / 8) 0 = o at *
  generalize masks.getD (k % 8) 0 = u at *
  have c0' : P.cs 0 = some (.tup (masks.map .int)) := c0
  rw [stop (v := .d (.bl (o / u % 2 == 1))) (c' := ⟨[.dat (tpI os), .dat (.int k)], s⟩) ?_]
  · rfl
  · simp only [es_ret, ev_cmp, ev_bin, ev_ix, ev_v, ev_k, ev_i, get_mk, getS_zero, getS_succ, bind_ok, rd_d, c0', Option.map_some, ofO_some, tpI, doIx_eq, fdiv_i, mod_i, ix_t, g1, g2, band_i, p1, p2, decide_true, Bool.and_self, if_true, c_ne, shp_int, deq_int, e, Bool.not_not, rv_d, show decide ((0 : Int) < 8) = true from rfl, show decide ((8 : Int) < 1073741824) = true from rfl, show (0 : Int) < 8 from by decide]
def fbody : List S := [.ife (.cmp .ne (.bin .band (.ix (.v 0) (.v 2)) (.v 4)) (.bin .band (.ix (.v 1) (.v 2)) (.v 4))) [.ret (.bin .add (.bin .mul (.i 8) (.v 2)) (.v 3))] []]
theorem inner7 {xs ys : List Int} {j : Nat} {o p : Int} (ho : isOct o) (hp : isOct p) (g1 : atI (xs.map D.int) (j : Int) = some (.int o)) (g2 : atI (ys.map D.int) (j : Int) = some (.int p)) : ∀ (ms : List Int) (k : Nat) (v3 v4 : Sl), (∀ u ∈ ms, u ∈ masks) →
    ∃ v3' v4', forL (.tp [3, 4]) (evSs P (callN P n) fbody) (enumF k (ms.map .int)) ⟨[.dat (tpI xs), .dat (tpI ys), .dat (.int j), v3, v4], s⟩ = .ok (match fdiff (ms.map fun u => o / u % 2) (ms.map fun u => p / u % 2) with
      | none => .nx
      | some t => .rt (.d (.int (8 * j + (k + t : Nat))))) ⟨[.dat (tpI xs), .dat (tpI ys), .dat (.int j), v3', v4'], s⟩
  | [], k, v3, v4, _ => ⟨v3, v4, rfl⟩
  | u :: ms, k, v3, v4, hm => by
    have hu := hm u List.mem_cons_self
    have up := Int.le_of_lt (masks_pos hu)
    have e := bit_eq ho hp hu
    have op := ho.1
    have pp := hp.1
    have et : tgt (.tp [3, 4]) (.tup [.int (k : Nat), .int u]) ⟨[.dat (tpI xs), .dat (tpI ys), .dat (.int j), v3, v4], s⟩ = some ⟨[.dat (tpI xs), .dat (tpI ys), .dat (.int j), .dat (.int k), .dat (.int u)], s⟩ := rfl
    have cond : evT P (callN P n) (.cmp .ne (.bin .band (.ix (.v 0) (.v 2)) (.v 4)) (.bin .band (.ix (.v 1) (.v 2)) (.v 4))) ⟨[.dat (tpI xs), .dat (tpI ys), .dat (.int j), .dat (.int k), .dat (.int u)], s⟩ = .ok (!(o / u % 2 == p / u % 2)) ⟨[.dat (tpI xs), .dat (tpI ys), .dat (.int j), .dat (.int k), .dat (.int u)], s⟩ := by
      simp only [evt_cmp, ev_bin, ev_ix, ev_v, get_mk, getS_zero, getS_succ, bind_ok, rd_d, doIx_eq, tpI, ix_t, g1, g2, Option.map_some, ofO_some, band_i, op, pp, up, decide_true, Bool.and_self, if_true, c_ne, shp_int, deq_int, e]
    rw [List.map_cons]
    unfold enumF forL
    rw [et]
    simp only
    by_cases h : o / u % 2 = p / u % 2
    · obtain ⟨v3', v4', ih⟩ := inner7 ho hp g1 g2 ms (k + 1) (.dat (.int k)) (.dat (.int u)) (fun w hw => hm w (List.mem_cons_of_mem _ hw))
      refine ⟨v3', v4', ?_⟩
      have e1 : evSs P (callN P n) fbody ⟨[.dat (tpI xs), .dat (tpI ys), .dat (.int j), .dat (.int k), .dat (.int u)], s⟩ = .ok .nx ⟨[.dat (tpI xs), .dat (tpI ys), .dat (.int j), .dat (.int k), .dat (.int u)], s⟩ := by
        unfold fbody
        simp only [ess_cons, es_ife, cond, bind_ok, h, beq_self_eq_true, Bool.not_true, Bool.false_eq_true, if_false, ess_nil, nxt_nx]
      rw [e1, bind_ok]
      simp only [List.map_cons, fdiff, h, if_true]
      rw [ih]
      cases fdiff (ms.map fun u => o / u % 2) (ms.map fun u => p / u % 2) with
      | none => rfl
      | some t =>
        simp only [Option.map_some]
        have : k + 1 + t = k + (t + 1) := by omega
        rw [this]
    · refine ⟨.dat (.int k), .dat (.int u), ?_⟩
      have hb : (o / u % 2 == p / u % 2) = false := by simpa using h
      have e1 : evSs P (callN P n) fbody ⟨[.dat (tpI xs), .dat (tpI ys), .dat (.int j), .dat (.int k), .dat (.int u)], s⟩ = .ok (.rt (.d (.int (8 * j + k)))) ⟨[.dat (tpI xs), .dat (tpI ys), .dat (.int j), .dat (.int k), .dat (.int u)], s⟩ := by
        unfold fbody
        simp only [ess_cons, es_ife, cond, bind_ok, hb, Bool.not_false, if_true, es_ret, ev_bin, ev_i, ev_v, get_mk, getS_succ, getS_zero, rd_d, mul_i]
        have : okMul 8 (j : Int) = true := by unfold okMul; rfl
        simp only [this, if_true, ofO_some, bind_ok, get_mk, getS_succ, getS_zero, rd_d, add_i, rv_d, nxt_rt]
      rw [e1, bind_ok]
      simp only [List.map_cons, fdiff, h, if_false, Nat.add_zero]
theorem outer7 (c0 : P.cs 0 = some (.tup (masks.map .int))) {xs ys : List Int} (hx : ∀ o ∈ xs, isOct o) (hy : ∀ o ∈ ys, isOct o) : ∀ (m j : Nat) (v2 v3 v4 : Sl), m + j = min xs.length ys.length →
    ∃ v2' v3' v4', forL (.nm 2) (evSs P (callN P n) [.ife (.cmp .ne (.ix (.v 0) (.v 2)) (.ix (.v 1) (.v 2))) [.forr (.tp [3, 4]) .enum [(.k 0)] fbody] []]) (rngL j m) ⟨[.dat (tpI xs), .dat (tpI ys), v2, v3, v4], s⟩ = .ok (match fdiff (bitsOf (xs.drop j)) (bitsOf (ys.drop j)) with
      | none => .nx
      | some t => .rt (.d (.int (8 * j + t)))) ⟨[.dat (tpI xs), .dat (tpI ys), v2', v3', v4'], s⟩
  | 0, j, v2, v3, v4, hm => by
    have : fdiff (bitsOf (xs.drop j)) (bitsOf (ys.drop j)) = none := by
      have : xs.drop j = [] ∨ ys.drop j = [] := by
        rw [List.drop_eq_nil_iff, List.drop_eq_nil_iff]; omega
      rcases this with e | e <;> rw [e]
      · simp [bitsOf, fdiff]
      · cases bitsOf (xs.drop j) <;> simp [bitsOf, fdiff]
    rw [this]
    exact ⟨v2, v3, v4, rfl⟩
  | m + 1, j, v2, v3, v4, hm => by
    have h1 : j < xs.length := by omega
    have h2 : j < ys.length := by omega
    have d1 : xs.drop j = xs[j] :: xs.drop (j + 1) := List.drop_eq_getElem_cons h1
    have d2 : ys.drop j = ys[j] :: ys.drop (j + 1) := List.drop_eq_getElem_cons h2
    have g1 : atI (xs.map D.int) (j : Int) = some (.int xs[j]) := atI_map rfl h1
    have g2 : atI (ys.map D.int) (j : Int) = some (.int ys[j]) := atI_map rfl h2
    have o1 := hx _ (List.getElem_mem h1)
    have o2 := hy _ (List.getElem_mem h2)
    rw [d1, d2, fdiff_bits]
    generalize xs[j] = x at *
    generalize ys[j] = y at *
    have cond : evT P (callN P n) (.cmp .ne (.ix (.v 0) (.v 2)) (.ix (.v 1) (.v 2))) ⟨[.dat (tpI xs), .dat (tpI ys), .dat (.int j), v3, v4], s⟩ = .ok (!(x == y)) ⟨[.dat (tpI xs), .dat (tpI ys), .dat (.int j), v3, v4], s⟩ := by
      simp only [evt_cmp, ev_ix, ev_v, get_mk, getS_zero, getS_succ, bind_ok, rd_d, doIx_eq, tpI, ix_t, g1, g2, Option.map_some, ofO_some, Bool.and_self, if_true, c_ne, shp_int, deq_int]
    unfold rngL forL
    simp only [tgt_nm, set_mk, setS_succ, setS_zero]
    have hj : (j : Int) + 1 = ((j + 1 : Nat) : Int) := by omega
    by_cases h : x = y
    · subst h
      obtain ⟨v2', v3', v4', ih⟩ := outer7 c0 hx hy m (j + 1) (.dat (.int j)) v3 v4 (by omega)
      refine ⟨v2', v3', v4', ?_⟩
      simp only [ess_cons, es_ife, cond, bind_ok, beq_self_eq_true, Bool.not_true, Bool.false_eq_true, if_false, ess_nil, nxt_nx]
      rw [hj, ih, fdiff_self]
      cases fdiff (bitsOf (xs.drop (j + 1))) (bitsOf (ys.drop (j + 1))) with
      | none => rfl
      | some t =>
        simp only [Option.map_some]
        have : 8 * ((j + 1 : Nat) : Int) + (t : Int) = 8 * (j : Int) + ((t + 8 : Nat) : Int) := by omega
        rw [this]
    · obtain ⟨t, q⟩ := bits8_diff o1 o2 h
      have hb : (x == y) = false := by simpa using h
      obtain ⟨v3', v4', e⟩ := inner7 (P := P) (n := n) (s := s) (xs := xs) (ys := ys) (j := j) o1 o2 g1 g2 masks 0 v3 v4 (fun u hu => hu)
      have q' : fdiff (masks.map fun u => x / u % 2) (masks.map fun u => y / u % 2) = some t := q
      rw [q'] at e
      refine ⟨.dat (.int j), v3', v4', ?_⟩
      simp only [ess_cons, es_ife, cond, bind_ok, hb, Bool.not_false, if_true, es_forr, evs_cons, evs_nil, ev_k, c0, Option.map_some, ofO_some, doFor, List.map_cons, List.map_nil, rd_d, wk_et, keepsV_d, keepsV_nil, e, nxt_rt, q, Nat.zero_add]
theorem call7 (h7 : P.fns 7 = some f7) (c0 : P.cs 0 = some (.tup (masks.map .int))) {xs ys : List Int} (hx : ∀ o ∈ xs, isOct o) (hy : ∀ o ∈ ys, isOct o) (lx : xs.length ≤ 1000000) (ly : ys.length ≤ 1000000) : callN P (n + 1) 7 [tpI xs, tpI ys] s = .ok (.d (match fdiff (bitsOf xs) (bitsOf ys) with
    | none => .non
    | some t => .int t)) s := by
  rw [call_eq h7 rfl]
  have e0 : startL f7.nl [tpI xs, tpI ys] = [.dat (tpI xs), .dat (tpI ys), .no, .no, .no] := rfl
  have eb : f7.body = [.forr (.nm 2) .rng1 [(.blt .min [(.blt .len [(.v 0)]), (.blt .len [(.v 1)])])] [.ife (.cmp .ne (.ix (.v 0) (.v 2)) (.ix (.v 1) (.v 2))) [.forr (.tp [3, 4]) .enum [(.k 0)] fbody] []], .ret .n] := rfl
  rw [e0, eb]
  obtain ⟨v2, v3, v4, e⟩ := outer7 (P := P) (n := n) (s := s) c0 hx hy (min xs.length ys.length) 0 .no .no .no rfl
  simp only [List.drop_zero] at e
  have hmin : (if (ys.length : Int) < (xs.length : Int) then (ys.length : Int) else (xs.length : Int)) = ((min xs.length ys.length : Nat) : Int) := by
    split <;> omega
  have hi : in62 ((min xs.length ys.length : Nat) : Int) = true := in62_small (by omega) (by omega)
  have e1 : evS P (callN P n) (.forr (.nm 2) .rng1 [(.blt .min [(.blt .len [(.v 0)]), (.blt .len [(.v 1)])])] [.ife (.cmp .ne (.ix (.v 0) (.v 2)) (.ix (.v 1) (.v 2))) [.forr (.tp [3, 4]) .enum [(.k 0)] fbody] []]) ⟨[.dat (tpI xs), .dat (tpI ys), .no, .no, .no], s⟩ = .ok (match fdiff (bitsOf xs) (bitsOf ys) with
      | none => .nx
      | some t => .rt (.d (.int (8 * (0 : Nat) + t)))) ⟨[.dat (tpI xs), .dat (tpI ys), v2, v3, v4], s⟩ := by
    have el : ∀ zs : List Int, blt1 .len (tpI zs) = some (.d (.int zs.length)) := fun zs => by simp [tpI]
    simp only [es_forr, evs_cons, evs_nil, ev_blt, ev_v, get_mk, getS_zero, getS_succ, bind_ok, doBlt_eq, List.map_cons, List.map_nil, rd_d, blt_one, el, ofO_some, blt_two, min_2, hmin, doFor, wk_r1, hi, if_true, Int.toNat_natCast, keepsV_d, keepsV_nil]
    exact e
  rw [ess_cons, e1]
  cases fdiff (bitsOf xs) (bitsOf ys) with
  | none => simp
  | some t => simp
end
end Ev
end
section
set_option maxRecDepth 100000
set_option maxHeartbeats 1000000
/-! Rng: ranges of octets, plain facts. -/
namespace Ev
/-- within a range that a beginning makes -/
def within (x a b : List Int) : Bool := !lexLt x a && lexLt x b
theorem within_iff (c : Int) : ∀ (a x : List Int), within x a (a ++ [c]) = true ↔ ∃ r, x = a ++ r ∧ ∀ y r', r = y :: r' → y < c
  | [], x => by
    cases x with
    | nil => simp [within, lexLt]
    | cons y x =>
      simp only [within, lexLt, List.nil_append]
      constructor
      · intro h
        refine ⟨y :: x, rfl, fun z r' e => ?_⟩
        cases e
        by_cases q : y = c
        · subst q
          cases x <;> simp [lexLt] at h
        · simpa [q] using h
      · rintro ⟨r, e, h⟩
        have := h y x e.symm
        have q : ¬ y = c := by omega
        simp [q, this]
  | b :: a, x => by
    cases x with
    | nil => simp [within, lexLt]
    | cons y x =>
      by_cases q : y = b
      · subst q
        have ih := within_iff c a x
        simp only [within, lexLt, List.cons_append, if_true] at ih ⊢
        rw [ih]
        constructor
        · rintro ⟨r, e, h⟩
          exact ⟨r, by rw [e], h⟩
        · rintro ⟨r, e, h⟩
          exact ⟨r, by simpa using e, h⟩
      · simp only [within, lexLt, List.cons_append, if_neg q]
        constructor
        · intro h
          cases z : decide (y < b) <;> simp [z] at h
        · rintro ⟨r, e, h⟩
          simp at e
          exact absurd e.1 q
theorem octV_inj {d e : D} (hd : valOk d = true) (he : valOk e = true) (h : octV d = octV e) : d = e := by
  cases d <;> simp [valOk] at hd <;> cases e <;> simp [valOk] at he
  case int.int v v' =>
    simp only [octV, List.cons.injEq, and_true, true_and] at h
    have : v = v' := by omega
    rw [this]
  case int.str v z => simp [octV] at h
  case str.int z v => simp [octV] at h
  case str.str z z' =>
    simp only [octV, List.cons.injEq, true_and] at h
    have h := List.append_cancel_right h
    have h2 : z = z' := by
      have := (List.map_inj_right (f := fun (c : Nat) => (c : Int)) (fun x y e => by have e : (x : Int) = y := e; omega)).mp h
      exact this
    rw [h2]
theorem keyOct_head (ks : List D) (hk : ∀ x ∈ ks, valOk x = true) : ∃ y r, keyOct ks = y :: r ∧ y < 3 := by
  cases ks with
  | nil => exact ⟨0, [], rfl, by decide⟩
  | cons k ks =>
    rw [keyOct_cons]
    have := hk k List.mem_cons_self
    cases k <;> simp [valOk] at this
    · exact ⟨1, _, rfl, by decide⟩
    · exact ⟨2, _, rfl, by decide⟩
/-- peeled off: what a key shares with values -/
theorem peel : ∀ (vs ks : List D) (r : List Int), (∀ x ∈ vs, valOk x = true) → (∀ x ∈ ks, valOk x = true) → keyOct ks = vs.flatMap octV ++ r → ∃ ks', ks = vs ++ ks' ∧ r = keyOct ks'
  | [], ks, r, _, _, h => ⟨ks, rfl, by simpa using h.symm⟩
  | v :: vs, [], r, hv, _, h => by
    obtain ⟨x, r', q, hx⟩ := octV_head (hv v List.mem_cons_self)
    rw [List.flatMap_cons, q] at h
    simp only [keyOct, List.flatMap_nil, List.nil_append, List.cons_append, List.cons.injEq] at h
    exact absurd h.1.symm hx
  | v :: vs, k :: ks, r, hv, hk, h => by
    rw [keyOct_cons, List.flatMap_cons, List.append_assoc] at h
    obtain ⟨h1, h2⟩ := octV_split (hk k List.mem_cons_self) (hv v List.mem_cons_self) h
    have e := octV_inj (hk k List.mem_cons_self) (hv v List.mem_cons_self) h1
    obtain ⟨ks', h3, h4⟩ := peel vs ks r (fun x hx => hv x (List.mem_cons_of_mem _ hx)) (fun x hx => hk x (List.mem_cons_of_mem _ hx)) h2
    exact ⟨ks', by rw [e, h3]; rfl, h4⟩
theorem keyOct_app (vs ks : List D) : keyOct (vs ++ ks) = vs.flatMap octV ++ keyOct ks := by simp [keyOct]
theorem keyOct_inj {ks es : List D} (hk : ∀ x ∈ ks, valOk x = true) (he : ∀ x ∈ es, valOk x = true) (h : keyOct ks = keyOct es) : ks = es := by
  have h' : keyOct ks = es.flatMap octV ++ [0] := h
  obtain ⟨ks', e, q⟩ := peel es ks [0] he hk h'
  cases ks' with
  | nil => simpa using e
  | cons x r =>
    rw [keyOct_cons] at q
    have hx : valOk x = true := hk x (by rw [e]; simp)
    obtain ⟨y, r', q2, hy⟩ := octV_head hx
    rw [q2] at q
    simp at q
    exact absurd q.1.symm hy
/-- the range of values -/
theorem range_values {vs ks : List D} (hv : ∀ x ∈ vs, valOk x = true) (hk : ∀ x ∈ ks, valOk x = true) : within (keyOct ks) (vs.flatMap octV) (vs.flatMap octV ++ [3]) = true ↔ ks.take vs.length = vs := by
  rw [within_iff]
  constructor
  · rintro ⟨r, e, _⟩
    obtain ⟨ks', h, _⟩ := peel vs ks r hv hk e
    rw [h]; simp
  · intro h
    have e : ks = vs ++ ks.drop vs.length := by
      have := (List.take_append_drop vs.length ks).symm
      rw [h] at this; exact this
    refine ⟨keyOct (ks.drop vs.length), by rw [← keyOct_app, ← e], fun y r' q => ?_⟩
    obtain ⟨z, r2, q2, hz⟩ := keyOct_head (ks.drop vs.length) fun x hx => hk x (List.mem_of_mem_drop hx)
    rw [q2] at q
    cases q
    exact hz
def ords (b : List Nat) : List Int := b.map fun (c : Nat) => (c : Int)
theorem ords_split : ∀ (b z : List Nat) (r u : List Int), (∀ c ∈ b, c ≠ 0) → ords z ++ 0 :: u = ords b ++ r → ∃ w, z = b ++ w ∧ r = ords w ++ 0 :: u
  | [], z, r, u, _, h => ⟨z, rfl, by simpa [ords] using h.symm⟩
  | c :: b, [], r, u, hb, h => by
    simp [ords] at h
    have := hb c List.mem_cons_self
    omega
  | c :: b, y :: z, r, u, hb, h => by
    simp only [ords, List.map_cons, List.cons_append, List.cons.injEq] at h
    obtain ⟨w, h1, h2⟩ := ords_split b z r u (fun x hx => hb x (List.mem_cons_of_mem _ hx)) h.2
    have e : y = c := by have := h.1; omega
    exact ⟨w, by rw [e, h1]; rfl, h2⟩
/-- the range of values and a beginning -/
theorem range_text {vs ks : List D} {b : List Nat} (hv : ∀ x ∈ vs, valOk x = true) (hk : ∀ x ∈ ks, valOk x = true) (hb : ∀ c ∈ b, c ≠ 0) (h127 : ∀ z, D.str z ∈ ks → ∀ c ∈ z, c < 127) :
    within (keyOct ks) (vs.flatMap octV ++ 2 :: ords b) (vs.flatMap octV ++ 2 :: ords b ++ [127]) = true ↔ ks.take vs.length = vs ∧ ∃ z, ks[vs.length]? = some (.str z) ∧ z.take b.length = b := by
  rw [within_iff]
  constructor
  · rintro ⟨r, e, _⟩
    rw [List.append_assoc] at e
    obtain ⟨ks', h, q⟩ := peel vs ks _ hv hk e
    refine ⟨by rw [h]; simp, ?_⟩
    cases ks' with
    | nil => simp [keyOct] at q
    | cons k ks' =>
      have hk1 : valOk k = true := hk k (by rw [h]; simp)
      cases k <;> simp [valOk] at hk1
      case int v => simp [keyOct_cons, octV] at q
      case str z =>
        rw [keyOct_cons] at q
        simp only [octV, List.cons_append, List.cons.injEq, true_and, List.append_assoc, List.nil_append] at q
        obtain ⟨w, h1, _⟩ := ords_split b z r (keyOct ks') hb q.symm
        exact ⟨z, by rw [h]; simp, by rw [h1]; simp⟩
  · rintro ⟨h, z, h1, h2⟩
    have e : ks = vs ++ ks.drop vs.length := by
      have := (List.take_append_drop vs.length ks).symm
      rw [h] at this; exact this
    have hlt : vs.length < ks.length := (List.getElem?_eq_some_iff.mp h1).1
    have e2 : ks.drop vs.length = .str z :: ks.drop (vs.length + 1) := by
      rw [List.drop_eq_getElem_cons hlt]
      rw [List.getElem?_eq_getElem hlt] at h1
      rw [Option.some.inj h1]
    have hz : z = b ++ z.drop b.length := by
      have := (List.take_append_drop b.length z).symm
      rw [h2] at this; exact this
    refine ⟨ords (z.drop b.length) ++ 0 :: keyOct (ks.drop (vs.length + 1)), ?_, fun y r' q => ?_⟩
    · have e3 : keyOct ks = vs.flatMap octV ++ keyOct (.str z :: ks.drop (vs.length + 1)) := by rw [← e2, ← keyOct_app, ← e]
      rw [e3, keyOct_cons]
      have e4 : octV (.str z) = 2 :: (ords z ++ [0]) := rfl
      have e5 : ords z = ords b ++ ords (z.drop b.length) := by
        unfold ords
        rw [← List.map_append, ← hz]
      rw [e4, e5]
      simp
    · have hm : D.str z ∈ ks := by
        rw [e, e2]; simp
      cases w : z.drop b.length with
      | nil =>
        rw [w] at q
        simp [ords] at q
        omega
      | cons c w' =>
        rw [w] at q
        simp [ords] at q
        have : c ∈ z := List.mem_of_mem_drop (by rw [w]; simp : c ∈ z.drop b.length)
        have := h127 z hm c this
        omega
/-- the range of one key -/
theorem range_key {vs ks : List D} (hv : ∀ x ∈ vs, valOk x = true) (hk : ∀ x ∈ ks, valOk x = true) : within (keyOct ks) (keyOct vs) (keyOct vs ++ [0]) = true ↔ ks = vs := by
  rw [within_iff]
  constructor
  · rintro ⟨r, e, h⟩
    cases r with
    | nil => exact keyOct_inj hk hv (by simpa using e)
    | cons y r =>
      have h1 := h y r rfl
      have : isOct y := keyOct_oct hk y (by rw [e]; simp)
      have := this.1
      omega
  · rintro rfl
    exact ⟨[], by simp, fun y r' q => by cases q⟩
end Ev
end
section
set_option maxRecDepth 100000
set_option maxHeartbeats 1000000
/-! K01a: functions that law k01 reaches. -/
namespace Ev
theorem add_ls {x y : List Int} (h : x.length + y.length ≤ line) : binD .add (lsI x) (lsI y) = some (.tmp (lsI (x ++ y))) := by
  simp [lsI, h]
theorem add_tp {x y : List Int} (h : x.length + y.length ≤ line) : binD .add (tpI x) (tpI y) = some (.d (tpI (x ++ y))) := by
  simp [tpI, h]
theorem ls_one {i : Int} : D.lst [.int i] = lsI [i] := rfl
theorem tp_one {i : Int} : D.tup [.int i] = tpI [i] := rfl
theorem tuple_ls {x : List Int} : blt1 .tuple (lsI x) = some (.d (tpI x)) := rfl
section
variable {P : Pg} {n : Nat} {s : Sto}
theorem lcOrd4 {z : List Nat} (hz : z.length ≤ 1000) {d0 b1 b3 : Sl} : evE P (callN P n) (.lc (.blt .ord [(.v 4)]) (.nm 4) [4] .seq [(.v 2)] []) ⟨[d0, b1, .dat (.str z), b3, .no], s⟩ = .ok (.tmp (lsI (ords z))) ⟨[d0, b1, .dat (.str z), b3, .no], s⟩ := by
  have hl : z.length ≤ line := line_big (by omega)
  rw [ev_lc]
  simp only [evs_cons, evs_nil, ev_v, get_mk, getS_zero, getS_succ, bind_ok, List.map_cons, List.map_nil, rd_d, wk_s, if_pos hl, ofO_some]
  rw [doLc_map (fun x => match x with
    | .str [c] => .int c
    | _ => .non) (by simpa using hl) (by simp [isOwn]) ?_]
  · simp [Function.comp_def, lsI, ords]
  · intro x hx
    obtain ⟨c, hc, rfl⟩ := List.mem_map.mp hx
    simp [lcF, noex]
theorem lcUnit {o : Int} {d0 b1 b4 : Sl} : evE P (callN P n) (.lc (.bin .mod (.bin .fdiv (.blt .int [(.v 2)]) (.v 3)) (.i 256)) (.nm 3) [3] .seq [(.tup [(.i 65536), (.i 256), (.i 1)])] []) ⟨[d0, b1, .dat (.int o), .no, b4], s⟩ = .ok (.tmp (lsI [o / 65536 % 256, o / 256 % 256, o / 1 % 256])) ⟨[d0, b1, .dat (.int o), .no, b4], s⟩ := by
  rw [ev_lc]
  simp only [evs_cons, evs_nil, ev_tup, ev_i, bind_ok, List.map_cons, List.map_nil, rd_d, wk_t, ofO_some, frzs_cons, frzs_nil, frz_d]
  rw [doLc_map (fun x => match x with
      | .int u => .int (o / u % 256)
      | _ => .non) (line_big (by simp)) (by simp [isOwn]) ?_]
  · rfl
  · intro x hx
    have h1 : ∃ u : Int, x = .int u ∧ 0 < u ∧ u < 1073741824 := by
      simp only [List.mem_cons, List.not_mem_nil, or_false] at hx
      rcases hx with rfl | rfl | rfl
      · exact ⟨_, rfl, by decide, by decide⟩
      · exact ⟨_, rfl, by decide, by decide⟩
      · exact ⟨_, rfl, by decide, by decide⟩
    obtain ⟨u, rfl, h2, h3⟩ := h1
    simp [lcF, noex, h2, h3]
def body22 : List S := [.ife (.isi (.v 2) .str)
      [.asg (.nm 1) (.bin .add (.bin .add (.bin .add (.v 1) (.lst [(.i 2)])) (.lc (.blt .ord [(.v 4)]) (.nm 4) [4] .seq [(.v 2)] [])) (.lst [(.i 0)]))]
      [.asg (.nm 1) (.bin .add (.bin .add (.v 1) (.lst [(.i 1)])) (.lc (.bin .mod (.bin .fdiv (.blt .int [(.v 2)]) (.v 3)) (.i 256)) (.nm 3) [3] .seq [(.tup [(.i 65536), (.i 256), (.i 1)])] []))]]
theorem turn22 {d0 : Sl} {x : D} (hx : valOk x = true) {acc : List Int} (hl : acc.length + 1002 ≤ line) : evSs P (callN P n) body22 ⟨[d0, .own (lsI acc), .dat x, .no, .no], s⟩ = .ok .nx ⟨[d0, .own (lsI (acc ++ octV x)), .dat x, .no, .no], s⟩ := by
  cases x <;> simp [valOk] at hx
  case int v =>
    have e := lcUnit (P := P) (n := n) (s := s) (o := v) (d0 := d0) (b1 := .own (lsI acc)) (b4 := .no)
    have l1 : acc.length + 1 ≤ line := by omega
    have l2 : acc.length + 1 + 3 ≤ line := by omega
    have v1 : v / 65536 % 256 = v / 65536 := by omega
    have v3 : v / 1 % 256 = v % 256 := by omega
    have o1 : octV (.int v) = [1] ++ [v / 65536 % 256, v / 256 % 256, v / 1 % 256] := by rw [v1, v3]; rfl
    rw [o1]
    unfold body22
    generalize hw : ([v / 65536 % 256, v / 256 % 256, v / 1 % 256] : List Int) = w at *
    have hw3 : w.length = 3 := by rw [← hw]; rfl
    have l1 : acc.length + [(1 : Int)].length ≤ line := by simp only [List.length_cons, List.length_nil]; omega
    have l2 : (acc ++ [1]).length + w.length ≤ line := by simp only [List.length_append, List.length_cons, List.length_nil]; omega
    simp only [ess_cons, ess_nil, es_ife, evt_isi, ev_v, get_mk, getS_zero, getS_succ, bind_ok, doIsi_eq, rd_d, rd_bor, rd_tmp, isi_i, Option.map_some, ofO_some, asB_eq, tru_b, es_asg, ev_bin, ev_lst, evs_cons, evs_nil, ev_i, List.map_cons, List.map_nil, frzs_cons, frzs_nil, frz_d, ls_one, add_ls l1, e, add_ls l2, lay_tmp, set_mk, setS_succ, setS_zero, nxt_nx, List.append_assoc, decide_eq_true_eq, reduceCtorEq, decide_false, Bool.false_eq_true, if_false]
  case str z =>
    have e := lcOrd4 (P := P) (n := n) (s := s) (z := z) hx.1 (d0 := d0) (b1 := .own (lsI acc)) (b3 := .no)
    have hz := hx.1
    have ho : (ords z).length = z.length := by simp [ords]
    have o1 : octV (.str z) = [2] ++ (ords z ++ [0]) := rfl
    have l1 : acc.length + [(2 : Int)].length ≤ line := by simp only [List.length_cons, List.length_nil]; omega
    have l2 : (acc ++ [2]).length + (ords z).length ≤ line := by simp only [List.length_append, List.length_cons, List.length_nil]; omega
    have l3 : (acc ++ [2] ++ ords z).length + [(0 : Int)].length ≤ line := by simp only [List.length_append, List.length_cons, List.length_nil]; omega
    unfold body22
    rw [o1]
    simp only [ess_cons, ess_nil, es_ife, evt_isi, ev_v, get_mk, getS_zero, getS_succ, bind_ok, doIsi_eq, rd_d, rd_bor, rd_tmp, isi_s, Option.map_some, ofO_some, asB_eq, tru_b, es_asg, ev_bin, ev_lst, evs_cons, evs_nil, ev_i, List.map_cons, List.map_nil, frzs_cons, frzs_nil, frz_d, ls_one, add_ls l1, e, add_ls l2, add_ls l3, lay_tmp, set_mk, setS_succ, setS_zero, nxt_nx, decide_true, if_true]
    simp only [List.append_assoc]
theorem loop22 {d0 : Sl} : ∀ (xs : List D) (acc : List Int) (v : Sl), (∀ x ∈ xs, valOk x = true) → acc.length + 1002 * xs.length ≤ line →
    ∃ v', forL (.nm 2) (evSs P (callN P n) body22) xs ⟨[d0, .own (lsI acc), v, .no, .no], s⟩ = .ok .nx ⟨[d0, .own (lsI (acc ++ xs.flatMap octV)), v', .no, .no], s⟩
  | [], acc, v, _, _ => ⟨v, by simp [forL]⟩
  | x :: xs, acc, v, hx, hl => by
    have h := hx x List.mem_cons_self
    have ho := octV_len h
    simp only [List.length_cons] at hl
    obtain ⟨v', e⟩ := loop22 (d0 := d0) xs (acc ++ octV x) (.dat x) (fun y hy => hx y (List.mem_cons_of_mem _ hy)) (by simp only [List.length_append]; omega)
    refine ⟨v', ?_⟩
    unfold forL
    simp only [tgt_nm, set_mk, setS_succ, setS_zero]
    rw [turn22 h (by omega), bind_ok]
    simp only [List.flatMap_cons, ← List.append_assoc]
    exact e
theorem call22 (h22 : P.fns 22 = some f22) {vs : List D} (hv : ∀ x ∈ vs, valOk x = true) (hl : vs.length ≤ 1000) : callN P (n + 1) 22 [.tup vs] s = .ok (.d (tpI (vs.flatMap octV))) s := by
  rw [call_eq h22 rfl]
  have e0 : startL f22.nl [.tup vs] = [.dat (.tup vs), .no, .no, .no, .no] := rfl
  have eb : f22.body = [.asg (.nm 1) (.lst []), .forr (.nm 2) .seq [(.v 0)] body22, .ret (.blt .tuple [(.v 1)])] := rfl
  rw [e0, eb]
  obtain ⟨v', e⟩ := loop22 (P := P) (n := n) (s := s) (d0 := .dat (.tup vs)) vs [] .no hv (line_big (by simp only [List.length_nil]; omega))
  rw [List.nil_append] at e
  rw [step (c' := ⟨[.dat (.tup vs), .own (lsI []), .no, .no, .no], s⟩) (by simp [lsI])]
  rw [step (c' := ⟨[.dat (.tup vs), .own (lsI (vs.flatMap octV)), v', .no, .no], s⟩) ?_]
  · simp [tuple_ls]
  · simp only [es_forr, evs_cons, evs_nil, ev_v, get_mk, getS_zero, bind_ok, doFor, List.map_cons, List.map_nil, rd_d, wk_t, ofO_some, keepsV_d, keepsV_nil, if_true]
    exact e
structure Has1 (P : Pg) : Prop where
  p0 : P.fns 0 = some f0
  p1 : P.fns 1 = some f1
  p2 : P.fns 2 = some f2
  p3 : P.fns 3 = some f3
  p4 : P.fns 4 = some f4
  p5 : P.fns 5 = some f5
  p22 : P.fns 22 = some f22
  p23 : P.fns 23 = some f23
  p24 : P.fns 24 = some f24
  p25 : P.fns 25 = some f25
  p26 : P.fns 26 = some f26
theorem call24 (H : Has1 P) {vs : List D} (hv : ∀ x ∈ vs, valOk x = true) (hl : vs.length ≤ 1000) : callN P (n + 3) 24 [.tup vs] s = .ok (.d (.tup [tpI (vs.flatMap octV), tpI (vs.flatMap octV ++ [3])])) s := by
  rw [call_eq H.p24 rfl]
  have e0 : startL f24.nl [.tup vs] = [.dat (.tup vs), .no] := rfl
  have eb : f24.body = b24 := rfl
  rw [e0, eb]
  have e := call2 (n := n) (s := s) H.p1 H.p2 hv hl
  have hf := flat_len hv
  have l1 : (vs.flatMap octV).length + [(3 : Int)].length ≤ line := line_big (by simp only [List.length_cons, List.length_nil]; omega)
  have fr : (Rv.d (tpI (vs.flatMap octV))).free = true := flatA_ints _
  unfold b24
  simp only [ess_cons, ess_nil, es_asg, ev_call, evs_cons, evs_nil, ev_v, get_mk, getS_zero, getS_succ, bind_ok, doCall_eq, List.map_cons, List.map_nil, rd_d, e, called_ok, vl_d, fr, if_true, lay_d, set_mk, setS_succ, setS_zero, nxt_nx, es_ret, ev_tup, ev_bin, ev_i, frzs_cons, frzs_nil, frz_d, tp_one, add_tp l1, ofO_some, rv_d, nxt_rt, endR_rt]
theorem call25 (H : Has1 P) {vs : List D} (hv : ∀ x ∈ vs, valOk x = true) (hl : vs.length ≤ 1000) : callN P (n + 4) 25 [.tup vs] s = .ok (.d (.tup [tpI (keyOct vs), tpI (keyOct vs ++ [0])])) s := by
  rw [call_eq H.p25 rfl]
  have e0 : startL f25.nl [.tup vs] = [.dat (.tup vs), .no] := rfl
  have eb : f25.body = b25 := rfl
  rw [e0, eb]
  have e := call3 (n := n) (s := s) H.p1 H.p2 H.p3 hv hl
  have hf := flat_len hv
  have lk : (keyOct vs).length = (vs.flatMap octV).length + 1 := by simp only [keyOct, List.length_append, List.length_cons, List.length_nil]
  have l1 : (keyOct vs).length + [(0 : Int)].length ≤ line := line_big (by simp only [List.length_cons, List.length_nil]; omega)
  have fr : (Rv.d (tpI (keyOct vs))).free = true := flatA_ints _
  unfold b25
  simp only [ess_cons, ess_nil, es_asg, ev_call, evs_cons, evs_nil, ev_v, get_mk, getS_zero, getS_succ, bind_ok, doCall_eq, List.map_cons, List.map_nil, rd_d, e, called_ok, vl_d, fr, if_true, lay_d, set_mk, setS_succ, setS_zero, nxt_nx, es_ret, ev_tup, ev_bin, ev_i, frzs_cons, frzs_nil, frz_d, tp_one, add_tp l1, ofO_some, rv_d, nxt_rt, endR_rt]
theorem lcOrd3 {z : List Nat} (hz : z.length ≤ 1000) {d0 b2 : Sl} : evE P (callN P n) (.lc (.blt .ord [(.v 3)]) (.nm 3) [3] .seq [(.v 1)] []) ⟨[d0, .dat (.str z), b2, .no], s⟩ = .ok (.tmp (lsI (ords z))) ⟨[d0, .dat (.str z), b2, .no], s⟩ := by
  have hl : z.length ≤ line := line_big (by omega)
  rw [ev_lc]
  simp only [evs_cons, evs_nil, ev_v, get_mk, getS_zero, getS_succ, bind_ok, List.map_cons, List.map_nil, rd_d, wk_s, if_pos hl, ofO_some]
  rw [doLc_map (fun x => match x with
    | .str [c] => .int c
    | _ => .non) (by simpa using hl) (by simp [isOwn]) ?_]
  · simp [Function.comp_def, lsI, ords]
  · intro x hx
    obtain ⟨c, hc, rfl⟩ := List.mem_map.mp hx
    simp [lcF, noex]
theorem call23 (H : Has1 P) {vs : List D} {z : List Nat} (hv : ∀ x ∈ vs, valOk x = true) (hl : vs.length ≤ 1000) (hz : z.length ≤ 1000) : callN P (n + 3) 23 [.tup vs, .str z] s = .ok (.d (.tup [tpI (vs.flatMap octV ++ 2 :: ords z), tpI (vs.flatMap octV ++ 2 :: ords z ++ [127])])) s := by
  rw [call_eq H.p23 rfl]
  have e0 : startL f23.nl [.tup vs, .str z] = [.dat (.tup vs), .dat (.str z), .no, .no] := rfl
  have eb : f23.body = b23 := rfl
  rw [e0, eb]
  have e := call2 (n := n) (s := s) H.p1 H.p2 hv hl
  have e3 := lcOrd3 (P := P) (n := n + 2) (s := s) hz (d0 := .dat (.tup vs)) (b2 := .no)
  have hf := flat_len hv
  have ho : (ords z).length = z.length := by simp [ords]
  have l1 : (vs.flatMap octV).length + [(2 : Int)].length ≤ line := line_big (by simp only [List.length_cons, List.length_nil]; omega)
  have l2 : (vs.flatMap octV ++ [2]).length + (ords z).length ≤ line := line_big (by simp only [List.length_append, List.length_cons, List.length_nil]; omega)
  have l3 : (vs.flatMap octV ++ [2] ++ ords z).length + [(127 : Int)].length ≤ line := line_big (by simp only [List.length_append, List.length_cons, List.length_nil]; omega)
  have fr : (Rv.d (tpI (vs.flatMap octV))).free = true := flatA_ints _
  have ea : vs.flatMap octV ++ 2 :: ords z = vs.flatMap octV ++ [2] ++ ords z := by simp
  rw [ea]
  unfold b23
  simp only [ess_cons, ess_nil, es_asg, ev_call, evs_cons, evs_nil, ev_v, get_mk, getS_zero, getS_succ, bind_ok, doCall_eq, List.map_cons, List.map_nil, rd_d, rd_tmp, e, called_ok, vl_d, fr, if_true, lay_d, set_mk, setS_succ, setS_zero, nxt_nx, es_ret, ev_tup, ev_bin, ev_i, ev_blt, doBlt_eq, blt_one, e3, tuple_ls, frzs_cons, frzs_nil, frz_d, tp_one, add_tp l1, add_tp l2, add_tp l3, ofO_some, rv_d, nxt_rt, endR_rt]
theorem lt_tp (xs ys : List Int) : ltD (tpI xs) (tpI ys) = some (lexLt xs ys) := by
  show (match ints? (xs.map D.int), ints? (ys.map D.int) with
    | some a, some b => some (lexLt a b)
    | _, _ => none) = _
  rw [ints_tI, ints_tI]
theorem at2_0 (x y : D) : atI [x, y] 0 = some x := rfl
theorem at2_1 (x y : D) : atI [x, y] 1 = some y := rfl
theorem call26 (H : Has1 P) {ks : List D} {a b : List Int} (hk : ∀ x ∈ ks, valOk x = true) (hl : ks.length ≤ 1000) : callN P (n + 4) 26 [.tup ks, .tup [tpI a, tpI b]] s = .ok (.d (.bl (within (keyOct ks) a b))) s := by
  rw [call_eq H.p26 rfl]
  have e0 : startL f26.nl [.tup ks, .tup [tpI a, tpI b]] = [.dat (.tup ks), .dat (.tup [tpI a, tpI b])] := rfl
  have eb : f26.body = b26 := rfl
  rw [e0, eb]
  have e := call3 (n := n) (s := s) H.p1 H.p2 H.p3 hk hl
  have fr : (Rv.d (tpI (keyOct ks))).free = true := flatA_ints _
  unfold b26 within
  simp only [ess_cons, ess_nil, es_ret, ev_chain, ev_ix, ev_v, ev_i, ev_call, evs_cons, evs_nil, get_mk, getS_zero, getS_succ, bind_ok, doIx_eq, rd_d, ix_t, at2_0, at2_1, Option.map_some, ofO_some, doCall_eq, List.map_cons, List.map_nil, e, called_ok, vl_d, fr, if_true, c_le, c_lt, lt_tp]
  cases lexLt (keyOct ks) a <;> simp
end
end Ev
end
section
set_option maxRecDepth 100000
set_option maxHeartbeats 1000000
/-! Ev16: reckoning from the left: what is still to come has a name and is left alone. -/
namespace Ev
@[simp] theorem okMul_l {i j : Int} (h : (decide (-(2 ^ 64) < i) && decide (i < 2 ^ 64)) = true) : okMul i j = true := by unfold okMul; rw [h, Bool.true_or]
section
variable (P : Pg) (call : CallT)
def kBin2 (o : BOp) (a : Vl) (b : Vl) (c : C) : R Vl := ofO (binD o a.rd b.rd) c
def kBin (o : BOp) (y : E) (a : Vl) (c : C) : R Vl := (evE P call y c).bind (kBin2 o a)
def kNeg (a : Vl) (c : C) : R Vl := match a.rd with
  | .int i => .ok (.d (.int (-i))) c
  | _ => .st
def kCmp2 (o : COp) (a : Vl) (b : Vl) (c : C) : R Vl := ofO ((cmpD o a.rd b.rd).map fun t => .d (.bl t)) c
def kCmp (o : COp) (y : E) (a : Vl) (c : C) : R Vl := (evE P call y c).bind (kCmp2 o a)
def kCh3 (p : COp) (z : E) (b : Vl) (t : Bool) (c : C) : R Vl := if t then (evE P call z c).bind (kCmp2 p b) else .ok (.d (.bl false)) c
def kCh2 (o p : COp) (z : E) (a : Vl) (b : Vl) (c : C) : R Vl := (ofO (cmpD o a.rd b.rd) c).bind (kCh3 P call p z b)
def kCh (o p : COp) (y z : E) (a : Vl) (c : C) : R Vl := (evE P call y c).bind (kCh2 P call o p z a)
def kAnd (y : E) (a : Vl) (c : C) : R Vl := match a.rd with
  | .bl true => evE P call y c
  | .bl false => .ok (.d (.bl false)) c
  | _ => .st
def kOr (y : E) (a : Vl) (c : C) : R Vl := match a.rd with
  | .bl true => .ok (.d (.bl true)) c
  | .bl false => evE P call y c
  | _ => .st
def kNot (a : Vl) (c : C) : R Vl := match a.rd with
  | .bl t => .ok (.d (.bl !t)) c
  | _ => .st
def kIte (x y : E) (b : Bool) (c : C) : R Vl := if b then evE P call x c else evE P call y c
def kIx (y : E) (a : Vl) (c : C) : R Vl := (evE P call y c).bind (doIx a)
def kSl3 (a : Vl) (l : Option Int) (h : Option Int) (c : C) : R Vl := ofO (slD a.rd l h) c
def kSl2 (hi : Option E) (a : Vl) (l : Option Int) (c : C) : R Vl := (evO P call hi c).bind (kSl3 a l)
def kSl (lo hi : Option E) (a : Vl) (c : C) : R Vl := (evO P call lo c).bind (kSl2 P call hi a)
def kRev (a : Vl) (c : C) : R Vl := match a.rd with
  | .lst xs => .ok (.tmp (.lst xs.reverse)) c
  | .tup xs => .ok (.d (.tup xs.reverse)) c
  | _ => .st
def kTup (vs : List Vl) (c : C) : R Vl := .ok (.d (.tup (vs.map Vl.rd))) (frzs vs c)
def kLst (vs : List Vl) (c : C) : R Vl := .ok (.tmp (.lst (vs.map Vl.rd))) (frzs vs c)
def kLc2 (e : E) (t : Tg) (vs : List Nat) (cs : List E) (its : List D) (c : C) : R Vl := doLc t vs (evTs P call cs) (evE P call e) its c
def kLc (e : E) (t : Tg) (vs : List Nat) (w : Wk) (cs : List E) (us : List Vl) (c : C) : R Vl := (ofO (wkD w (us.map Vl.rd)) c).bind (kLc2 P call e t vs cs)
def kEs2 (v : Vl) (vs : List Vl) (c : C) : R (List Vl) := .ok (v :: vs) c
def kEs (es : List E) (v : Vl) (c : C) : R (List Vl) := (evEs P call es c).bind (kEs2 v)
def kO (v : Vl) (c : C) : R (Option Int) := match v.rd with
  | .int i => .ok (some i) c
  | _ => .st
def kTand (y : E) (b : Bool) (c : C) : R Bool := if b then evT P call y c else .ok false c
def kTor (y : E) (b : Bool) (c : C) : R Bool := if b then .ok true c else evT P call y c
def kTnot (b : Bool) (c : C) : R Bool := .ok (!b) c
def kTcmp2 (o : COp) (a : Vl) (b : Vl) (c : C) : R Bool := ofO (cmpD o a.rd b.rd) c
def kTcmp (o : COp) (y : E) (a : Vl) (c : C) : R Bool := (evE P call y c).bind (kTcmp2 o a)
def kTch3 (p : COp) (z : E) (b : Vl) (t : Bool) (c : C) : R Bool := if t then (evE P call z c).bind (kTcmp2 p b) else .ok false c
def kTch2 (o p : COp) (z : E) (a : Vl) (b : Vl) (c : C) : R Bool := (ofO (cmpD o a.rd b.rd) c).bind (kTch3 P call p z b)
def kTch (o p : COp) (y z : E) (a : Vl) (c : C) : R Bool := (evE P call y c).bind (kTch2 P call o p z a)
def kIfe (a b : List S) (q : Bool) (c : C) : R Fl := if q then evSs P call a c else evSs P call b c
def kRet (v : Vl) (c : C) : R Fl := .ok (.rt (v.rv c)) c
def kExp (v : Vl) (c : C) : R Fl := .ok .nx c
def kSeq (r : List S) (f : Fl) (c : C) : R Fl := nxt f c (evSs P call r)
def kSet2 (i : Nat) (v : Vl) (x : E) (c : C) : R Fl := match c.get i with
    | .own (.lst _) => (evE P call x c).bind (doSet i v)
    | _ => .st
def kSet (i : Nat) (x : E) (v : Vl) (c : C) : R Fl := kSet2 P call i v x c
end
section
variable {P : Pg} {call : CallT} {c : C}
@[simp high] theorem deq_ii {i j : Int} : deq (.int i) (.int j) = decide (i = j) := by simp only [deq]; rfl
@[simp high] theorem deq_zz {x y : List Nat} : deq (.str x) (.str y) = decide (x = y) := by simp only [deq]; by_cases h : x = y <;> simp [h]
@[simp high] theorem deq_tt {x y : Bool} : deq (.bl x) (.bl y) = decide (x = y) := by simp only [deq]; rfl
@[simp] theorem shp_i {i : Int} : shp (.int i) = true := rfl
@[simp] theorem shp_s {i : List Nat} : shp (.str i) = true := rfl
@[simp] theorem shp_b {i : Bool} : shp (.bl i) = true := rfl
@[simp] theorem shp_n : shp .non = true := rfl
@[simp high] theorem lv_bin {o : BOp} {x y : E} : evE P call (.bin o x y) c = (evE P call x c).bind (kBin P call o y) := ev_bin
@[simp] theorem kq_bin {o : BOp} {y : E} {a : Vl} : kBin P call o y a c = (evE P call y c).bind (kBin2 o a) := rfl
@[simp] theorem kq_bin2 {o : BOp} {a b : Vl} : kBin2 o a b c = ofO (binD o a.rd b.rd) c := rfl
@[simp high] theorem lv_neg {x : E} : evE P call (.neg x) c = (evE P call x c).bind kNeg := ev_neg
@[simp] theorem kq_neg {a : Vl} : kNeg a c = match a.rd with
  | .int i => .ok (.d (.int (-i))) c
  | _ => .st := rfl
@[simp high] theorem lv_cmp {o : COp} {x y : E} : evE P call (.cmp o x y) c = (evE P call x c).bind (kCmp P call o y) := ev_cmp
@[simp] theorem kq_cmp {o : COp} {y : E} {a : Vl} : kCmp P call o y a c = (evE P call y c).bind (kCmp2 o a) := rfl
@[simp] theorem kq_cmp2 {o : COp} {a b : Vl} : kCmp2 o a b c = ofO ((cmpD o a.rd b.rd).map fun t => .d (.bl t)) c := rfl
@[simp high] theorem lv_chain {o p : COp} {x y z : E} : evE P call (.chain o p x y z) c = (evE P call x c).bind (kCh P call o p y z) := ev_chain
@[simp] theorem kq_ch {o p : COp} {y z : E} {a : Vl} : kCh P call o p y z a c = (evE P call y c).bind (kCh2 P call o p z a) := rfl
@[simp] theorem kq_ch2 {o p : COp} {z : E} {a b : Vl} : kCh2 P call o p z a b c = (ofO (cmpD o a.rd b.rd) c).bind (kCh3 P call p z b) := rfl
@[simp] theorem kq_ch3t {p : COp} {z : E} {b : Vl} : kCh3 P call p z b true c = (evE P call z c).bind (kCmp2 p b) := rfl
@[simp] theorem kq_ch3f {p : COp} {z : E} {b : Vl} : kCh3 P call p z b false c = .ok (.d (.bl false)) c := rfl
@[simp high] theorem lv_and {x y : E} : evE P call (.and x y) c = (evE P call x c).bind (kAnd P call y) := ev_and
@[simp] theorem kq_andt {y : E} : kAnd P call y (.d (.bl true)) c = evE P call y c := rfl
@[simp] theorem kq_andf {y : E} : kAnd P call y (.d (.bl false)) c = .ok (.d (.bl false)) c := rfl
@[simp high] theorem lv_or {x y : E} : evE P call (.or x y) c = (evE P call x c).bind (kOr P call y) := ev_or
@[simp] theorem kq_ort {y : E} : kOr P call y (.d (.bl true)) c = .ok (.d (.bl true)) c := rfl
@[simp] theorem kq_orf {y : E} : kOr P call y (.d (.bl false)) c = evE P call y c := rfl
@[simp high] theorem lv_not {x : E} : evE P call (.not x) c = (evE P call x c).bind kNot := ev_not
@[simp] theorem kq_not {t : Bool} : kNot (.d (.bl t)) c = .ok (.d (.bl !t)) c := rfl
@[simp high] theorem lv_ite {t x y : E} : evE P call (.ite t x y) c = (evT P call t c).bind (kIte P call x y) := ev_ite
@[simp] theorem kq_itet {x y : E} : kIte P call x y true c = evE P call x c := rfl
@[simp] theorem kq_itef {x y : E} : kIte P call x y false c = evE P call y c := rfl
@[simp high] theorem lv_ix {x y : E} : evE P call (.ix x y) c = (evE P call x c).bind (kIx P call y) := ev_ix
@[simp] theorem kq_ix {y : E} {a : Vl} : kIx P call y a c = (evE P call y c).bind (doIx a) := rfl
@[simp high] theorem lv_sl {x : E} {lo hi : Option E} : evE P call (.sl x lo hi) c = (evE P call x c).bind (kSl P call lo hi) := ev_sl
@[simp] theorem kq_sl {lo hi : Option E} {a : Vl} : kSl P call lo hi a c = (evO P call lo c).bind (kSl2 P call hi a) := rfl
@[simp] theorem kq_sl2 {hi : Option E} {a : Vl} {l : Option Int} : kSl2 P call hi a l c = (evO P call hi c).bind (kSl3 a l) := rfl
@[simp] theorem kq_sl3 {a : Vl} {l h : Option Int} : kSl3 a l h c = ofO (slD a.rd l h) c := rfl
@[simp high] theorem lv_rev {x : E} : evE P call (.rev x) c = (evE P call x c).bind kRev := ev_rev
@[simp] theorem kq_rev {a : Vl} : kRev a c = match a.rd with
  | .lst xs => .ok (.tmp (.lst xs.reverse)) c
  | .tup xs => .ok (.d (.tup xs.reverse)) c
  | _ => .st := rfl
@[simp high] theorem lv_tup {xs : List E} : evE P call (.tup xs) c = (evEs P call xs c).bind kTup := ev_tup
@[simp] theorem kq_tup {vs : List Vl} : kTup vs c = .ok (.d (.tup (vs.map Vl.rd))) (frzs vs c) := rfl
@[simp high] theorem lv_lst {xs : List E} : evE P call (.lst xs) c = (evEs P call xs c).bind kLst := ev_lst
@[simp] theorem kq_lst {vs : List Vl} : kLst vs c = .ok (.tmp (.lst (vs.map Vl.rd))) (frzs vs c) := rfl
theorem lv_lc {e : E} {t : Tg} {vs : List Nat} {w : Wk} {xs cs : List E} : evE P call (.lc e t vs w xs cs) c = (evEs P call xs c).bind (kLc P call e t vs w cs) := ev_lc
@[simp] theorem kq_lc {e : E} {t : Tg} {vs : List Nat} {w : Wk} {cs : List E} {us : List Vl} : kLc P call e t vs w cs us c = (ofO (wkD w (us.map Vl.rd)) c).bind (kLc2 P call e t vs cs) := rfl
@[simp] theorem kq_lc2 {e : E} {t : Tg} {vs : List Nat} {cs : List E} {its : List D} : kLc2 P call e t vs cs its c = doLc t vs (evTs P call cs) (evE P call e) its c := rfl
@[simp high] theorem lvs_cons {e : E} {es : List E} : evEs P call (e :: es) c = (evE P call e c).bind (kEs P call es) := evs_cons
@[simp] theorem kq_es {es : List E} {v : Vl} : kEs P call es v c = (evEs P call es c).bind (kEs2 v) := rfl
@[simp] theorem kq_es2 {v : Vl} {vs : List Vl} : kEs2 v vs c = .ok (v :: vs) c := rfl
@[simp high] theorem lvo_some {e : E} : evO P call (some e) c = (evE P call e c).bind kO := evo_some
@[simp] theorem kq_o {v : Vl} : kO v c = match v.rd with
  | .int i => .ok (some i) c
  | _ => .st := rfl
@[simp high] theorem lvt_and {x y : E} : evT P call (.and x y) c = (evT P call x c).bind (kTand P call y) := evt_and
@[simp] theorem kq_tandt {y : E} : kTand P call y true c = evT P call y c := rfl
@[simp] theorem kq_tandf {y : E} : kTand P call y false c = .ok false c := rfl
@[simp high] theorem lvt_or {x y : E} : evT P call (.or x y) c = (evT P call x c).bind (kTor P call y) := evt_or
@[simp] theorem kq_tort {y : E} : kTor P call y true c = .ok true c := rfl
@[simp] theorem kq_torf {y : E} : kTor P call y false c = evT P call y c := rfl
@[simp high] theorem lvt_not {x : E} : evT P call (.not x) c = (evT P call x c).bind kTnot := evt_not
@[simp] theorem kq_tnot {b : Bool} : kTnot b c = .ok (!b) c := rfl
@[simp high] theorem lvt_cmp {o : COp} {x y : E} : evT P call (.cmp o x y) c = (evE P call x c).bind (kTcmp P call o y) := evt_cmp
@[simp] theorem kq_tcmp {o : COp} {y : E} {a : Vl} : kTcmp P call o y a c = (evE P call y c).bind (kTcmp2 o a) := rfl
@[simp] theorem kq_tcmp2 {o : COp} {a b : Vl} : kTcmp2 o a b c = ofO (cmpD o a.rd b.rd) c := rfl
@[simp high] theorem lvt_chain {o p : COp} {x y z : E} : evT P call (.chain o p x y z) c = (evE P call x c).bind (kTch P call o p y z) := evt_chain
@[simp] theorem kq_tch {o p : COp} {y z : E} {a : Vl} : kTch P call o p y z a c = (evE P call y c).bind (kTch2 P call o p z a) := rfl
@[simp] theorem kq_tch2 {o p : COp} {z : E} {a b : Vl} : kTch2 P call o p z a b c = (ofO (cmpD o a.rd b.rd) c).bind (kTch3 P call p z b) := rfl
@[simp] theorem kq_tch3t {p : COp} {z : E} {b : Vl} : kTch3 P call p z b true c = (evE P call z c).bind (kTcmp2 p b) := rfl
@[simp] theorem kq_tch3f {p : COp} {z : E} {b : Vl} : kTch3 P call p z b false c = .ok false c := rfl
@[simp high] theorem lvt_ix {x y : E} : evT P call (.ix x y) c = ((evE P call x c).bind (kIx P call y)).bind asB := evt_ix
@[simp high] theorem ls_ife {t : E} {a b : List S} : evS P call (.ife t a b) c = (evT P call t c).bind (kIfe P call a b) := es_ife
@[simp] theorem kq_ifet {a b : List S} : kIfe P call a b true c = evSs P call a c := rfl
@[simp] theorem kq_ifef {a b : List S} : kIfe P call a b false c = evSs P call b c := rfl
@[simp high] theorem ls_ret {e : E} : evS P call (.ret e) c = (evE P call e c).bind kRet := es_ret
@[simp] theorem kq_ret {v : Vl} : kRet v c = .ok (.rt (v.rv c)) c := rfl
@[simp high] theorem ls_exp {e : E} : evS P call (.exp e) c = (evE P call e c).bind kExp := es_exp
@[simp] theorem kq_exp {v : Vl} : kExp v c = .ok .nx c := rfl
@[simp high] theorem ls_setix {i : Nat} {x y : E} : evS P call (.setix i x y) c = (evE P call y c).bind (kSet P call i x) := es_setix
@[simp] theorem kq_set {i : Nat} {x : E} {v : Vl} : kSet P call i x v c = kSet2 P call i v x c := rfl
@[simp] theorem kq_set2 {i : Nat} {x : E} {v : Vl} : kSet2 P call i v x c = match c.get i with
    | .own (.lst _) => (evE P call x c).bind (doSet i v)
    | _ => .st := rfl
@[simp high] theorem lss_cons {a : S} {r : List S} : evSs P call (a :: r) c = (evS P call a c).bind (kSeq P call r) := ess_cons
@[simp] theorem kq_seq {r : List S} {f : Fl} : kSeq P call r f c = nxt f c (evSs P call r) := rfl
end
end Ev
end
section
set_option maxRecDepth 100000
set_option maxHeartbeats 1000000
/-! Ev17: comparing data; a law's own loop. -/
namespace Ev
mutual
/-- plain data without truth values -/
def nob : D → Bool
  | .non => true
  | .int _ => true
  | .str _ => true
  | .tup xs => nobs xs
  | .lst xs => nobs xs
  | _ => false
def nobs : List D → Bool
  | [] => true
  | x :: xs => nob x && nobs xs
end
mutual
theorem nob_pln : ∀ {x : D}, nob x = true → pln x = true
  | .non, _ => rfl
  | .int _, _ => rfl
  | .str _, _ => rfl
  | .tup xs, h => by simp only [nob] at h; simp only [pln, nobs_pln h]
  | .lst xs, h => by simp only [nob] at h; simp only [pln, nobs_pln h]
  | .bl _, h => by simp [nob] at h
  | .dct _ _, h => by simp [nob] at h
  | .obj _ _, h => by simp [nob] at h
  | .ins _, h => by simp [nob] at h
  | .fn _ _, h => by simp [nob] at h
theorem nobs_pln : ∀ {xs : List D}, nobs xs = true → plnA xs = true
  | [], _ => rfl
  | x :: xs, h => by
    simp only [nobs, Bool.and_eq_true] at h
    simp only [plnA, nob_pln h.1, nobs_pln h.2, Bool.and_self]
end
mutual
theorem deq_iff : ∀ {x y : D}, nob x = true → nob y = true → (deq x y = true ↔ x = y)
  | .non, y, _, hy => by cases y <;> simp_all [deq, nob]
  | .int i, y, _, hy => by cases y <;> simp_all [deq, nob]
  | .str i, y, _, hy => by cases y <;> simp_all [deq, nob]
  | .tup xs, y, hx, hy => by
    cases y with
    | tup ys =>
      simp only [nob] at hx hy
      simp only [deq, deqs_iff hx hy, D.tup.injEq]
    | _ => simp_all [deq, nob]
  | .lst xs, y, hx, hy => by
    cases y with
    | lst ys =>
      simp only [nob] at hx hy
      simp only [deq, deqs_iff hx hy, D.lst.injEq]
    | _ => simp_all [deq, nob]
  | .bl _, _, h, _ => by simp [nob] at h
  | .dct _ _, _, h, _ => by simp [nob] at h
  | .obj _ _, _, h, _ => by simp [nob] at h
  | .ins _, _, h, _ => by simp [nob] at h
  | .fn _ _, _, h, _ => by simp [nob] at h
theorem deqs_iff : ∀ {xs ys : List D}, nobs xs = true → nobs ys = true → (deqs xs ys = true ↔ xs = ys)
  | [], [], _, _ => by simp [deqs]
  | [], y :: ys, _, _ => by simp [deqs]
  | x :: xs, [], _, _ => by simp [deqs]
  | x :: xs, y :: ys, hx, hy => by
    simp only [nobs, Bool.and_eq_true] at hx hy
    simp only [deqs, Bool.and_eq_true, deq_iff hx.1 hy.1, deqs_iff hx.2 hy.2, List.cons.injEq]
end
mutual
theorem deq_refl : ∀ {x : D}, pln x = true → deq x x = true
  | .non, _ => by simp [deq]
  | .bl _, _ => by simp [deq]
  | .int _, _ => by simp [deq]
  | .str _, _ => by simp [deq]
  | .tup xs, h => by simp only [pln] at h; simp only [deq, deqs_refl h]
  | .lst xs, h => by simp only [pln] at h; simp only [deq, deqs_refl h]
  | .dct _ _, h => by simp [pln] at h
  | .obj _ _, h => by simp [pln] at h
  | .ins _, h => by simp [pln] at h
  | .fn _ _, h => by simp [pln] at h
theorem deqs_refl : ∀ {xs : List D}, plnA xs = true → deqs xs xs = true
  | [], _ => by simp [deqs]
  | x :: xs, h => by
    simp only [plnA, Bool.and_eq_true] at h
    simp only [deqs, deq_refl h.1, deqs_refl h.2, Bool.and_self]
end
theorem plnA_app : ∀ a b : List D, plnA (a ++ b) = (plnA a && plnA b)
  | [], b => rfl
  | x :: a, b => by simp [plnA, plnA_app a b, Bool.and_assoc]
theorem depA_app : ∀ a b : List D, depA (a ++ b) = max (depA a) (depA b)
  | [], b => by simp [depA]
  | x :: a, b => by simp [depA, depA_app a b, Nat.max_assoc]
theorem nobs_app : ∀ a b : List D, nobs (a ++ b) = (nobs a && nobs b)
  | [], b => rfl
  | x :: a, b => by simp [nobs, nobs_app a b, Bool.and_assoc]
theorem flatA_all {xs : List D} (h : ∀ x ∈ xs, flat x = true) : flatA xs = true := by
  induction xs with
  | nil => rfl
  | cons x xs ih => simp only [flatA, h x List.mem_cons_self, ih fun y hy => h y (List.mem_cons_of_mem _ hy), Bool.and_self]
theorem plnA_all {xs : List D} (h : ∀ x ∈ xs, pln x = true) : plnA xs = true := by
  induction xs with
  | nil => rfl
  | cons x xs ih => simp only [plnA, h x List.mem_cons_self, ih fun y hy => h y (List.mem_cons_of_mem _ hy), Bool.and_self]
theorem nobs_all {xs : List D} (h : ∀ x ∈ xs, nob x = true) : nobs xs = true := by
  induction xs with
  | nil => rfl
  | cons x xs ih => simp only [nobs, h x List.mem_cons_self, ih fun y hy => h y (List.mem_cons_of_mem _ hy), Bool.and_self]
theorem depA_all {xs : List D} {k : Nat} (h : ∀ x ∈ xs, dep x ≤ k) : depA xs ≤ k := by
  induction xs with
  | nil => exact Nat.zero_le _
  | cons x xs ih =>
    simp only [depA]
    exact Nat.max_le.mpr ⟨h x List.mem_cons_self, ih fun y hy => h y (List.mem_cons_of_mem _ hy)⟩
theorem shp_of {x : D} (h : pln x = true) (h2 : dep x ≤ 64) : shp x = true := by simp [shp, h, h2]
/-- a law's loop over the script: the first name stays, the second one is the cell, the others may be anything -/
theorem law_loop {body : C → R Fl} {N : Nat} {s : Sto} (a : Sl) (h : ∀ (k : Int) (ws : List Sl), ws.length = N → ∃ ws', ws'.length = N ∧ body ⟨a :: .dat (.int k) :: ws, s⟩ = .ok .nx ⟨a :: .dat (.int k) :: ws', s⟩) :
    ∀ (ns : List Int) (ws : List Sl), ws.length = N + 1 → ∃ ws', ws'.length = N + 1 ∧ forL (.nm 1) body (ns.map .int) ⟨a :: ws, s⟩ = .ok .nx ⟨a :: ws', s⟩
  | [], ws, hw => ⟨ws, hw, rfl⟩
  | k :: ns, w :: ws, hw => by
    obtain ⟨ws1, h1, e1⟩ := h k ws (by simpa using hw)
    obtain ⟨ws2, h2, e2⟩ := law_loop a h ns (.dat (.int k) :: ws1) (by simp [h1])
    refine ⟨ws2, h2, ?_⟩
    simp only [List.map_cons]
    unfold forL
    show ((body ⟨a :: .dat (.int k) :: ws, s⟩).bind fun f c => match f with
      | .nx => forL (.nm 1) body (ns.map .int) c
      | .ct => forL (.nm 1) body (ns.map .int) c
      | .bk => .ok .nx c
      | .rt v => .ok (.rt v) c) = _
    rw [e1, bind_ok]
    exact e2
/-- the common form of a law: a loop over the script, then True -/
theorem law_run {P : Pg} {n g N : Nat} {f : Fn} {b : List S} (hf : P.fns g = some f) (hp : f.np = 1) (hn : f.nl = N + 2) (hb : f.body = [.forr (.nm 1) .seq [(.v 0)] b, .ret (.b true)]) (ns : List Int)
    (h : ∀ (k : Int) (ws : List Sl), ws.length = N → ∃ ws', ws'.length = N ∧ evSs P (callN P n) b ⟨.dat (.lst (ns.map .int)) :: .dat (.int k) :: ws, []⟩ = .ok .nx ⟨.dat (.lst (ns.map .int)) :: .dat (.int k) :: ws', []⟩) :
    ∃ s, callN P (n + 1) g [.lst (ns.map .int)] [] = .ok (.d (.bl true)) s := by
  refine ⟨[], ?_⟩
  have e0 : startL f.nl [.lst (ns.map D.int)] = .dat (.lst (ns.map .int)) :: List.replicate (N + 1) .no := by
    rw [hn]
    simp [startL]
  rw [call_eq hf (by rw [hp]; rfl), hb, e0]
  obtain ⟨ws', h1, e⟩ := law_loop (.dat (.lst (ns.map .int))) h ns (List.replicate (N + 1) .no) (by simp)
  rw [step (c' := ⟨.dat (.lst (ns.map .int)) :: ws', []⟩) ?_]
  · simp
  · simp only [es_forr, evs_cons, evs_nil, ev_v, get_mk, getS_zero, bind_ok, doFor, List.map_cons, List.map_nil, rd_d]
    show (ofO (some (ns.map D.int)) _).bind _ = _
    rw [ofO_some, bind_ok]
    have : keepsV [.forr (.nm 1) .seq [] b] [.d (.lst (ns.map D.int))] = true := rfl
    rw [this, if_pos rfl]
    exact e
end Ev
end
section
set_option maxRecDepth 100000
set_option maxHeartbeats 1000000
/-! Ev18: loops that may stop; more rules from the left. -/
namespace Ev
theorem forL_stop {t : Tg} {body : C → R Fl} {v : Rv} (p : D → Bool) (I J : C → Prop) : ∀ (xs : List D), (∀ x ∈ xs, ∀ c, I c → ∃ c1, tgt t x c = some c1 ∧ if p x = true then ∃ c2, body c1 = .ok .nx c2 ∧ I c2 else ∃ c2, body c1 = .ok (.rt v) c2 ∧ J c2) →
    ∀ c, I c → if xs.all p = true then ∃ c', forL t body xs c = .ok .nx c' ∧ I c' else ∃ c', forL t body xs c = .ok (.rt v) c' ∧ J c'
  | [], _, c, hc => by simp only [List.all_nil, if_true]; exact ⟨c, rfl, hc⟩
  | x :: xs, h, c, hc => by
    obtain ⟨c1, e1, hb⟩ := h x List.mem_cons_self c hc
    by_cases hp : p x = true
    · rw [if_pos hp] at hb
      obtain ⟨c2, e2, h2⟩ := hb
      have ih := forL_stop p I J xs (fun y hy => h y (List.mem_cons_of_mem _ hy)) c2 h2
      simp only [List.all_cons, hp, Bool.true_and]
      unfold forL
      rw [e1]
      simp only [e2, bind_ok]
      exact ih
    · rw [if_neg hp] at hb
      obtain ⟨c2, e2, h2⟩ := hb
      have : (x :: xs).all p = false := by simp [hp]
      rw [this]
      simp only [Bool.false_eq_true, if_false]
      refine ⟨c2, ?_, h2⟩
      unfold forL
      rw [e1]
      simp only [e2, bind_ok]
theorem atI_nat {α : Type} {xs : List α} {k : Nat} (h : k < xs.length) : atI xs (k : Int) = xs[k]? := by
  have h2 : ((k : Int) < (xs.length : Int)) := by omega
  simp [atI, ixN, h2]
@[simp] theorem atI_c0 {α : Type} {a0 : α} {r : List α} : atI (a0 :: r) 0 = some a0 := by
  have h := atI_nat (xs := a0 :: r) (k := 0) (by simp only [List.length_cons]; omega)
  exact h
@[simp] theorem atI_c1 {α : Type} {a0 a1 : α} {r : List α} : atI (a0 :: a1 :: r) 1 = some a1 := by
  have h := atI_nat (xs := a0 :: a1 :: r) (k := 1) (by simp only [List.length_cons]; omega)
  exact h
@[simp] theorem atI_c2 {α : Type} {a0 a1 a2 : α} {r : List α} : atI (a0 :: a1 :: a2 :: r) 2 = some a2 := by
  have h := atI_nat (xs := a0 :: a1 :: a2 :: r) (k := 2) (by simp only [List.length_cons]; omega)
  exact h
@[simp] theorem atI_c3 {α : Type} {a0 a1 a2 a3 : α} {r : List α} : atI (a0 :: a1 :: a2 :: a3 :: r) 3 = some a3 := by
  have h := atI_nat (xs := a0 :: a1 :: a2 :: a3 :: r) (k := 3) (by simp only [List.length_cons]; omega)
  exact h
@[simp] theorem atI_c4 {α : Type} {a0 a1 a2 a3 a4 : α} {r : List α} : atI (a0 :: a1 :: a2 :: a3 :: a4 :: r) 4 = some a4 := by
  have h := atI_nat (xs := a0 :: a1 :: a2 :: a3 :: a4 :: r) (k := 4) (by simp only [List.length_cons]; omega)
  exact h
@[simp] theorem atI_c5 {α : Type} {a0 a1 a2 a3 a4 a5 : α} {r : List α} : atI (a0 :: a1 :: a2 :: a3 :: a4 :: a5 :: r) 5 = some a5 := by
  have h := atI_nat (xs := a0 :: a1 :: a2 :: a3 :: a4 :: a5 :: r) (k := 5) (by simp only [List.length_cons]; omega)
  exact h
@[simp] theorem atI_c6 {α : Type} {a0 a1 a2 a3 a4 a5 a6 : α} {r : List α} : atI (a0 :: a1 :: a2 :: a3 :: a4 :: a5 :: a6 :: r) 6 = some a6 := by
  have h := atI_nat (xs := a0 :: a1 :: a2 :: a3 :: a4 :: a5 :: a6 :: r) (k := 6) (by simp only [List.length_cons]; omega)
  exact h
@[simp] theorem wk_s0 {x : List D} : wkD .seq [.tup x] = some x := rfl
@[simp] theorem wk_s1 {x : List D} : wkD .seq [.lst x] = some x := rfl
@[simp] theorem forL_d {t : Tg} {w : Wk} {b : List S} {body : C → R Fl} {x : D} {c : C} {its : List D} (h : wkD w [x] = some its) : doFor t w b body [.d x] c = forL t body its c := by
  simp only [doFor, List.map_cons, List.map_nil, rd_d, h, ofO_some, bind_ok]
  rfl
end Ev
end
section
set_option maxRecDepth 100000
set_option maxHeartbeats 1000000
/-! Ev19: objects, from the left. -/
namespace Ev
section
variable {P : Pg} {call : CallT} {c : C} {s : Sto}
def kMeth (call : CallT) (P : Pg) (g' g : Nat) (xs : List E) (a : Vl) (c : C) : R Vl := if isObj g' a then (evEs P call xs c).bind (doMeth call g a) else .st
@[simp high] theorem lv_meth {g' g : Nat} {x : E} {xs : List E} : evE P call (.meth g' g x xs) c = (evE P call x c).bind (kMeth call P g' g xs) := by (rw [evE.eq_def]) <;> rfl
@[simp] theorem kq_meth {g g2 : Nat} {fs : List D} {xs : List E} : kMeth call P g g2 xs (.d (.obj g fs)) c = (evEs P call xs c).bind (doMeth call g2 (.d (.obj g fs))) := by simp [kMeth, isObj]
@[simp high] theorem lv_new {g : Nat} {xs : List E} : evE P call (.new g xs) c = (evEs P call xs c).bind (doNew g) := by (rw [evE.eq_def]) <;> rfl
@[simp high] theorem lv_fld {g f : Nat} {x : E} : evE P call (.fld x g f) c = (evE P call x c).bind (doFld g f) := by (rw [evE.eq_def]) <;> rfl
@[simp] theorem fld_d {g f : Nat} {ds : List D} : doFld g f (.d (.obj g ds)) c = ofO ((ds[f]?).map Vl.d) c := by simp [doFld]
@[simp] theorem meth_eq {g : Nat} {a : Vl} {vs : List Vl} : doMeth call g a vs c = noexc (called (a :: vs) c (call g (a.rd :: vs.map Vl.rd) c.sto)) := rfl
@[simp] theorem noexc_ok {α : Type} {a : α} : noexc (.ok a c) = .ok a c := rfl
@[simp] theorem new_eq {g : Nat} {vs : List Vl} : doNew g vs c = (ofO (newD g (vs.map Vl.rd)) c).bind fun ds c => .ok (.d (.obj g ds)) (frzs vs c) := rfl
end
/-! while -/
theorem whl_end {test : C → R Bool} {body : C → R Fl} {n : Nat} {c c1 : C} (h : test c = .ok false c1) : whlL test body (n + 1) c = .ok .nx c1 := by
  unfold whlL; rw [h]; rfl
theorem whl_nx {test : C → R Bool} {body : C → R Fl} {n : Nat} {c c1 c2 : C} (h : test c = .ok true c1) (hb : body c1 = .ok .nx c2) : whlL test body (n + 1) c = whlL test body n c2 := by
  conv => lhs; unfold whlL
  rw [h, bind_ok, if_pos rfl, hb]; rfl
theorem whl_rt {test : C → R Bool} {body : C → R Fl} {n : Nat} {c c1 c2 : C} {v : Rv} (h : test c = .ok true c1) (hb : body c1 = .ok (.rt v) c2) : whlL test body (n + 1) c = .ok (.rt v) c2 := by
  unfold whlL
  rw [h, bind_ok, if_pos rfl, hb]; rfl
theorem es_whl {P : Pg} {call : CallT} {t : E} {b : List S} {c : C} : evS P call (.whl t b) c = whlL (evT P call t) (evSs P call b) fuel c := by (rw [evS.eq_def]) <;> rfl
theorem fuel_big {n : Nat} (h : n ≤ 1000000) : n < fuel := Nat.lt_of_le_of_lt h (by unfold fuel; decide)
/-! lists of one's own, from the left -/
@[simp] theorem for_bor {t : Tg} {w : Wk} {b : List S} {body : C → R Fl} {i : Nat} {x : D} {c : C} {its : List D} (h : wkD w [x] = some its) (hk : keepsV [.forr t w [] b] [.bor i x] = true) : doFor t w b body [.bor i x] c = forL t body its c := by
  simp only [doFor, List.map_cons, List.map_nil, rd_bor, h, ofO_some, bind_ok]
  rw [if_pos hk]
end Ev
namespace Ev
theorem ln_le {n : Nat} (h : n ≤ 16000000) : (n ≤ line) = True := eq_true (Nat.le_trans h (by unfold line; decide))
theorem ln_lt {n : Nat} (h : n ≤ 15999999) : (n < line) = True := eq_true (Nat.lt_of_le_of_lt h (by unfold line; decide))
theorem cut_to {α : Type} (xs : List α) (j : Nat) : cut xs none (some (j : Int)) = xs.take j := by
  have h : ¬ ((j : Int) < 0) := by omega
  simp only [cut, sIx, h, if_false, Int.toNat_natCast, List.drop_zero, Nat.sub_zero]
  by_cases q : j ≤ xs.length
  · rw [Nat.min_eq_left q]
  · rw [Nat.min_eq_right (by omega), List.take_of_length_le (Nat.le_refl _), List.take_of_length_le (by omega)]
theorem cut_from {α : Type} (xs : List α) (j : Nat) : cut xs (some (j : Int)) none = xs.drop j := by
  have h : ¬ ((j : Int) < 0) := by omega
  simp only [cut, sIx, h, if_false, Int.toNat_natCast]
  by_cases q : j ≤ xs.length
  · rw [Nat.min_eq_left q, List.take_of_length_le (by rw [List.length_drop]; omega)]
  · rw [Nat.min_eq_right (by omega), List.drop_eq_nil_of_le (by omega : xs.length ≤ j)]
    simp
theorem cut_seg {α : Type} (xs : List α) (i j : Nat) : cut xs (some (i : Int)) (some (j : Int)) = (xs.drop i).take (j - i) := by
  have h : ¬ ((j : Int) < 0) := by omega
  have h' : ¬ ((i : Int) < 0) := by omega
  simp only [cut, sIx, h, h', if_false, Int.toNat_natCast]
  by_cases q : i ≤ xs.length
  · rw [Nat.min_eq_left q]
    by_cases q2 : j ≤ xs.length
    · rw [Nat.min_eq_left q2]
    · rw [Nat.min_eq_right (by omega : xs.length ≤ j), List.take_of_length_le (by rw [List.length_drop]; omega), List.take_of_length_le (by rw [List.length_drop]; omega)]
  · rw [Nat.min_eq_right (by omega : xs.length ≤ i), List.drop_eq_nil_of_le (by omega : xs.length ≤ i), List.drop_eq_nil_of_le (Nat.le_refl _)]
    simp
@[simp] theorem sl_lit_t {xs : List D} {lo hi : Option Int} : slD (.tup xs) lo hi = some (.d (.tup (cut xs lo hi))) := rfl
@[simp] theorem sl_lit_l {xs : List D} {lo hi : Option Int} : slD (.lst xs) lo hi = some (.tmp (.lst (cut xs lo hi))) := rfl
end Ev
end
section
set_option maxRecDepth 100000
set_option maxHeartbeats 1000000
/-! Ev20: running, the later forms. -/
namespace Ev
section
variable {P : Pg} {call : CallT} {c : C}
@[simp high] theorem lv_isl {x : E} : evE P call (.isl x) c = (evE P call x c).bind kIsl := by (rw [evE.eq_def]) <;> rfl
@[simp] theorem kq_isl_d {xs : List D} : kIsl (.d (.lst xs)) c = .ok (.d (.lst xs)) c := rfl
@[simp] theorem kq_isl_t {xs : List D} : kIsl (.tmp (.lst xs)) c = .ok (.tmp (.lst xs)) c := rfl
@[simp] theorem kq_isl_b {i : Nat} {xs : List D} : kIsl (.bor i (.lst xs)) c = .ok (.bor i (.lst xs)) c := rfl
def kOrv (P : Pg) (call : CallT) (y : E) (a : Vl) (c : C) : R Vl := (ofO (truD a.rd) c).bind fun t c => if t then .ok a c else evE P call y c
@[simp high] theorem lv_orv {x y : E} : evE P call (.orv x y) c = (evE P call x c).bind (kOrv P call y) := by (rw [evE.eq_def]) <;> rfl
@[simp] theorem kq_orv {y : E} {a : Vl} : kOrv P call y a c = (ofO (truD a.rd) c).bind fun t c => if t then .ok a c else evE P call y c := rfl
@[simp] theorem wk_zr {r : Bool} {xs ys : List D} : wkD (.zipr r) [.lst xs, .lst ys] = some (zipT xs.reverse (if r then ys.reverse else ys)) := rfl
end
end Ev
end
section
set_option maxRecDepth 100000
set_option maxHeartbeats 1000000
/-! Drw: draws lie below 1000. -/
namespace Ev
def rng (l : List Int) : Prop := ∀ x ∈ l, 0 ≤ x ∧ x < 1000
theorem rng_app {l : List Int} {x : Int} (h : rng l) (h0 : 0 ≤ x) (h1 : x < 1000) : rng (l ++ [x]) := fun y hy => by
  rcases List.mem_append.mp hy with hy | hy
  · exact h y hy
  · simp only [List.mem_singleton] at hy; subst hy; exact ⟨h0, h1⟩
section
variable {P : Pg} {s : Sto} {call : CallT}
def dr1 : List S := [.ife (.cmp .gt (.v 3) (.i 0)) [.app 2 (.bin .mod (.blt .int [.v 3]) (.i 1000)), .asg (.nm 3) (.bin .fdiv (.v 3) (.i 1000))] []]
def dr2 : List S := [.asg (.nm 5) (.bin .mod (.blt .int [(.bin .add (.bin .add (.bin .mul (.v 5) (.i 48271)) (.bin .mul (.v 4) (.i 69621))) (.i 7))]) (.i 2147483647)),
    .ife (.cmp .lt (.blt .len [(.v 2)]) (.v 1))
      [.app 2 (.bin .mod (.blt .int [(.bin .mod (.blt .int [(.bin .add (.bin .mul (.v 5) (.i 69621)) (.i 5))]) (.i 2147483629))]) (.i 1000))]
      []]
theorem drs1 {a b st : Sl} : ∀ (m : Nat) (i : Int) (l : List Int) (r : Int) (v : Sl), l.length + m ≤ 1000 → rng l →
    ∃ (l' : List Int) (r' : Int) (v' : Sl), forL (.nm 4) (evSs P call dr1) (rngL i m) ⟨[a, b, .own (lsI l), .dat (.int r), v, st], s⟩ = .ok .nx ⟨[a, b, .own (lsI l'), .dat (.int r'), v', st], s⟩ ∧ l'.length ≤ l.length + m ∧ rng l'
  | 0, i, l, r, v, h, hr => ⟨l, r, v, rfl, Nat.le_refl _, hr⟩
  | m + 1, i, l, r, v, h, hr => by
    simp only [rngL]
    by_cases c : 0 < r
    · obtain ⟨l', r', v', e, h1, h2⟩ := drs1 (a := a) (b := b) (st := st) m (i + 1) (l ++ [r % 1000]) (r / 1000) (.dat (.int i)) (by simp only [List.length_append, List.length_cons, List.length_nil]; omega) (rng_app hr (by omega) (by omega))
      refine ⟨l', r', v', ?_, by simp only [List.length_append, List.length_cons, List.length_nil] at h1; omega, h2⟩
      rw [← e, forL]
      simp (disch := first | omega | (simp; done)) [dr1, c, lsI, doApp, ln_lt]
    · obtain ⟨l', r', v', e, h1, h2⟩ := drs1 (a := a) (b := b) (st := st) m (i + 1) l r (.dat (.int i)) (by omega) hr
      refine ⟨l', r', v', ?_, by omega, h2⟩
      rw [← e, forL]
      simp [dr1, c]
theorem drs2 {a rest : Sl} {k : Nat} (hk : k ≤ 1000) : ∀ (m : Nat) (i : Int) (l : List Int) (z : Int) (v : Sl), l.length ≤ k → rng l →
    ∃ (l' : List Int) (z' : Int) (v' : Sl), forL (.nm 4) (evSs P call dr2) (rngL i m) ⟨[a, .dat (.int k), .own (lsI l), rest, v, .dat (.int z)], s⟩ = .ok .nx ⟨[a, .dat (.int k), .own (lsI l'), rest, v', .dat (.int z')], s⟩ ∧ l'.length ≤ k ∧ (k ≤ l'.length ∨ l.length + m ≤ l'.length) ∧ rng l'
  | 0, i, l, z, v, h, hr => ⟨l, z, v, rfl, h, .inr (Nat.le_refl _), hr⟩
  | m + 1, i, l, z, v, h, hr => by
    simp only [rngL]
    by_cases c : (l.length : Int) < k
    · obtain ⟨l', z', v', e, h1, h2, h3⟩ := drs2 (a := a) (rest := rest) hk m (i + 1) (l ++ [((z * 48271 + i * 69621 + 7) % 2147483647 * 69621 + 5) % 2147483629 % 1000]) ((z * 48271 + i * 69621 + 7) % 2147483647) (.dat (.int i)) (by simp only [List.length_append, List.length_cons, List.length_nil]; omega) (rng_app hr (by omega) (by omega))
      refine ⟨l', z', v', ?_, h1, by simp only [List.length_append, List.length_cons, List.length_nil] at h2; omega, h3⟩
      rw [← e, forL]
      have c' : l.length < k := by omega
      have cl : l.length < line := by rw [ln_lt (by omega)]; trivial
      simp [dr2, c', lsI, doApp, cl, okMul_r]
    · obtain ⟨l', z', v', e, h1, h2, h3⟩ := drs2 (a := a) (rest := rest) hk m (i + 1) l ((z * 48271 + i * 69621 + 7) % 2147483647) (.dat (.int i)) h hr
      refine ⟨l', z', v', ?_, h1, by omega, h3⟩
      rw [← e, forL]
      have c' : ¬ l.length < k := by omega
      simp [dr2, c', lsI, okMul_r]
/-- the draws of a cell: as many as asked for, each below 1000 -/
theorem call0r (h0 : P.fns 0 = some f0) (c : Int) (k : Nat) (hk : k ≤ 1000) {m : Nat} (hm : 1 ≤ m) : ∃ l : List Int, l.length = k ∧ rng l ∧ callN P m 0 [.int c, .int k] s = .ok (.own (lsI l)) s := by
  obtain ⟨n, rfl⟩ : ∃ n, m = n + 1 := ⟨m - 1, by omega⟩
  rw [call_eq h0 rfl]
  have e0 : startL f0.nl [.int c, .int (k : Int)] = [.dat (.int c), .dat (.int k), .no, .no, .no, .no] := rfl
  have eb : f0.body = [.asg (.nm 2) (.lst []), .asg (.nm 3) (.blt .int [(.v 0)]), .ife (.cmp .ge (.v 3) (.bin .pow (.i 10) (.i 18))) [.forr (.nm 4) .rng1 [(.v 1)] dr1] [],
    .asg (.nm 5) (.bin .mod (.blt .int [(.bin .add (.bin .mul (.blt .int [(.v 0)]) (.i 48271)) (.i 11))]) (.i 2147483647)), .forr (.nm 4) .rng1 [(.v 1)] dr2, .ret (.v 2)] := rfl
  have hi := in62_small (i := (k : Int)) (by omega) (by omega)
  have hw : wkD .rng1 [.int (k : Int)] = some (rngL 0 k) := by simp [wkD, hi]
  have fin : ∀ (l : List Int) (r : Int) (v : Sl), l.length ≤ k → rng l → ∃ l' : List Int, l'.length = k ∧ rng l' ∧ endR (evSs P (callN P n) [.asg (.nm 5) (.bin .mod (.blt .int [(.bin .add (.bin .mul (.blt .int [(.v 0)]) (.i 48271)) (.i 11))]) (.i 2147483647)), .forr (.nm 4) .rng1 [(.v 1)] dr2, .ret (.v 2)] ⟨[.dat (.int c), .dat (.int k), .own (lsI l), .dat (.int r), v, .no], s⟩) = .ok (.own (lsI l')) s := fun l r v hl hr => by
    obtain ⟨l', z', v', e, h1, h2, h3⟩ := drs2 (P := P) (s := s) (call := callN P n) (a := .dat (.int c)) (rest := .dat (.int r)) hk k 0 l ((c * 48271 + 11) % 2147483647) v hl hr
    refine ⟨l', by omega, h3, ?_⟩
    simp [forL_d hw, e, okMul_r]
  rw [e0, eb, step (c' := ⟨[.dat (.int c), .dat (.int k), .own (lsI []), .no, .no, .no], s⟩) (by simp [lsI]), step (c' := ⟨[.dat (.int c), .dat (.int k), .own (lsI []), .dat (.int c), .no, .no], s⟩) (by simp)]
  by_cases q : c < 1000000000000000000
  · obtain ⟨l', h1, h2, h3⟩ := fin [] c .no (Nat.zero_le _) (fun x hx => by cases hx)
    refine ⟨l', h1, h2, ?_⟩
    rw [step (c' := ⟨[.dat (.int c), .dat (.int k), .own (lsI []), .dat (.int c), .no, .no], s⟩) (by simp [q])]
    exact h3
  · obtain ⟨l1, r1, v1, e1, hl1, hr1⟩ := drs1 (P := P) (s := s) (call := callN P n) (a := .dat (.int c)) (b := .dat (.int k)) (st := .no) k 0 [] c .no (by simp only [List.length_nil]; omega) (fun x hx => by cases hx)
    obtain ⟨l', h1, h2, h3⟩ := fin l1 r1 v1 (by simpa using hl1) hr1
    refine ⟨l', h1, h2, ?_⟩
    rw [step (c' := ⟨[.dat (.int c), .dat (.int k), .own (lsI l1), .dat (.int r1), v1, .no], s⟩) (by simp [q, forL_d hw, e1])]
    exact h3
theorem getD_rng {l : List Int} (h : rng l) (i : Nat) : 0 ≤ l.getD i 0 ∧ l.getD i 0 < 1000 := by
  by_cases q : i < l.length
  · have e : l.getD i 0 = l[i] := by rw [List.getD_eq_getElem?_getD, List.getElem?_eq_getElem q]; rfl
    rw [e]; exact h _ (List.getElem_mem q)
  · rw [List.getD_eq_getElem?_getD, List.getElem?_eq_none (by omega)]; decide
end
end Ev
end
section
set_option maxRecDepth 100000
set_option maxHeartbeats 1000000
/-! Tre1: hashers, trees, as data. -/
namespace Ev
structure Hs where
  m : Int
  k : Int
def Hs.ok (h : Hs) : Prop := 2 ≤ h.m ∧ h.m < 2147483648 ∧ 1 ≤ h.k ∧ h.k < 2147483648
def Hs.d (h : Hs) : D := .obj 0 [.int h.m, .int h.k]
def hdig (h : Hs) : Int → List Int → Int
  | v, [] => v
  | v, n :: ns => hdig h ((v * h.k + n + 1) % h.m) ns
def dig (h : Hs) (ns : List Int) : Int := hdig h 0 ns
abbrev Sps := List (Int × Int)
def spD (sp : Sps) : D := .tup (sp.map fun p => .tup [.int p.1, .int p.2])
def leafIn (o : List Int) (sp : Sps) : List Int := [0, (o.length : Int)] ++ o ++ [(sp.length : Int)] ++ sp.flatMap fun p => [p.1, p.2]
def sideOf (c : Int) (lo hi : List Int) (d : Int) : List Int := [c, (lo.length : Int)] ++ lo ++ [(hi.length : Int)] ++ hi ++ [d]
inductive Tre where
  | leaf (key : List D) (sp : Sps)
  | node (l r : Tre)
  | prn (c : Int) (lo hi : List Int) (dg : Int)
def Tre.cnt : Tre → Int
  | .leaf _ _ => 1
  | .node l r => l.cnt + r.cnt
  | .prn c _ _ _ => c
def Tre.lo : Tre → List Int
  | .leaf k _ => keyOct k
  | .node l _ => l.lo
  | .prn _ lo _ _ => lo
def Tre.hi : Tre → List Int
  | .leaf k _ => keyOct k
  | .node _ r => r.hi
  | .prn _ _ hi _ => hi
def Tre.dg (h : Hs) : Tre → Int
  | .leaf k s => dig h (leafIn (keyOct k) s)
  | .node l r => dig h ([1] ++ sideOf l.cnt l.lo l.hi (l.dg h) ++ sideOf r.cnt r.lo r.hi (r.dg h))
  | .prn _ _ _ d => d
def Tre.side (h : Hs) (t : Tre) : List Int := sideOf t.cnt t.lo t.hi (t.dg h)
def Tre.inp (h : Hs) : Tre → List Int
  | .leaf k s => leafIn (keyOct k) s
  | .node l r => [1] ++ l.side h ++ r.side h
  | .prn _ _ _ _ => []
def Tre.d (h : Hs) : Tre → D
  | .leaf k s => .tup [.str [108, 101, 97, 102], .int 1, tpI (keyOct k), tpI (keyOct k), .int (dig h (leafIn (keyOct k) s)), .tup k, spD s]
  | .node l r => .tup [.str [110, 111, 100, 101], .int (l.cnt + r.cnt), tpI l.lo, tpI r.hi, .int ((Tre.node l r).dg h), l.d h, r.d h]
  | .prn c lo hi d => .tup [.str [112, 114, 117, 110, 101, 100], .int c, tpI lo, tpI hi, .int d]
def optD (h : Hs) : Option Tre → D
  | none => .non
  | some t => t.d h
def stIn (h : Hs) : Option Tre → List Int
  | none => [2]
  | some t => [3] ++ t.side h
def Tre.ht : Tre → Nat
  | .leaf _ _ => 0
  | .node l r => max l.ht r.ht + 1
  | .prn _ _ _ _ => 0
/-- octets of a key -/
def isKO (o : List Int) : Prop := ∃ ds : List D, (∀ x ∈ ds, valOk x = true) ∧ ds.length ≤ 12 ∧ o = keyOct ds
def Tre.mem : Tre → List (List Int)
  | .leaf k _ => [keyOct k]
  | .node l r => l.mem ++ r.mem
  | .prn _ lo hi _ => [lo, hi]
/-- what the tree's parts must be -/
def Tre.ok : Tre → Prop
  | .leaf k s => (∀ x ∈ k, valOk x = true) ∧ k.length ≤ 12 ∧ s.length ≤ 10000
  | .node l r => l.ok ∧ r.ok ∧ ∃ p : Nat, ∀ a ∈ l.mem, ∀ b ∈ r.mem, fdiff (bitsOf a) (bitsOf b) = some p ∧ (bitsOf a).getD p 0 = 0
  | .prn c lo hi d => isKO lo ∧ isKO hi ∧ 1 ≤ c ∧ (c = 1 → lo = hi) ∧ (1 < c → lexLt lo hi = true)
/-! plain facts -/
theorem lo_mem : ∀ t : Tre, t.lo ∈ t.mem
  | .leaf k s => by simp [Tre.lo, Tre.mem]
  | .node l r => by simp only [Tre.lo, Tre.mem]; exact List.mem_append_left _ (lo_mem l)
  | .prn _ _ _ _ => by simp [Tre.lo, Tre.mem]
theorem hi_mem : ∀ t : Tre, t.hi ∈ t.mem
  | .leaf k s => by simp [Tre.hi, Tre.mem]
  | .node l r => by simp only [Tre.hi, Tre.mem]; exact List.mem_append_right _ (hi_mem r)
  | .prn _ _ _ _ => by simp [Tre.hi, Tre.mem]
theorem mem_ko : ∀ t : Tre, t.ok → ∀ o ∈ t.mem, isKO o
  | .leaf k s, h, o, ho => by
    simp only [Tre.mem, List.mem_singleton] at ho
    subst ho
    exact ⟨k, h.1, h.2.1, rfl⟩
  | .node l r, h, o, ho => by
    simp only [Tre.mem, List.mem_append] at ho
    rcases ho with ho | ho
    · exact mem_ko l h.1 o ho
    · exact mem_ko r h.2.1 o ho
  | .prn _ lo hi _, h, o, ho => by
    simp only [Tre.mem, List.mem_cons, List.not_mem_nil, or_false] at ho
    rcases ho with rfl | rfl
    · exact h.1
    · exact h.2.1
theorem ko_oct {o : List Int} (h : isKO o) : ∀ x ∈ o, isOct x := by
  obtain ⟨ds, h1, _, rfl⟩ := h
  exact keyOct_oct h1
theorem keyOct_len12 {ds : List D} (h : ∀ x ∈ ds, valOk x = true) (hl : ds.length ≤ 12) : (keyOct ds).length ≤ 12025 := by
  have := flat_len h
  simp only [keyOct, List.length_append, List.length_cons, List.length_nil]
  omega
theorem ko_len {o : List Int} (h : isKO o) : o.length ≤ 12025 := by
  obtain ⟨ds, h1, h2, rfl⟩ := h
  exact keyOct_len12 h1 h2
theorem ko_prefix {a b z : List Int} (ha : isKO a) (hb : isKO b) (e : a ++ z = b) : a = b := by
  obtain ⟨ds, h1, _, rfl⟩ := ha
  obtain ⟨es, h2, _, rfl⟩ := hb
  exact prefix_free ds es z h1 h2 e
theorem ko_eq {a b : List Int} (ha : isKO a) (hb : isKO b) (e : fdiff (bitsOf a) (bitsOf b) = none) : a = b := by
  rcases pre_of a b (ko_oct ha) (ko_oct hb) e with ⟨z, e⟩ | ⟨z, e⟩
  · exact ko_prefix ha hb e
  · exact (ko_prefix hb ha e).symm
theorem cnt_pos : ∀ t : Tre, t.ok → 1 ≤ t.cnt
  | .leaf _ _, _ => by simp [Tre.cnt]
  | .node l r, h => by
    have := cnt_pos l h.1
    have := cnt_pos r h.2.1
    simp only [Tre.cnt]; omega
  | .prn _ _ _ _, h => h.2.2.1
theorem sp_flat (sp : Sps) : flat (spD sp) = true := by
  simp only [spD, flat]
  exact flatA_all fun x hx => by
    obtain ⟨p, _, rfl⟩ := List.mem_map.mp hx
    rfl
theorem val_flat {d : D} (h : valOk d = true) : flat d = true := by
  cases d <;> first | rfl | cases h
theorem flat_tI (xs : List Int) : flat (tpI xs) = true := flatA_ints xs
theorem tr_flat (h : Hs) : ∀ t : Tre, t.ok → flat (t.d h) = true
  | .leaf k s, ok => by
    have h1 : flatA k = true := flatA_all fun x hx => val_flat (ok.1 x hx)
    simp only [Tre.d, flat, flatA, flat_tI, sp_flat, h1, Bool.and_self]
  | .node l r, ok => by simp only [Tre.d, flat, flatA, flat_tI, tr_flat h l ok.1, tr_flat h r ok.2.1, Bool.and_self]
  | .prn _ _ _ _, ok => by simp only [Tre.d, flat, flatA, flat_tI, Bool.and_self]
theorem opt_flat (h : Hs) {t : Option Tre} (ok : ∀ x, t = some x → x.ok) : flat (optD h t) = true := by
  cases t with
  | none => rfl
  | some t => exact tr_flat h t (ok t rfl)
theorem hs_flat (h : Hs) : flat h.d = true := rfl
theorem side_len (h : Hs) (t : Tre) (ok : t.ok) : (t.side h).length ≤ 24100 := by
  have h1 := ko_len (mem_ko t ok _ (lo_mem t))
  have h2 := ko_len (mem_ko t ok _ (hi_mem t))
  simp only [Tre.side, sideOf, List.length_append, List.length_cons, List.length_nil]
  omega
theorem leafIn_len {k : List D} {s : Sps} (hk : ∀ x ∈ k, valOk x = true) (hl : k.length ≤ 12) (hs : s.length ≤ 10000) : (leafIn (keyOct k) s).length ≤ 33000 := by
  have h1 := keyOct_len12 hk hl
  have h2 : (s.flatMap fun p => [p.1, p.2]).length = 2 * s.length := by
    clear hs
    induction s with
    | nil => rfl
    | cons x s ih => simp only [List.flatMap_cons, List.length_append, List.length_cons, List.length_nil, ih]; omega
  simp only [leafIn, List.length_append, List.length_cons, List.length_nil, h2]
  omega
theorem hdig_rng {h : Hs} (ok : h.ok) : ∀ (ns : List Int) (v : Int), 0 ≤ v → v < h.m → 0 ≤ hdig h v ns ∧ hdig h v ns < h.m
  | [], v, h0, h1 => ⟨h0, h1⟩
  | n :: ns, v, h0, h1 => by
    have hm : 0 < h.m := by have := ok.1; omega
    exact hdig_rng ok ns _ (Int.emod_nonneg _ (by omega)) (Int.emod_lt_of_pos _ hm)
end Ev
end
section
set_option maxRecDepth 100000
set_option maxHeartbeats 1000000
/-! Tre2: digests, leaves, nodes. -/
namespace Ev
structure HasT (P : Pg) : Prop where
  p1 : P.fns 1 = some f1
  p2 : P.fns 2 = some f2
  p3 : P.fns 3 = some f3
  p7 : P.fns 7 = some f7
  p8 : P.fns 8 = some f8
  p42 : P.fns 42 = some f42
  p43 : P.fns 43 = some f43
  p44 : P.fns 44 = some f44
  p45 : P.fns 45 = some f45
  p46 : P.fns 46 = some f46
  p47 : P.fns 47 = some f47
  p48 : P.fns 48 = some f48
  p49 : P.fns 49 = some f49
  c0 : P.cs 0 = some (.tup (masks.map .int))
theorem mulOk {h : Hs} (ok : h.ok) {v : Int} (h0 : 0 ≤ v) (h1 : v < h.m) : okMul v h.k = true := by
  have := ok.2.1
  unfold okMul
  have a : decide (-(2 ^ 64) < v) = true := by simp; omega
  have b : decide (v < 2 ^ 64) = true := by simp; omega
  rw [a, b]; rfl
section
variable {P : Pg} {s : Sto}
theorem loop42 {call : CallT} {h : Hs} (ok : h.ok) {a b : Sl} (ha : a = .dat h.d) : ∀ (ns : List Int) (v : Int) (w : Sl), 0 ≤ v → v < h.m →
    ∃ w', forL (.nm 3) (evSs P call l42_0) (ns.map .int) ⟨[a, b, .dat (.int v), w], s⟩ = .ok .nx ⟨[a, b, .dat (.int (hdig h v ns)), w'], s⟩
  | [], v, w, _, _ => ⟨w, rfl⟩
  | n :: ns, v, w, h0, h1 => by
    have hm : 0 < h.m := by have := ok.1; omega
    obtain ⟨w', e⟩ := loop42 (call := call) ok ha ns ((v * h.k + n + 1) % h.m) (.dat (.int n)) (Int.emod_nonneg _ (by omega)) (Int.emod_lt_of_pos _ hm)
    refine ⟨w', ?_⟩
    simp only [hdig]
    rw [← e]
    subst ha
    have hk := mulOk ok h0 h1
    simp only [List.map_cons]
    rw [forL]
    simp [l42_0, Hs.d, hk, hm]
theorem call42 (h42 : P.fns 42 = some f42) {h : Hs} (ok : h.ok) (ns : List Int) {m : Nat} (hm : 1 ≤ m) : callN P m 42 [h.d, lsI ns] s = .ok (.d (.int (dig h ns))) s := by
  obtain ⟨n, rfl⟩ : ∃ n, m = n + 1 := ⟨m - 1, by omega⟩
  rw [call_eq h42 rfl]
  obtain ⟨w', e⟩ := loop42 (P := P) (s := s) (call := callN P n) (b := .dat (lsI ns)) ok rfl ns 0 .no (by omega) (by have := ok.1; omega)
  have hw : wkD .seq [lsI ns] = some (ns.map .int) := rfl
  have f0 : startL f42.nl [h.d, lsI ns] = [.dat h.d, .dat (lsI ns), .no, .no] := rfl
  rw [f0]
  simp [f42, b42, forL_d hw, e, dig]
theorem loop43 {call : CallT} {a b : Sl} : ∀ (sp : Sps) (acc : List Int) (v w : Sl), acc.length + 2 * sp.length ≤ 100000 →
    ∃ v' w', forL (.tp [3, 4]) (evSs P call l43_0) (sp.map fun p => .tup [.int p.1, .int p.2]) ⟨[a, b, .own (lsI acc), v, w], s⟩ = .ok .nx ⟨[a, b, .own (lsI (acc ++ sp.flatMap fun p => [p.1, p.2])), v', w'], s⟩
  | [], acc, v, w, _ => ⟨v, w, by simp [forL]⟩
  | p :: sp, acc, v, w, hl => by
    simp only [List.length_cons] at hl
    obtain ⟨v', w', e⟩ := loop43 (call := call) (a := a) (b := b) sp (acc ++ [p.1, p.2]) (.dat (.int p.1)) (.dat (.int p.2)) (by simp only [List.length_append, List.length_cons, List.length_nil]; omega)
    refine ⟨v', w', ?_⟩
    simp only [List.flatMap_cons]
    rw [← List.append_assoc, ← e]
    have l1 : (acc.length + 2 ≤ line) = True := eq_true (line_big (by omega))
    simp only [List.map_cons]
    rw [forL]
    have ht : tgt (.tp [3, 4]) (.tup [.int p.1, .int p.2]) ⟨[a, b, .own (lsI acc), v, w], s⟩ = some ⟨[a, b, .own (lsI acc), .dat (.int p.1), .dat (.int p.2)], s⟩ := rfl
    rw [ht]
    simp [l43_0, lsI, l1]
theorem call43 (h43 : P.fns 43 = some f43) (o : List Int) (sp : Sps) (ho : o.length ≤ 20000) (hs : sp.length ≤ 10000) {m : Nat} (hm : 1 ≤ m) : callN P m 43 [tpI o, spD sp] s = .ok (.own (lsI (leafIn o sp))) s := by
  obtain ⟨n, rfl⟩ : ∃ n, m = n + 1 := ⟨m - 1, by omega⟩
  rw [call_eq h43 rfl]
  obtain ⟨v', w', e⟩ := loop43 (P := P) (s := s) (call := callN P n) (a := .dat (tpI o)) (b := .dat (spD sp)) sp ([0, (o.length : Int)] ++ o ++ [(sp.length : Int)]) .no .no (by simp only [List.length_append, List.length_cons, List.length_nil]; omega)
  have hw : wkD .seq [spD sp] = some (sp.map fun p => .tup [.int p.1, .int p.2]) := rfl
  have l1 : (o.length + 1 + 1 ≤ line) = True := eq_true (line_big (by omega))
  have l2 : (o.length + 1 + 1 + 1 ≤ line) = True := eq_true (line_big (by omega))
  have l3 : (2 + o.length ≤ line) = True := eq_true (line_big (by omega))
  have f0 : startL f43.nl [tpI o, spD sp] = [.dat (tpI o), .dat (spD sp), .no, .no, .no] := rfl
  rw [f0]
  unfold leafIn
  simp only [lsI, List.map_append, List.map_cons, List.map_nil, List.append_assoc, List.cons_append, List.nil_append] at e ⊢
  have q1 : evE P (callN P n) (.bin .add (.bin .add (.lst [(.i 0), (.blt .len [(.v 0)])]) (.blt .list [(.v 0)])) (.lst [(.blt .len [(.v 1)])])) ⟨[.dat (tpI o), .dat (spD sp), .no, .no, .no], s⟩ = .ok (.tmp (.lst (.int 0 :: .int o.length :: (o.map .int ++ [.int sp.length])))) ⟨[.dat (tpI o), .dat (spD sp), .no, .no, .no], s⟩ := by
    simp [tpI, spD, l1, l2, l3]
  unfold f43 b43
  rw [step (c' := ⟨[.dat (tpI o), .dat (spD sp), .own (.lst (.int 0 :: .int o.length :: (o.map .int ++ [.int sp.length]))), .no, .no], s⟩) (by rw [es_asg, q1]; rfl)]
  simp [forL_d hw, e]
theorem free_lI (l : List Int) : (Rv.own (lsI l)).free = true := flatA_ints l
theorem call3m (H : HasT P) {ds : List D} (hd : ∀ x ∈ ds, valOk x = true) (hl : ds.length ≤ 1000) {m : Nat} (hm : 3 ≤ m) : callN P m 3 [.tup ds] s = .ok (.d (tpI (keyOct ds))) s := by
  obtain ⟨n, rfl⟩ : ∃ n, m = n + 3 := ⟨m - 3, by omega⟩
  exact call3 H.p1 H.p2 H.p3 hd hl
theorem free_d {d : D} (h : flat d = true) : (Rv.d d).free = true := h
theorem call44 (H : HasT P) {h : Hs} (ok : h.ok) {k : List D} {sp : Sps} (hk : ∀ x ∈ k, valOk x = true) (hl : k.length ≤ 12) (hs : sp.length ≤ 10000) {m : Nat} (hm : 4 ≤ m) : callN P m 44 [h.d, .tup k, spD sp] s = .ok (.d ((Tre.leaf k sp).d h)) s := by
  obtain ⟨n, rfl⟩ : ∃ n, m = n + 1 := ⟨m - 1, by omega⟩
  rw [call_eq H.p44 rfl]
  have e3 := call3m (s := s) H hk (by omega) (m := n) (by omega)
  have e43 := call43 (s := s) H.p43 (keyOct k) sp (by have := keyOct_len12 hk hl; omega) hs (m := n) (by omega)
  have e42 := call42 (s := s) H.p42 ok (leafIn (keyOct k) sp) (m := n) (by omega)
  have fr := free_lI (leafIn (keyOct k) sp)
  have fr2 := free_d (flat_tI (keyOct k))
  have f0 : startL f44.nl [h.d, .tup k, spD sp] = [.dat h.d, .dat (.tup k), .dat (spD sp), .no] := rfl
  have hh : h.d = .obj 0 [.int h.m, .int h.k] := rfl
  rw [f0]
  simp only [hh] at *
  simp [f44, b44, e3, e43, e42, fr, fr2, Tre.d, show ∀ i, (Rv.d (.int i)).free = true from fun _ => rfl]
theorem call46 (h46 : P.fns 46 = some f46) {h : Hs} {t : Tre} (ok : t.ok) {m : Nat} (hm : 1 ≤ m) : callN P m 46 [t.d h] s = .ok (.own (lsI (t.side h))) s := by
  obtain ⟨n, rfl⟩ : ∃ n, m = n + 1 := ⟨m - 1, by omega⟩
  rw [call_eq h46 rfl]
  have h1 := ko_len (mem_ko t ok _ (lo_mem t))
  have h2 := ko_len (mem_ko t ok _ (hi_mem t))
  have hc : ∃ (kd : D) (r : List D), t.d h = .tup (kd :: .int t.cnt :: tpI t.lo :: tpI t.hi :: .int (t.dg h) :: r) := by
    cases t <;> exact ⟨_, _, rfl⟩
  obtain ⟨kd, r, ht⟩ := hc
  have hcut : cut (kd :: D.int t.cnt :: tpI t.lo :: tpI t.hi :: D.int (t.dg h) :: r) none (some 5) = [kd, .int t.cnt, tpI t.lo, tpI t.hi, .int (t.dg h)] := by
    exact cut_to _ 5
  have f0 : startL f46.nl [t.d h] = [.dat (t.d h), .no, .no, .no, .no, .no] := rfl
  have lt : ∀ (a b c d e : D) (c0 : C) , lay (.tp [1, 2, 3, 4, 5]) (.d (.tup [a, b, c, d, e])) c0 = .ok .nx (((((c0.set 1 (.dat a)).set 2 (.dat b)).set 3 (.dat c)).set 4 (.dat d)).set 5 (.dat e)) := fun _ _ _ _ _ _ => rfl
  rw [f0, ht]
  unfold Tre.side sideOf
  generalize t.lo = lo at *
  generalize t.hi = hi at *
  simp only [tpI, lsI] at *
  simp (disch := first | omega | (simp; done)) [f46, b46, hcut, lt, ln_le]
theorem call47 (H : HasT P) {h : Hs} (ok : h.ok) {l r : Tre} (hl : l.ok) (hr : r.ok) {m : Nat} (hm : 2 ≤ m) : callN P m 47 [h.d, l.d h, r.d h] s = .ok (.d ((Tre.node l r).d h)) s := by
  obtain ⟨n, rfl⟩ : ∃ n, m = n + 1 := ⟨m - 1, by omega⟩
  rw [call_eq H.p47 rfl]
  have e1 := call46 (s := s) H.p46 (h := h) hl (m := n) (by omega)
  have e2 := call46 (s := s) H.p46 (h := h) hr (m := n) (by omega)
  have s1 := side_len h l hl
  have s2 := side_len h r hr
  have e3 := call42 (s := s) H.p42 ok ([1] ++ l.side h ++ r.side h) (m := n) (by omega)
  have fr1 := free_lI (l.side h)
  have fr2 := free_lI (r.side h)
  have c1 : ∃ (kd a7 : D) (q : List D), l.d h = .tup (kd :: .int l.cnt :: tpI l.lo :: a7 :: q) := by
    cases l <;> exact ⟨_, _, _, rfl⟩
  have c2 : ∃ (kd a7 : D) (q : List D), r.d h = .tup (kd :: .int r.cnt :: a7 :: tpI r.hi :: q) := by
    cases r <;> exact ⟨_, _, _, rfl⟩
  have d1 : (Tre.node l r).dg h = dig h ([1] ++ l.side h ++ r.side h) := rfl
  have f0 : startL f47.nl [h.d, l.d h, r.d h] = [.dat h.d, .dat (l.d h), .dat (r.d h), .no] := rfl
  have hh : h.d = .obj 0 [.int h.m, .int h.k] := rfl
  have e0 : (Tre.node l r).d h = .tup [.str [110, 111, 100, 101], .int (l.cnt + r.cnt), tpI l.lo, tpI r.hi, .int (dig h ([1] ++ l.side h ++ r.side h)), l.d h, r.d h] := rfl
  rw [f0, e0]
  have x1 : ixD (l.d h) (.int 1) = some (.int l.cnt) := by obtain ⟨_, _, _, e⟩ := c1; rw [e]; simp
  have x2 : ixD (l.d h) (.int 2) = some (tpI l.lo) := by obtain ⟨_, _, _, e⟩ := c1; rw [e]; simp
  have x3 : ixD (r.d h) (.int 1) = some (.int r.cnt) := by obtain ⟨_, _, _, e⟩ := c2; rw [e]; simp
  have x4 : ixD (r.d h) (.int 3) = some (tpI r.hi) := by obtain ⟨_, _, _, e⟩ := c2; rw [e]; simp
  clear c1 c2 e0 d1
  generalize l.d h = dl at *
  generalize r.d h = dr at *
  generalize l.side h = sl at *
  generalize r.side h = sr at *
  simp only [hh, lsI, List.map_append, List.map_cons, List.map_nil] at *
  simp only [List.append_assoc, List.cons_append, List.nil_append] at *
  unfold f47 b47
  rw [step (c' := ⟨[.dat (.obj 0 [.int h.m, .int h.k]), .dat dl, .dat dr, .dat (.int (dig h (1 :: (sl ++ sr))))], s⟩) (by simp (disch := first | omega | (simp; done)) [e1, e2, fr1, fr2, ln_le, e3, show ∀ i, (Rv.d (.int i)).free = true from fun _ => rfl])]
  simp [x1, x2, x3, x4]
end
end Ev
end
section
set_option maxRecDepth 100000
set_option maxHeartbeats 1000000
/-! Tre3: ways and puts. -/
namespace Ev
def bitAt (o : List Int) (p : Nat) : Bool := (bitsOf o).getD p 0 == 1
def fb (a b : List Int) : Option Nat := fdiff (bitsOf a) (bitsOf b)
def ahead : Option Nat → Nat → Bool
  | some q, p => decide (q < p)
  | none, _ => false
/-- the way to a key: what was passed, and the tree at its end; none: it comes to a pruned part -/
def wayT (o : List Int) : Tre → Option (List (Tre × Bool) × Tre)
  | .leaf k s => some ([], .leaf k s)
  | .prn c lo hi d => if 1 < c then match fb lo hi with
      | some p => if ahead (fb lo o) p then some ([], .prn c lo hi d) else none
      | none => none
    else some ([], .prn c lo hi d)
  | .node l r => match fb l.lo r.hi with
      | some p => if ahead (fb l.lo o) p then some ([], .node l r)
        else if bitAt o p then (wayT o r).map fun w => ((.node l r, true) :: w.1, w.2) else (wayT o l).map fun w => ((.node l r, false) :: w.1, w.2)
      | none => none
def kids : Tre → Option (Tre × Tre)
  | .node l r => some (l, r)
  | _ => none
def backT1 (t : Tre) (right : Bool) (new : Option Tre) : Option Tre := match t, new with
  | .node l r, none => some (if right then l else r)
  | .node l r, some x => some (if right then .node l x else .node x r)
  | _, n => n
def backT : List (Tre × Bool) → Option Tre → Option Tre
  | [], n => n
  | (t, b) :: w, n => backT1 t b (backT w n)
def joinT (t leaf : Tre) : Tre := if lexLt leaf.lo t.lo then .node leaf t else .node t leaf
/-- putting; none: it is not known -/
def putT (t : Option Tre) (k : List D) (sp : Sps) : Option (Option Tre) := match t with
  | none => some (if sp.isEmpty then none else some (.leaf k sp))
  | some t => (wayT (keyOct k) t).map fun w =>
    if w.2.lo = keyOct k ∧ w.2.hi = keyOct k then backT w.1 (if sp.isEmpty then none else some (.leaf k sp))
    else if sp.isEmpty then some t else backT w.1 (some (joinT w.2 (.leaf k sp)))
def encW (h : Hs) (w : Tre × Bool) : D := .tup [w.1.d h, .bl w.2]
/-! bits -/
theorem fdiff_bit {a b : List Int} {p : Nat} (ha : ∀ x ∈ a, x = 0 ∨ x = 1) (hb : ∀ x ∈ b, x = 0 ∨ x = 1) (h : fdiff a b = some p) : p < a.length ∧ p < b.length ∧ ((a.getD p 0 = 0 ∧ b.getD p 0 = 1) ∨ (a.getD p 0 = 1 ∧ b.getD p 0 = 0)) := by
  obtain ⟨h1, h2, h3⟩ := fdiff_lt a b p h
  have e1 : a.getD p 0 = a[p] := by rw [List.getD_eq_getElem?_getD, List.getElem?_eq_getElem h1]; rfl
  have e2 : b.getD p 0 = b[p] := by rw [List.getD_eq_getElem?_getD, List.getElem?_eq_getElem h2]; rfl
  refine ⟨h1, h2, ?_⟩
  rw [e1, e2]
  rcases ha _ (List.getElem_mem h1) with q1 | q1 <;> rcases hb _ (List.getElem_mem h2) with q2 | q2
  · exact absurd (q1.trans q2.symm) h3
  · exact .inl ⟨q1, q2⟩
  · exact .inr ⟨q1, q2⟩
  · exact absurd (q1.trans q2.symm) h3
/-- fdiff by places -/
theorem fdiff_iff : ∀ (a b : List Int) (p : Nat), fdiff a b = some p ↔ p < a.length ∧ p < b.length ∧ a.getD p 0 ≠ b.getD p 0 ∧ ∀ i, i < p → a.getD i 0 = b.getD i 0
  | [], b, p => by simp [fdiff]
  | _ :: _, [], p => by simp [fdiff]
  | x :: a, y :: b, 0 => by
    by_cases h : x = y
    · simp only [fdiff, h, if_true]
      constructor
      · intro q; cases e : fdiff a b <;> rw [e] at q <;> simp at q
      · intro q; simp at q
    · simp [fdiff, h]
  | x :: a, y :: b, p + 1 => by
    have ih := fdiff_iff a b p
    by_cases h : x = y
    · simp only [fdiff, h, if_true, Option.map_eq_some_iff, Nat.add_right_cancel_iff, exists_eq_right, ih, List.length_cons, Nat.add_lt_add_iff_right, List.getD_cons_succ]
      constructor
      · rintro ⟨h1, h2, h3, h4⟩
        refine ⟨h1, h2, h3, fun i hi => ?_⟩
        cases i with
        | zero => rfl
        | succ i => exact h4 i (by omega)
      · rintro ⟨h1, h2, h3, h4⟩
        exact ⟨h1, h2, h3, fun i hi => h4 (i + 1) (by omega)⟩
    · simp only [fdiff, h, if_false, Option.some.injEq]
      constructor
      · intro q; omega
      · rintro ⟨_, _, _, h4⟩
        exact absurd (h4 0 (by omega)) h
theorem bits_len (a : List Int) : (bitsOf a).length = 8 * a.length := bitsOf_len a
/-- no bit apart: one begins with the other; of keys: equal -/
theorem fb_none {a b : List Int} (ha : isKO a) (hb : isKO b) : fb a b = none ↔ a = b := ⟨ko_eq ha hb, fun h => by subst h; exact fdiff_self _⟩
/-- where one goes on: the key has the bit -/
theorem way_bit {lo hi o : List Int} {p : Nat} (hlo : isKO lo) (ho : isKO o) (e : fb lo hi = some p) (ha : ahead (fb lo o) p = false) : p < (bitsOf o).length ∧ ∀ i, i < p → (bitsOf lo).getD i 0 = (bitsOf o).getD i 0 := by
  have h1 := (fdiff_iff _ _ _).mp e
  cases q : fb lo o with
  | none =>
    have := (fb_none hlo ho).mp q
    subst this
    exact ⟨h1.1, fun _ _ => rfl⟩
  | some k =>
    rw [q] at ha
    simp only [ahead, decide_eq_false_iff_not, Nat.not_lt] at ha
    have h2 := (fdiff_iff _ _ _).mp q
    exact ⟨by omega, fun i hi => h2.2.2.2 i (by omega)⟩
theorem node_split {l r : Tre} (h : (Tre.node l r).ok) : ∃ p, fb l.lo r.hi = some p ∧ ∀ a ∈ l.mem, ∀ b ∈ r.mem, fb a b = some p ∧ (bitsOf a).getD p 0 = 0 := by
  obtain ⟨_, _, p, hp⟩ := h
  exact ⟨p, (hp _ (lo_mem l) _ (hi_mem r)).1, hp⟩
theorem lex_irr : ∀ a : List Int, lexLt a a = false
  | [] => rfl
  | x :: a => by simp [lexLt, lex_irr a]
theorem prn_split {c : Int} {lo hi : List Int} {d : Int} (h : (Tre.prn c lo hi d).ok) (hc : 1 < c) : ∃ p, fb lo hi = some p := by
  cases q : fb lo hi with
  | some p => exact ⟨p, rfl⟩
  | none =>
    have e := (fb_none h.1 h.2.1).mp q
    have := h.2.2.2.2 hc
    rw [e, lex_irr] at this
    cases this
theorem wayT_ok {o : List Int} : ∀ {t : Tre} {w : List (Tre × Bool)} {pl : Tre}, t.ok → wayT o t = some (w, pl) → pl.ok ∧ (∀ x ∈ w, x.1.ok ∧ ∃ l r, x.1 = .node l r) ∧ w.length ≤ t.ht
  | .leaf k s, w, pl, ok, e => by
    simp only [wayT, Option.some.injEq, Prod.mk.injEq] at e
    obtain ⟨rfl, rfl⟩ := e
    exact ⟨ok, (fun x hx => by cases hx), Nat.zero_le _⟩
  | .prn c lo hi d, w, pl, ok, e => by
    simp only [wayT] at e
    have : w = [] ∧ pl = .prn c lo hi d := by
      split at e
      · split at e
        · split at e
          · cases e; exact ⟨rfl, rfl⟩
          · cases e
        · cases e
      · cases e; exact ⟨rfl, rfl⟩
    obtain ⟨rfl, rfl⟩ := this
    exact ⟨ok, (fun x hx => by cases hx), Nat.zero_le _⟩
  | .node l r, w, pl, ok, e => by
    simp only [wayT] at e
    split at e
    · split at e
      · cases e
        exact ⟨ok, (fun x hx => by cases hx), Nat.zero_le _⟩
      · split at e
        · obtain ⟨⟨w', pl'⟩, e1, e2⟩ := Option.map_eq_some_iff.mp e
          cases e2
          obtain ⟨h1, h2, h3⟩ := wayT_ok ok.2.1 e1
          refine ⟨h1, fun x hx => ?_, by simp only [List.length_cons, Tre.ht]; omega⟩
          rcases List.mem_cons.mp hx with rfl | hx
          · exact ⟨ok, l, r, rfl⟩
          · exact h2 x hx
        · obtain ⟨⟨w', pl'⟩, e1, e2⟩ := Option.map_eq_some_iff.mp e
          cases e2
          obtain ⟨h1, h2, h3⟩ := wayT_ok ok.1 e1
          refine ⟨h1, fun x hx => ?_, by simp only [List.length_cons, Tre.ht]; omega⟩
          rcases List.mem_cons.mp hx with rfl | hx
          · exact ⟨ok, l, r, rfl⟩
          · exact h2 x hx
    · cases e
/-! the walks -/
def fbD (a b : List Int) : D := match fb a b with
  | none => .non
  | some t => .int (t : Nat)
section
variable {P : Pg} {s : Sto}
theorem call7m (H : HasT P) {a b : List Int} (ha : isKO a) (hb : isKO b) {m : Nat} (hm : 1 ≤ m) : callN P m 7 [tpI a, tpI b] s = .ok (.d (fbD a b)) s := by
  obtain ⟨n, rfl⟩ : ∃ n, m = n + 1 := ⟨m - 1, by omega⟩
  have h1 := ko_len ha
  have h2 := ko_len hb
  exact call7 (n := n) (s := s) H.p7 H.c0 (ko_oct ha) (ko_oct hb) (by omega) (by omega)
theorem call8m (H : HasT P) {o : List Int} (ho : isKO o) {p : Nat} (hp : p < (bitsOf o).length) {m : Nat} (hm : 1 ≤ m) : callN P m 8 [tpI o, .int p] s = .ok (.d (.bl (bitAt o p))) s := by
  obtain ⟨n, rfl⟩ : ∃ n, m = n + 1 := ⟨m - 1, by omega⟩
  rw [bits_len] at hp
  exact call8 H.p8 H.c0 (ko_oct ho) hp
theorem fr_int (i : Int) : (Rv.d (.int i)).free = true := rfl
theorem fr_bool (i : Bool) : (Rv.d (.bl i)).free = true := rfl
theorem fr_fb (a b : List Int) : (Rv.d (fbD a b)).free = true := by unfold fbD; cases fb a b <;> rfl
theorem call48 (H : HasT P) {h : Hs} (ok : h.ok) {t l : Tre} (ht : t.ok) (hl : l.ok) {m : Nat} (hm : 3 ≤ m) : callN P m 48 [h.d, t.d h, l.d h] s = .ok (.d ((joinT t l).d h)) s := by
  obtain ⟨n, rfl⟩ : ∃ n, m = n + 1 := ⟨m - 1, by omega⟩
  rw [call_eq H.p48 rfl]
  have e1 := call47 (s := s) H ok (l := l) (r := t) hl ht (m := n) (by omega)
  have e2 := call47 (s := s) H ok (l := t) (r := l) ht hl (m := n) (by omega)
  have x1 : ixD (l.d h) (.int 2) = some (tpI l.lo) := by cases l <;> simp [Tre.d, Tre.lo]
  have x2 : ixD (t.d h) (.int 2) = some (tpI t.lo) := by cases t <;> simp [Tre.d, Tre.lo]
  have lt : ltD (tpI l.lo) (tpI t.lo) = some (lexLt l.lo t.lo) := by simp [tpI, ltD, ints_tI]
  have f0 : startL f48.nl [h.d, t.d h, l.d h] = [.dat h.d, .dat (t.d h), .dat (l.d h)] := rfl
  rw [f0]
  unfold joinT
  by_cases q : lexLt l.lo t.lo = true
  · rw [if_pos q]
    rw [q] at lt
    generalize l.d h = dl at *
    generalize t.d h = dt at *
    simp [f48, b48, x1, x2, lt, e1]
  · rw [if_neg q]
    have q : lexLt l.lo t.lo = false := by simpa using q
    rw [q] at lt
    generalize l.d h = dl at *
    generalize t.d h = dt at *
    simp [f48, b48, x1, x2, lt, e2]
theorem loop45 (H : HasT P) {h : Hs} {o : List Int} (ho : isKO o) {m : Nat} (hm : 1 ≤ m) : ∀ (t : Tre) (N : Nat) (acc : List D) (v3 v4 v5 : Sl) (w : List (Tre × Bool)) (pl : Tre), t.ok → t.ht < N → acc.length + t.ht ≤ 100000 → wayT o t = some (w, pl) →
    ∃ c', ((whlL (evT P (callN P m) (.cmp .gt (.ix (.v 0) (.i 1)) (.i 1))) (evSs P (callN P m) l45_0) N ⟨[.dat (t.d h), .dat (tpI o), .own (.lst acc), v3, v4, v5], s⟩).bind (kSeq P (callN P m) [.ret (.tup [(.v 2), (.v 0)])])) = .ok (.rt (.d (.tup [.lst (acc ++ w.map (encW h)), pl.d h]))) c' ∧ c'.sto = s
  | t, 0, acc, v3, v4, v5, w, pl, ok, hN, hl, e => by omega
  | .leaf k sp, N + 1, acc, v3, v4, v5, w, pl, ok, hN, hl, e => by
    simp only [wayT, Option.some.injEq, Prod.mk.injEq] at e
    obtain ⟨rfl, rfl⟩ := e
    have ht : evT P (callN P m) (.cmp .gt (.ix (.v 0) (.i 1)) (.i 1)) ⟨[.dat ((Tre.leaf k sp).d h), .dat (tpI o), .own (.lst acc), v3, v4, v5], s⟩ = .ok false ⟨[.dat ((Tre.leaf k sp).d h), .dat (tpI o), .own (.lst acc), v3, v4, v5], s⟩ := by simp [Tre.d]
    rw [whl_end ht]
    refine ⟨_, by simp; rfl, rfl⟩
  | .prn c lo hi d, N + 1, acc, v3, v4, v5, w, pl, ok, hN, hl, e => by
    simp only [wayT] at e
    by_cases hc : 1 < c
    · rw [if_pos hc] at e
      obtain ⟨p, hp⟩ := prn_split ok hc
      rw [hp] at e
      simp only at e
      split at e
      · rename_i ha
        cases e
        have ht : evT P (callN P m) (.cmp .gt (.ix (.v 0) (.i 1)) (.i 1)) ⟨[.dat ((Tre.prn c lo hi d).d h), .dat (tpI o), .own (.lst acc), v3, v4, v5], s⟩ = .ok true ⟨[.dat ((Tre.prn c lo hi d).d h), .dat (tpI o), .own (.lst acc), v3, v4, v5], s⟩ := by simp [Tre.d, hc]
        have e7 := call7m (s := s) H ok.1 ho hm
        have e7b := call7m (s := s) H ok.1 ok.2.1 hm
        have fr := fr_fb lo o
        have fr2 := fr_fb lo hi
        cases q : fb lo o with
        | none => rw [q] at ha; cases ha
        | some k =>
          rw [q] at ha
          simp only [ahead, decide_eq_true_eq] at ha
          have d1 : fbD lo o = .int (k : Nat) := by unfold fbD; rw [q]
          have d2 : fbD lo hi = .int (p : Nat) := by unfold fbD; rw [hp]
          rw [d1] at e7 fr
          rw [d2] at e7b fr2
          have ha : (k : Int) < (p : Int) := by omega
          rw [whl_rt (v := .d (.tup [.lst acc, (Tre.prn c lo hi d).d h])) (c2 := ⟨[.dat ((Tre.prn c lo hi d).d h), .dat (tpI o), .dat (.lst acc), .dat (.int (k : Nat)), .dat (.int (p : Nat)), v5], s⟩) ht (by simp [l45_0, Tre.d, e7, e7b, fr, fr2, ha])]
          exact ⟨_, by simp; rfl, rfl⟩
      · cases e
    · rw [if_neg hc] at e
      cases e
      have ht : evT P (callN P m) (.cmp .gt (.ix (.v 0) (.i 1)) (.i 1)) ⟨[.dat ((Tre.prn c lo hi d).d h), .dat (tpI o), .own (.lst acc), v3, v4, v5], s⟩ = .ok false ⟨[.dat ((Tre.prn c lo hi d).d h), .dat (tpI o), .own (.lst acc), v3, v4, v5], s⟩ := by simp [Tre.d, hc]
      rw [whl_end ht]
      refine ⟨_, by simp; rfl, rfl⟩
  | .node l r, N + 1, acc, v3, v4, v5, w, pl, ok, hN, hl, e => by
    simp only [wayT] at e
    obtain ⟨p, hp, hs⟩ := node_split ok
    have hlo := mem_ko l ok.1 _ (lo_mem l)
    have hhi := mem_ko r ok.2.1 _ (hi_mem r)
    rw [hp] at e
    simp only at e
    have hc : 1 < l.cnt + r.cnt := by have := cnt_pos l ok.1; have := cnt_pos r ok.2.1; omega
    have ht : evT P (callN P m) (.cmp .gt (.ix (.v 0) (.i 1)) (.i 1)) ⟨[.dat ((Tre.node l r).d h), .dat (tpI o), .own (.lst acc), v3, v4, v5], s⟩ = .ok true ⟨[.dat ((Tre.node l r).d h), .dat (tpI o), .own (.lst acc), v3, v4, v5], s⟩ := by simp [Tre.d, hc]
    have e7 := call7m (s := s) H hlo ho hm
    have e7b := call7m (s := s) H hlo hhi hm
    have fr := fr_fb l.lo o
    have fr2 := fr_fb l.lo r.hi
    have d2 : fbD l.lo r.hi = .int (p : Nat) := by unfold fbD; rw [hp]
    rw [d2] at e7b fr2
    by_cases ha : ahead (fb l.lo o) p = true
    · rw [if_pos ha] at e
      cases e
      cases q : fb l.lo o with
      | none => rw [q] at ha; cases ha
      | some k =>
        rw [q] at ha
        simp only [ahead, decide_eq_true_eq] at ha
        have d1 : fbD l.lo o = .int (k : Nat) := by unfold fbD; rw [q]
        rw [d1] at e7 fr
        have ha : (k : Int) < (p : Int) := by omega
        rw [whl_rt (v := .d (.tup [.lst acc, (Tre.node l r).d h])) (c2 := ⟨[.dat ((Tre.node l r).d h), .dat (tpI o), .dat (.lst acc), .dat (.int (k : Nat)), .dat (.int (p : Nat)), v5], s⟩) ht (by simp [l45_0, Tre.d, e7, e7b, fr, fr2, ha])]
        exact ⟨_, by simp; rfl, rfl⟩
    · rw [if_neg ha] at e
      have ha : ahead (fb l.lo o) p = false := by simpa using ha
      obtain ⟨hpo, _⟩ := way_bit hlo ho hp ha
      have e8 := call8m (s := s) H ho hpo hm
      simp only [Tre.ht] at hN hl
      have hl1 : acc.length ≤ 15999999 := by omega
      have hno : ¬ ∃ k : Nat, fb l.lo o = some k ∧ k < p := fun ⟨k, h1, h2⟩ => by rw [h1] at ha; simp [ahead, h2] at ha
      have hb : ∀ (b : Bool) (nx : Tre), bitAt o p = b → nx = (if b then r else l) → evSs P (callN P m) l45_0 ⟨[.dat ((Tre.node l r).d h), .dat (tpI o), .own (.lst acc), v3, v4, v5], s⟩ = .ok .nx ⟨[.dat (nx.d h), .dat (tpI o), .own (.lst (acc ++ [encW h (.node l r, b)])), .dat (fbD l.lo o), .dat (.int (p : Nat)), .dat (.bl b)], s⟩ := by
        intro b nx hb hnx
        subst hnx
        rw [hb] at e8
        cases q : fb l.lo o with
        | none =>
          have d1 : fbD l.lo o = .non := by unfold fbD; rw [q]
          rw [d1] at e7 fr
          rw [d1]
          cases b <;> simp (disch := first | omega | (simp; done)) [l45_0, Tre.d, e7, e7b, e8, fr, fr2, fr_bool, encW, doApp, ln_lt]
        | some k =>
          have d1 : fbD l.lo o = .int (k : Nat) := by unfold fbD; rw [q]
          rw [d1] at e7 fr
          rw [d1]
          have ha : ¬ (k : Int) < (p : Int) := fun z => hno ⟨k, q, by omega⟩
          cases b <;> simp (disch := first | omega | (simp; done)) [l45_0, Tre.d, e7, e7b, e8, fr, fr2, fr_bool, encW, doApp, ln_lt, ha]
      cases q : bitAt o p with
      | true =>
        rw [q, if_pos rfl] at e
        obtain ⟨⟨w', pl'⟩, e1, e2⟩ := Option.map_eq_some_iff.mp e
        cases e2
        rw [whl_nx ht (hb true r q rfl)]
        obtain ⟨c', e3, e4⟩ := loop45 H (h := h) ho hm r N (acc ++ [encW h (.node l r, true)]) (.dat (fbD l.lo o)) (.dat (.int (p : Nat))) (.dat (.bl true)) w' pl' ok.2.1 (by omega) (by simp only [List.length_append, List.length_cons, List.length_nil]; omega) e1
        refine ⟨c', ?_, e4⟩
        rw [e3]
        simp
      | false =>
        rw [q, if_neg (by simp)] at e
        obtain ⟨⟨w', pl'⟩, e1, e2⟩ := Option.map_eq_some_iff.mp e
        cases e2
        rw [whl_nx ht (hb false l q rfl)]
        obtain ⟨c', e3, e4⟩ := loop45 H (h := h) ho hm l N (acc ++ [encW h (.node l r, false)]) (.dat (fbD l.lo o)) (.dat (.int (p : Nat))) (.dat (.bl false)) w' pl' ok.1 (by omega) (by simp only [List.length_append, List.length_cons, List.length_nil]; omega) e1
        refine ⟨c', ?_, e4⟩
        rw [e3]
        simp
theorem call45 (H : HasT P) {h : Hs} {o : List Int} (ho : isKO o) {t : Tre} {w : List (Tre × Bool)} {pl : Tre} (ok : t.ok) (hh : t.ht ≤ 1000) (e : wayT o t = some (w, pl)) {m : Nat} (hm : 2 ≤ m) : callN P m 45 [t.d h, tpI o] s = .ok (.d (.tup [.lst (w.map (encW h)), pl.d h])) s := by
  obtain ⟨n, rfl⟩ : ∃ n, m = n + 1 := ⟨m - 1, by omega⟩
  rw [call_eq H.p45 rfl]
  obtain ⟨c', e1, e2⟩ := loop45 (s := s) H (h := h) ho (m := n) (by omega) t fuel [] .no .no .no w pl ok (fuel_big (by omega)) (by simp; omega) e
  have f0 : startL f45.nl [t.d h, tpI o] = [.dat (t.d h), .dat (tpI o), .no, .no, .no, .no] := rfl
  have b0 : f45.body = [.asg (.nm 2) (.lst []), .whl (.cmp .gt (.ix (.v 0) (.i 1)) (.i 1)) l45_0, .ret (.tup [(.v 2), (.v 0)])] := rfl
  rw [f0, b0, step (c' := ⟨[.dat (t.d h), .dat (tpI o), .own (.lst []), .no, .no, .no], s⟩) (by simp), lss_cons, es_whl, e1]
  simp [e2]
end
end Ev
end
section
set_option maxRecDepth 100000
set_option maxHeartbeats 1000000
/-! Tre4: puts keep the form. -/
namespace Ev
theorem fdiff_sym (a b : List Int) (p : Nat) (h : fdiff a b = some p) : fdiff b a = some p := by
  rw [fdiff_iff] at h ⊢
  exact ⟨h.2.1, h.1, fun e => h.2.2.1 e.symm, fun i hi => (h.2.2.2 i hi).symm⟩
theorem ko_bit {a : List Int} (ha : isKO a) {p : Nat} (hp : p < (bitsOf a).length) : (bitsOf a).getD p 0 = 0 ∨ (bitsOf a).getD p 0 = 1 := by
  have : (bitsOf a).getD p 0 ∈ bitsOf a := getD_mem hp
  exact bitsOf_01 a (ko_oct ha) _ this
theorem bitAt_t {o : List Int} {p : Nat} (h : bitAt o p = true) : (bitsOf o).getD p 0 = 1 := by simpa [bitAt] using h
theorem bitAt_f {o : List Int} {p : Nat} (ho : isKO o) (hp : p < (bitsOf o).length) (h : bitAt o p = false) : (bitsOf o).getD p 0 = 0 := by
  rcases ko_bit ho hp with q | q
  · exact q
  · have : bitAt o p = true := by unfold bitAt; rw [q]; rfl
    rw [h] at this; cases this
/-- a key that goes to the right: apart from all on the left -/
theorem sep_r {l r : Tre} {o : List Int} {p : Nat} (hs : ∀ a ∈ l.mem, ∀ b ∈ r.mem, fb a b = some p ∧ (bitsOf a).getD p 0 = 0) (hpo : p < (bitsOf o).length) (hag : ∀ i, i < p → (bitsOf l.lo).getD i 0 = (bitsOf o).getD i 0) (hb : (bitsOf o).getD p 0 = 1) :
    ∀ a ∈ l.mem, fb a o = some p ∧ (bitsOf a).getD p 0 = 0 := fun a ha => by
  have h1 := hs a ha _ (hi_mem r)
  have h2 := hs _ (lo_mem l) _ (hi_mem r)
  refine ⟨?_, h1.2⟩
  have f1 := (fdiff_iff _ _ _).mp h1.1
  have f2 := (fdiff_iff _ _ _).mp h2.1
  refine (fdiff_iff _ _ _).mpr ⟨f1.1, hpo, by rw [h1.2, hb]; decide, fun i hi => ?_⟩
  rw [f1.2.2.2 i hi, ← f2.2.2.2 i hi, hag i hi]
theorem sep_l {l r : Tre} {o : List Int} {p : Nat} (hs : ∀ a ∈ l.mem, ∀ b ∈ r.mem, fb a b = some p ∧ (bitsOf a).getD p 0 = 0) (hpo : p < (bitsOf o).length) (hag : ∀ i, i < p → (bitsOf l.lo).getD i 0 = (bitsOf o).getD i 0) (hb : (bitsOf o).getD p 0 = 0) :
    ∀ b ∈ r.mem, fb o b = some p := fun b hb' => by
  have h1 := hs _ (lo_mem l) b hb'
  have f1 := (fdiff_iff _ _ _).mp h1.1
  refine (fdiff_iff _ _ _).mpr ⟨hpo, f1.2.1, ?_, fun i hi => ?_⟩
  · intro z; exact f1.2.2.1 (h1.2.trans (hb.symm.trans z))
  · rw [← hag i hi, f1.2.2.2 i hi]
theorem backT_ok {o : List Int} (ho : isKO o) : ∀ {t : Tre} {w : List (Tre × Bool)} {pl : Tre} {new : Option Tre}, t.ok → wayT o t = some (w, pl) → (∀ x, new = some x → x.ok ∧ ∀ a ∈ x.mem, a ∈ pl.mem ∨ a = o) →
    ∀ x, backT w new = some x → x.ok ∧ ∀ a ∈ x.mem, a ∈ t.mem ∨ a = o
  | .leaf k s, w, pl, new, ok, e, hn => by
    simp only [wayT, Option.some.injEq, Prod.mk.injEq] at e
    obtain ⟨rfl, rfl⟩ := e
    exact hn
  | .prn c lo hi d, w, pl, new, ok, e, hn => by
    simp only [wayT] at e
    have : w = [] ∧ pl = .prn c lo hi d := by
      split at e
      · split at e
        · split at e
          · cases e; exact ⟨rfl, rfl⟩
          · cases e
        · cases e
      · cases e; exact ⟨rfl, rfl⟩
    obtain ⟨rfl, rfl⟩ := this
    exact hn
  | .node l r, w, pl, new, ok, e, hn => by
    obtain ⟨p, hp, hs⟩ := node_split ok
    have hlo := mem_ko l ok.1 _ (lo_mem l)
    simp only [wayT] at e
    rw [hp] at e
    simp only at e
    by_cases ha : ahead (fb l.lo o) p = true
    · rw [if_pos ha] at e
      cases e
      exact hn
    · rw [if_neg ha] at e
      have ha : ahead (fb l.lo o) p = false := by simpa using ha
      obtain ⟨hpo, hag⟩ := way_bit hlo ho hp ha
      cases q : bitAt o p with
      | true =>
        rw [q, if_pos rfl] at e
        obtain ⟨⟨w', pl'⟩, e1, e2⟩ := Option.map_eq_some_iff.mp e
        cases e2
        have ih := backT_ok ho ok.2.1 e1 hn
        intro x hx
        simp only [backT] at hx
        cases q2 : backT w' new with
        | none =>
          rw [q2] at hx
          simp only [backT1, if_true, Option.some.injEq] at hx
          subst hx
          exact ⟨ok.1, fun a h => .inl (List.mem_append_left _ h)⟩
        | some y =>
          rw [q2] at hx
          simp only [backT1, if_true, Option.some.injEq] at hx
          subst hx
          obtain ⟨h1, h2⟩ := ih y q2
          have sr := sep_r hs hpo hag (bitAt_t q)
          refine ⟨⟨ok.1, h1, p, fun a h b hb => ?_⟩, fun a h => ?_⟩
          · rcases h2 b hb with z | rfl
            · exact hs a h b z
            · exact sr a h
          · rcases List.mem_append.mp h with h | h
            · exact .inl (List.mem_append_left _ h)
            · rcases h2 a h with z | z
              · exact .inl (List.mem_append_right _ z)
              · exact .inr z
      | false =>
        rw [q, if_neg (by simp)] at e
        obtain ⟨⟨w', pl'⟩, e1, e2⟩ := Option.map_eq_some_iff.mp e
        cases e2
        have ih := backT_ok ho ok.1 e1 hn
        intro x hx
        simp only [backT] at hx
        cases q2 : backT w' new with
        | none =>
          rw [q2] at hx
          simp only [backT1, Bool.false_eq_true, if_false, Option.some.injEq] at hx
          subst hx
          exact ⟨ok.2.1, fun a h => .inl (List.mem_append_right _ h)⟩
        | some y =>
          rw [q2] at hx
          simp only [backT1, Bool.false_eq_true, if_false, Option.some.injEq] at hx
          subst hx
          obtain ⟨h1, h2⟩ := ih y q2
          have hb0 := bitAt_f ho hpo q
          have sl := sep_l hs hpo hag hb0
          refine ⟨⟨h1, ok.2.1, p, fun a h b hb => ?_⟩, fun a h => ?_⟩
          · rcases h2 a h with z | rfl
            · exact hs a z b hb
            · exact ⟨sl b hb, hb0⟩
          · rcases List.mem_append.mp h with h | h
            · rcases h2 a h with z | z
              · exact .inl (List.mem_append_left _ z)
              · exact .inr z
            · exact .inl (List.mem_append_right _ h)
/-- all of a tree are apart from a key at one bit -/
def Sep (t : Tre) (o : List Int) (q : Nat) : Prop := ∀ a ∈ t.mem, fb a o = some q ∧ (bitsOf a).getD q 0 = (bitsOf t.lo).getD q 0
theorem sep_one {a o : List Int} (ha : isKO a) (ho : isKO o) (h : a ≠ o) : ∃ q, fb a o = some q := by
  cases e : fb a o with
  | some q => exact ⟨q, rfl⟩
  | none => exact absurd ((fb_none ha ho).mp e) h
theorem sep_ahead {a lo o : List Int} {p q : Nat} (hq : fb lo o = some q) (hqp : q < p) (hl : p ≤ (bitsOf a).length) (h : ∀ i, i < p → (bitsOf a).getD i 0 = (bitsOf lo).getD i 0) : fb a o = some q ∧ (bitsOf a).getD q 0 = (bitsOf lo).getD q 0 := by
  have f := (fdiff_iff _ _ _).mp hq
  refine ⟨(fdiff_iff _ _ _).mpr ⟨by omega, f.2.1, by rw [h q hqp]; exact f.2.2.1, fun i hi => ?_⟩, h q hqp⟩
  rw [h i (by omega), f.2.2.2 i hi]
theorem place_sep {o : List Int} (ho : isKO o) : ∀ {t : Tre} {w : List (Tre × Bool)} {pl : Tre}, t.ok → wayT o t = some (w, pl) → ¬ (pl.lo = o ∧ pl.hi = o) → ∃ q, Sep pl o q
  | .leaf k s, w, pl, ok, e, hn => by
    simp only [wayT, Option.some.injEq, Prod.mk.injEq] at e
    obtain ⟨rfl, rfl⟩ := e
    have hk : isKO (keyOct k) := ⟨k, ok.1, ok.2.1, rfl⟩
    have hne : keyOct k ≠ o := fun z => hn ⟨z, z⟩
    obtain ⟨q, hq⟩ := sep_one hk ho hne
    refine ⟨q, fun a h => ?_⟩
    simp only [Tre.mem, List.mem_singleton] at h
    subst h
    exact ⟨hq, rfl⟩
  | .prn c lo hi d, w, pl, ok, e, hn => by
    simp only [wayT] at e
    by_cases hc : 1 < c
    · rw [if_pos hc] at e
      obtain ⟨p, hp⟩ := prn_split ok hc
      rw [hp] at e
      simp only at e
      split at e
      · rename_i ha
        cases e
        cases q : fb lo o with
        | none => rw [q] at ha; cases ha
        | some k =>
          rw [q] at ha
          simp only [ahead, decide_eq_true_eq] at ha
          have f := (fdiff_iff _ _ _).mp hp
          refine ⟨k, fun a h => ?_⟩
          simp only [Tre.mem, List.mem_cons, List.not_mem_nil, or_false] at h
          rcases h with rfl | rfl
          · exact ⟨q, rfl⟩
          · exact sep_ahead q ha (by omega) fun i hi => (f.2.2.2 i hi).symm
      · cases e
    · rw [if_neg hc] at e
      cases e
      have h1 : c = 1 := by have := ok.2.2.1; omega
      have h2 := ok.2.2.2.1 h1
      subst h2
      have hne : lo ≠ o := fun z => hn ⟨z, z⟩
      obtain ⟨q, hq⟩ := sep_one ok.1 ho hne
      refine ⟨q, fun a h => ?_⟩
      simp only [Tre.mem, List.mem_cons, List.not_mem_nil, or_false, or_self] at h
      subst h
      exact ⟨hq, rfl⟩
  | .node l r, w, pl, ok, e, hn => by
    obtain ⟨p, hp, hs⟩ := node_split ok
    simp only [wayT] at e
    rw [hp] at e
    simp only at e
    by_cases ha : ahead (fb l.lo o) p = true
    · rw [if_pos ha] at e
      cases e
      cases q : fb l.lo o with
      | none => rw [q] at ha; cases ha
      | some k =>
        rw [q] at ha
        simp only [ahead, decide_eq_true_eq] at ha
        have f := (fdiff_iff _ _ _).mp hp
        refine ⟨k, fun a h => ?_⟩
        rcases List.mem_append.mp h with h | h
        · have f2 := (fdiff_iff _ _ _).mp (hs a h _ (hi_mem r)).1
          exact sep_ahead q ha (by omega) fun i hi => (f2.2.2.2 i hi).trans (f.2.2.2 i hi).symm
        · have f2 := (fdiff_iff _ _ _).mp (hs _ (lo_mem l) a h).1
          exact sep_ahead q ha (by omega) fun i hi => (f2.2.2.2 i hi).symm
    · rw [if_neg ha] at e
      split at e
      · obtain ⟨⟨w', pl'⟩, e1, e2⟩ := Option.map_eq_some_iff.mp e
        cases e2
        exact place_sep ho ok.2.1 e1 hn
      · obtain ⟨⟨w', pl'⟩, e1, e2⟩ := Option.map_eq_some_iff.mp e
        cases e2
        exact place_sep ho ok.1 e1 hn
theorem joinT_ok {t : Tre} {k : List D} {sp : Sps} (ok : t.ok) (hl : (Tre.leaf k sp).ok) {q : Nat} (h : Sep t (keyOct k) q) : (joinT t (.leaf k sp)).ok ∧ ∀ a ∈ (joinT t (.leaf k sp)).mem, a ∈ t.mem ∨ a = keyOct k := by
  have hk : isKO (keyOct k) := ⟨k, hl.1, hl.2.1, rfl⟩
  have h0 := h _ (lo_mem t)
  have hlo := mem_ko t ok _ (lo_mem t)
  have f0 := (fdiff_iff _ _ _).mp h0.1
  have lx := lex_bits (keyOct k) t.lo q (ko_oct hk) (ko_oct hlo) (fdiff_sym _ _ _ h0.1)
  unfold joinT
  by_cases c : lexLt (Tre.leaf k sp).lo t.lo = true
  · rw [if_pos c]
    have b1 : (bitsOf t.lo).getD q 0 = 1 := lx.mp c
    have b0 : (bitsOf (keyOct k)).getD q 0 = 0 := by
      rcases ko_bit hk f0.2.1 with z | z
      · exact z
      · exact absurd (b1.trans z.symm) f0.2.2.1
    refine ⟨⟨hl, ok, q, fun a ha b hb => ?_⟩, fun a ha => ?_⟩
    · simp only [Tre.mem, List.mem_singleton] at ha
      subst ha
      exact ⟨fdiff_sym _ _ _ (h b hb).1, b0⟩
    · rcases List.mem_append.mp ha with z | z
      · right; simpa [Tre.mem] using z
      · exact .inl z
  · rw [if_neg c]
    have b0 : (bitsOf t.lo).getD q 0 = 0 := by
      rcases ko_bit hlo f0.1 with z | z
      · exact z
      · exact absurd (lx.mpr z) c
    refine ⟨⟨ok, hl, q, fun a ha b hb => ?_⟩, fun a ha => ?_⟩
    · simp only [Tre.mem, List.mem_singleton] at hb
      subst hb
      obtain ⟨z1, z2⟩ := h a ha
      exact ⟨z1, z2.trans b0⟩
    · rcases List.mem_append.mp ha with z | z
      · exact .inl z
      · right; simpa [Tre.mem] using z
def okOp (t : Option Tre) : Prop := ∀ x, t = some x → x.ok
theorem putT_ok {t : Option Tre} {k : List D} {sp : Sps} {r : Option Tre} (ok : okOp t) (hk : ∀ x ∈ k, valOk x = true) (hl : k.length ≤ 12) (hs : sp.length ≤ 10000) (e : putT t k sp = some r) : okOp r := by
  have lf : (Tre.leaf k sp).ok := ⟨hk, hl, hs⟩
  have ho : isKO (keyOct k) := ⟨k, hk, hl, rfl⟩
  cases t with
  | none =>
    simp only [putT, Option.some.injEq] at e
    subst e
    intro x hx
    split at hx
    · cases hx
    · cases hx; exact lf
  | some t =>
    have ok := ok t rfl
    simp only [putT] at e
    obtain ⟨⟨w, pl⟩, e1, e2⟩ := Option.map_eq_some_iff.mp e
    subst e2
    obtain ⟨okp, _, _⟩ := wayT_ok ok e1
    intro x hx
    simp only at hx
    split at hx
    · refine (backT_ok ho ok e1 (fun y hy => ?_) x hx).1
      split at hy
      · cases hy
      · cases hy
        exact ⟨lf, fun a h => .inr (by simpa [Tre.mem] using h)⟩
    · rename_i hn
      split at hx
      · cases hx; exact ok
      · obtain ⟨q, hq⟩ := place_sep ho ok e1 hn
        refine (backT_ok ho ok e1 (fun y hy => ?_) x hx).1
        cases hy
        exact joinT_ok okp lf hq
/-! sizes -/
def Tre.sz : Tre → Nat
  | .leaf _ _ => 1
  | .node l r => l.sz + r.sz
  | .prn _ _ _ _ => 1
theorem sz_pos : ∀ t : Tre, 1 ≤ t.sz
  | .leaf _ _ => Nat.le_refl _
  | .node l r => by have := sz_pos l; simp only [Tre.sz]; omega
  | .prn _ _ _ _ => Nat.le_refl _
theorem ht_sz : ∀ t : Tre, t.ht < t.sz
  | .leaf _ _ => by simp [Tre.ht, Tre.sz]
  | .node l r => by have := ht_sz l; have := ht_sz r; have := sz_pos l; have := sz_pos r; simp only [Tre.ht, Tre.sz]; omega
  | .prn _ _ _ _ => by simp [Tre.ht, Tre.sz]
def szO : Option Tre → Nat
  | none => 0
  | some t => t.sz
theorem backT_sz {o : List Int} : ∀ {t : Tre} {w : List (Tre × Bool)} {pl : Tre} {new : Option Tre}, wayT o t = some (w, pl) → szO (backT w new) + pl.sz ≤ t.sz + szO new
  | .leaf k s, w, pl, new, e => by
    simp only [wayT, Option.some.injEq, Prod.mk.injEq] at e
    obtain ⟨rfl, rfl⟩ := e
    simp only [backT]; omega
  | .prn c lo hi d, w, pl, new, e => by
    simp only [wayT] at e
    have : w = [] ∧ pl = .prn c lo hi d := by
      split at e
      · split at e
        · split at e
          · cases e; exact ⟨rfl, rfl⟩
          · cases e
        · cases e
      · cases e; exact ⟨rfl, rfl⟩
    obtain ⟨rfl, rfl⟩ := this
    simp only [backT]; omega
  | .node l r, w, pl, new, e => by
    simp only [wayT] at e
    split at e
    · split at e
      · cases e; simp only [backT]; omega
      · split at e
        · obtain ⟨⟨w', pl'⟩, e1, e2⟩ := Option.map_eq_some_iff.mp e
          cases e2
          have ih := backT_sz (new := new) e1
          simp only [backT, Tre.sz]
          cases q : backT w' new with
          | none => rw [q] at ih; simp only [backT1, szO] at ih ⊢; simp only [if_true, szO]; omega
          | some y => rw [q] at ih; simp only [backT1, if_true, szO, Tre.sz] at ih ⊢; omega
        · obtain ⟨⟨w', pl'⟩, e1, e2⟩ := Option.map_eq_some_iff.mp e
          cases e2
          have ih := backT_sz (new := new) e1
          simp only [backT, Tre.sz]
          cases q : backT w' new with
          | none => rw [q] at ih; simp only [backT1, szO] at ih ⊢; simp only [Bool.false_eq_true, if_false, szO]; omega
          | some y => rw [q] at ih; simp only [backT1, Bool.false_eq_true, if_false, szO, Tre.sz] at ih ⊢; omega
    · cases e
theorem joinT_sz (t l : Tre) : (joinT t l).sz = t.sz + l.sz := by unfold joinT; split <;> simp only [Tre.sz] <;> omega
theorem putT_sz {t : Option Tre} {k : List D} {sp : Sps} {r : Option Tre} (e : putT t k sp = some r) : szO r ≤ szO t + 1 := by
  cases t with
  | none =>
    simp only [putT, Option.some.injEq] at e
    subst e
    split <;> simp [szO, Tre.sz]
  | some t =>
    simp only [putT] at e
    obtain ⟨⟨w, pl⟩, e1, e2⟩ := Option.map_eq_some_iff.mp e
    subst e2
    have hp := sz_pos pl
    show szO (if pl.lo = keyOct k ∧ pl.hi = keyOct k then _ else _) ≤ t.sz + 1
    split
    · have := backT_sz (new := if sp.isEmpty then none else some (.leaf k sp)) e1
      have h1 : szO (if sp.isEmpty then none else some (Tre.leaf k sp)) ≤ 1 := by split <;> simp [szO, Tre.sz]
      show szO (backT w (if sp.isEmpty = true then none else some (Tre.leaf k sp))) ≤ _
      generalize (if sp.isEmpty = true then none else some (Tre.leaf k sp)) = nw at *
      omega
    · split
      · simp [szO]
      · have := backT_sz (new := some (joinT pl (.leaf k sp))) e1
        have e3 : szO (some (joinT pl (.leaf k sp))) = pl.sz + 1 := by simp only [szO, joinT_sz, Tre.sz]
        rw [e3] at this
        show szO (backT w (some (joinT pl (.leaf k sp)))) ≤ _
        omega
end Ev
end
section
set_option maxRecDepth 100000
set_option maxHeartbeats 1000000
/-! Tre5: put. -/
namespace Ev
theorem lay_two {i j : Nat} {a b : D} {c : C} : lay (.tp [i, j]) (.d (.tup [a, b])) c = .ok .nx ((c.set i (.dat a)).set j (.dat b)) := rfl
theorem tgt_two {i j : Nat} {a b : D} {c : C} : tgt (.tp [i, j]) (.tup [a, b]) c = some ((c.set i (.dat a)).set j (.dat b)) := rfl
/-- a loop that goes through to its end -/
def Thru (t : Tg) (body : C → R Fl) : List D → C → C → Prop
  | [], c, c' => c = c'
  | x :: xs, c, c' => ∃ c1 c2, tgt t x c = some c1 ∧ (body c1 = .ok .nx c2 ∨ body c1 = .ok .ct c2) ∧ Thru t body xs c2 c'
theorem Thru.app {t : Tg} {body : C → R Fl} : ∀ {xs ys : List D} {c c' c'' : C}, Thru t body xs c c' → Thru t body ys c' c'' → Thru t body (xs ++ ys) c c''
  | [], ys, c, c', c'', h, h' => by cases h; exact h'
  | x :: xs, ys, c, c', c'', ⟨c1, c2, h1, h2, h3⟩, h' => ⟨c1, c2, h1, h2, h3.app h'⟩
theorem Thru.one {t : Tg} {body : C → R Fl} {x : D} {c c1 c' : C} (h1 : tgt t x c = some c1) (h2 : body c1 = .ok .nx c') : Thru t body [x] c c' := ⟨c1, c', h1, .inl h2, rfl⟩
theorem Thru.forL {t : Tg} {body : C → R Fl} : ∀ {xs : List D} {c c' : C}, Thru t body xs c c' → Ev.forL t body xs c = .ok .nx c'
  | [], c, c', h => by cases h; rfl
  | x :: xs, c, c', ⟨c1, c2, h1, h2, h3⟩ => by
    have ih := h3.forL
    unfold Ev.forL
    rw [h1]
    rcases h2 with h2 | h2 <;> simp only [h2, bind_ok] <;> exact ih
theorem is_opt {h : Hs} {t : Option Tre} : isD (optD h t) .non = some t.isNone := by
  cases t with
  | none => rfl
  | some t => cases t <;> rfl
section
variable {P : Pg} {s : Sto}
theorem back49 (H : HasT P) {h : Hs} (ok : h.ok) {m : Nat} (hm : 2 ≤ m) {v1 v2 v3 v4 v5 v6 : Sl} {t : Tre} (hn : ∃ l r, t = .node l r) (okt : t.ok) (b : Bool) (new : Option Tre) (okn : okOp new) (v10 : Sl) :
    ∃ v10', evSs P (callN P m) l49_0 ⟨[.dat h.d, v1, v2, v3, v4, v5, v6, .dat (optD h new), .dat (t.d h), .dat (.bl b), v10], s⟩ = .ok .nx ⟨[.dat h.d, v1, v2, v3, v4, v5, v6, .dat (optD h (backT1 t b new)), .dat (t.d h), .dat (.bl b), v10'], s⟩ := by
  obtain ⟨l, r, rfl⟩ := hn
  have io := is_opt (h := h) (t := new)
  have fr : ∀ x : Tre, x.ok → (Rv.d (x.d h)).free = true := fun x hx => tr_flat h x hx
  have x5 : ixD ((Tre.node l r).d h) (.int 5) = some (l.d h) := by simp [Tre.d]
  have x6 : ixD ((Tre.node l r).d h) (.int 6) = some (r.d h) := by simp [Tre.d]
  generalize (Tre.node l r).d h = dn at *
  cases new with
  | none =>
    cases b
    · exact ⟨.dat (r.d h), by simp [l49_0, x5, x6, backT1, optD]⟩
    · exact ⟨.dat (l.d h), by simp [l49_0, x5, x6, backT1, optD]⟩
  | some x =>
    have okx := okn x rfl
    have e1 := call47 (s := s) H ok (l := l) (r := x) okt.1 okx hm
    have e2 := call47 (s := s) H ok (l := x) (r := r) okx okt.2.1 hm
    simp only [optD, Option.isNone_some] at io
    have f1 : (Rv.d ((Tre.node l x).d h)).free = true := by
      simp only [Rv.free, Tre.d, flat, flatA, flat_tI, tr_flat h l okt.1, tr_flat h x okx, Bool.and_self]
    have f2 : (Rv.d ((Tre.node x r).d h)).free = true := by
      simp only [Rv.free, Tre.d, flat, flatA, flat_tI, tr_flat h r okt.2.1, tr_flat h x okx, Bool.and_self]
    cases b
    · refine ⟨.dat (r.d h), ?_⟩
      simp only [optD, backT1, Bool.false_eq_true, if_false]
      generalize (Tre.node x r).d h = res at *
      simp [l49_0, x5, x6, io, e2, f2]
    · refine ⟨.dat (l.d h), ?_⟩
      simp only [optD, backT1, if_true]
      generalize (Tre.node l x).d h = res at *
      simp [l49_0, x5, x6, io, e1, f1]
theorem loop49 (H : HasT P) {h : Hs} (ok : h.ok) {m : Nat} (hm : 2 ≤ m) {v1 v2 v3 v4 v5 v6 : Sl} {o : List Int} (ho : isKO o) : ∀ (w : List (Tre × Bool)) (t pl : Tre) (new : Option Tre) (v8 v9 v10 : Sl), t.ok → wayT o t = some (w, pl) → (∀ x, new = some x → x.ok ∧ ∀ a ∈ x.mem, a ∈ pl.mem ∨ a = o) →
    ∃ v8' v9' v10', Thru (.tp [8, 9]) (evSs P (callN P m) l49_0) (w.map (encW h)).reverse ⟨[.dat h.d, v1, v2, v3, v4, v5, v6, .dat (optD h new), v8, v9, v10], s⟩ ⟨[.dat h.d, v1, v2, v3, v4, v5, v6, .dat (optD h (backT w new)), v8', v9', v10'], s⟩
  | [], t, pl, new, v8, v9, v10, okt, e, hn => ⟨v8, v9, v10, rfl⟩
  | (x, b) :: w, t, pl, new, v8, v9, v10, okt, e, hn => by
    obtain ⟨_, hx, _⟩ := wayT_ok okt e
    obtain ⟨okx, hxn⟩ := hx (x, b) List.mem_cons_self
    obtain ⟨t', okt', e'⟩ : ∃ t', t'.ok ∧ wayT o t' = some (w, pl) := by
      cases t with
      | leaf k s => simp only [wayT, Option.some.injEq, Prod.mk.injEq] at e; exact absurd e.1 (by simp)
      | prn c lo hi d =>
        simp only [wayT] at e
        split at e
        · split at e
          · split at e <;> cases e
          · cases e
        · cases e
      | node l r =>
        simp only [wayT] at e
        split at e
        · split at e
          · cases e
          · split at e
            · obtain ⟨⟨w', pl'⟩, e1, e2⟩ := Option.map_eq_some_iff.mp e
              cases e2
              exact ⟨r, okt.2.1, e1⟩
            · obtain ⟨⟨w', pl'⟩, e1, e2⟩ := Option.map_eq_some_iff.mp e
              cases e2
              exact ⟨l, okt.1, e1⟩
        · cases e
    obtain ⟨u8, u9, u10, ih⟩ := loop49 H ok hm (v1 := v1) (v2 := v2) (v3 := v3) (v4 := v4) (v5 := v5) (v6 := v6) ho w t' pl new v8 v9 v10 okt' e' hn
    have okn : okOp (backT w new) := fun y hy => (backT_ok ho okt' e' hn y hy).1
    obtain ⟨w10, hb⟩ := back49 (s := s) H ok hm (v1 := v1) (v2 := v2) (v3 := v3) (v4 := v4) (v5 := v5) (v6 := v6) hxn okx b (backT w new) okn u10
    refine ⟨.dat (x.d h), .dat (.bl b), w10, ?_⟩
    rw [List.map_cons, List.reverse_cons]
    exact ih.app (Thru.one (c1 := ⟨[.dat h.d, v1, v2, v3, v4, v5, v6, .dat (optD h (backT w new)), .dat (x.d h), .dat (.bl b), u10], s⟩) rfl hb)
theorem call49 (H : HasT P) {h : Hs} (ok : h.ok) {t : Option Tre} {k : List D} {sp : Sps} {r : Option Tre} (okt : okOp t) (hz : szO t ≤ 1000) (hk : ∀ x ∈ k, valOk x = true) (hl : k.length ≤ 12) (hs : sp.length ≤ 10000) (e : putT t k sp = some r) {m : Nat} (hm : 6 ≤ m) :
    callN P m 49 [h.d, optD h t, .tup k, spD sp] s = .ok (.d (optD h r)) s := by
  obtain ⟨n, rfl⟩ : ∃ n, m = n + 1 := ⟨m - 1, by omega⟩
  rw [call_eq H.p49 rfl]
  have okr := putT_ok okt hk hl hs e
  have lf : (Tre.leaf k sp).ok := ⟨hk, hl, hs⟩
  have ho : isKO (keyOct k) := ⟨k, hk, hl, rfl⟩
  have e44 := call44 (s := s) H ok hk hl hs (m := n) (by omega)
  have e3 := call3m (s := s) H hk (by omega) (m := n) (by omega)
  have f44 := free_d (tr_flat h _ lf)
  have f3 := free_d (flat_tI (keyOct k))
  have f0 : startL f49.nl [h.d, optD h t, .tup k, spD sp] = [.dat h.d, .dat (optD h t), .dat (.tup k), .dat (spD sp), .no, .no, .no, .no, .no, .no, .no] := rfl
  have tsp : truD (spD sp) = some (!sp.isEmpty) := by simp [spD, truD]
  rw [f0]
  cases t with
  | none =>
    simp only [putT, Option.some.injEq] at e
    subst e
    cases q : sp.isEmpty with
    | true =>
      rw [q] at tsp
      simp only [if_true, optD]
      generalize spD sp = ds at *
      simp [f49, b49, tsp]
    | false =>
      rw [q] at tsp
      simp only [Bool.false_eq_true, if_false, optD]
      generalize spD sp = ds at *
      simp [f49, b49, tsp, e44, f44]
  | some t =>
    have okt := okt t rfl
    simp only [putT] at e
    obtain ⟨⟨w, pl⟩, e1, e2⟩ := Option.map_eq_some_iff.mp e
    obtain ⟨okp, _, hwl⟩ := wayT_ok okt e1
    have hht := ht_sz t
    simp only [szO] at hz
    have e45 := call45 (s := s) H (h := h) ho okt (by omega) e1 (m := n) (by omega)
    have ino : isD (t.d h) .non = some false := is_opt (h := h) (t := some t)
    have x2 : ixD (pl.d h) (.int 2) = some (tpI pl.lo) := by cases pl <;> simp [Tre.d, Tre.lo]
    have x3 : ixD (pl.d h) (.int 3) = some (tpI pl.hi) := by cases pl <;> simp [Tre.d, Tre.hi]
    have q2 : deq (tpI pl.lo) (tpI (keyOct k)) = decide (pl.lo = keyOct k) := by rw [deq_tI]; by_cases z : pl.lo = keyOct k <;> simp [z]
    have q3 : deq (tpI pl.hi) (tpI (keyOct k)) = decide (pl.hi = keyOct k) := by rw [deq_tI]; by_cases z : pl.hi = keyOct k <;> simp [z]
    have s2 := shp_tI pl.lo
    have s3 := shp_tI pl.hi
    have s4 := shp_tI (keyOct k)
    let env (x : Option Tre) : C := ⟨[.dat h.d, .dat (t.d h), .dat (.tup k), .dat (spD sp), .dat (tpI (keyOct k)), .dat (.lst (w.map (encW h))), .dat (pl.d h), .dat (optD h x), .no, .no, .no], s⟩
    have tail : ∀ x : Option Tre, (∀ y, x = some y → y.ok ∧ ∀ a ∈ y.mem, a ∈ pl.mem ∨ a = keyOct k) → endR (evSs P (callN P n) [.forr (.tp [8, 9]) .revd [(.v 5)] l49_0, .ret (.v 7)] (env x)) = .ok (.d (optD h (backT w x))) s := fun x hx => by
      obtain ⟨u8, u9, u10, el⟩ := loop49 (s := s) H ok (m := n) (by omega) (v1 := .dat (t.d h)) (v2 := .dat (.tup k)) (v3 := .dat (spD sp)) (v4 := .dat (tpI (keyOct k))) (v5 := .dat (.lst (w.map (encW h)))) (v6 := .dat (pl.d h)) ho w t pl x .no .no .no okt e1 hx
      have hw : wkD .revd [.lst (w.map (encW h))] = some (w.map (encW h)).reverse := rfl
      have el := el.forL
      simp [env, forL_d hw, el]
    have head : endR (evSs P (callN P n) f49.body ⟨[.dat h.d, .dat (optD h (some t)), .dat (.tup k), .dat (spD sp), .no, .no, .no, .no, .no, .no, .no], s⟩) = endR ((evSs P (callN P n) [.ife (.or (.cmp .ne (.ix (.v 6) (.i 2)) (.v 4)) (.cmp .ne (.ix (.v 6) (.i 3)) (.v 4)))
        [.ife (.not (.v 3)) [.ret (.v 1)] [], .asg (.nm 7) (.call 48 [(.v 0), (.v 6), (.call 44 [(.v 0), (.v 2), (.v 3)])])]
        [.ife (.v 3) [.asg (.nm 7) (.call 44 [(.v 0), (.v 2), (.v 3)])] []], .forr (.tp [8, 9]) .revd [(.v 5)] l49_0, .ret (.v 7)] (env none))) := by
      have b0 : f49.body = [.ife (.cmp .is (.v 1) .n) [.ret (.ite (.v 3) (.call 44 [(.v 0), (.v 2), (.v 3)]) .n)] [], .asg (.nm 4) (.call 3 [(.v 2)]), .asg (.tp [5, 6]) (.call 45 [(.v 1), (.v 4)]), .asg (.nm 7) .n,
        .ife (.or (.cmp .ne (.ix (.v 6) (.i 2)) (.v 4)) (.cmp .ne (.ix (.v 6) (.i 3)) (.v 4)))
        [.ife (.not (.v 3)) [.ret (.v 1)] [], .asg (.nm 7) (.call 48 [(.v 0), (.v 6), (.call 44 [(.v 0), (.v 2), (.v 3)])])]
        [.ife (.v 3) [.asg (.nm 7) (.call 44 [(.v 0), (.v 2), (.v 3)])] []], .forr (.tp [8, 9]) .revd [(.v 5)] l49_0, .ret (.v 7)] := rfl
      have ff : (Rv.d (.tup [.lst (w.map (encW h)), pl.d h])).free = false := rfl
      rw [b0]
      simp only [optD]
      rw [step (c' := ⟨[.dat h.d, .dat (t.d h), .dat (.tup k), .dat (spD sp), .no, .no, .no, .no, .no, .no, .no], s⟩) (by simp [ino])]
      rw [step (c' := ⟨[.dat h.d, .dat (t.d h), .dat (.tup k), .dat (spD sp), .dat (tpI (keyOct k)), .no, .no, .no, .no, .no, .no], s⟩) (by simp [e3, f3])]
      rw [step (c' := ⟨[.dat h.d, .dat (t.d h), .dat (.tup k), .dat (spD sp), .dat (tpI (keyOct k)), .dat (.lst (w.map (encW h))), .dat (pl.d h), .no, .no, .no, .no], s⟩) (by simp [e45, ff, lay_two])]
      rw [step (c' := ⟨[.dat h.d, .dat (t.d h), .dat (.tup k), .dat (spD sp), .dat (tpI (keyOct k)), .dat (.lst (w.map (encW h))), .dat (pl.d h), .dat .non, .no, .no, .no], s⟩) (by simp)]
      rfl
    rw [head]
    by_cases hc : pl.lo = keyOct k ∧ pl.hi = keyOct k
    · simp only [hc.1, hc.2, and_self, if_true] at e2
      subst e2
      rw [hc.1] at q2 x2 s2
      rw [hc.2] at q3 x3 s3
      simp only [decide_true] at q2 q3
      cases q : sp.isEmpty with
      | true =>
        rw [q] at tsp
        simp only [if_true]
        rw [step (c' := env none) (by simp [env, x2, x3, s4, q2, q3, tsp]), tail none fun y hy => by cases hy]
      | false =>
        rw [q] at tsp
        simp only [Bool.false_eq_true, if_false]
        rw [step (c' := env (some (.leaf k sp))) (by simp [env, x2, x3, s4, q2, q3, tsp, e44, f44, optD]), tail _ fun y hy => by cases hy; exact ⟨lf, fun a h => .inr (by simpa [Tre.mem] using h)⟩]
    · have e2 : (if sp.isEmpty then some t else backT w (some (joinT pl (.leaf k sp)))) = r := by
        have : (if pl.lo = keyOct k ∧ pl.hi = keyOct k then backT w (if sp.isEmpty then none else some (.leaf k sp)) else if sp.isEmpty then some t else backT w (some (joinT pl (.leaf k sp)))) = r := e2
        rw [if_neg hc] at this
        exact this
      subst e2
      obtain ⟨q', hq'⟩ := place_sep ho okt e1 hc
      have jok := joinT_ok okp lf hq'
      have e48 := call48 (s := s) H ok okp lf (m := n) (by omega)
      have f48' := free_d (tr_flat h _ jok.1)
      have tst : ∀ c, c = env none → evT P (callN P n) (.or (.cmp .ne (.ix (.v 6) (.i 2)) (.v 4)) (.cmp .ne (.ix (.v 6) (.i 3)) (.v 4))) c = .ok true c := fun c hcc => by
        subst hcc
        by_cases z : pl.lo = keyOct k
        · have z2 : ¬ pl.hi = keyOct k := fun z2 => hc ⟨z, z2⟩
          simp only [z, decide_true] at q2
          simp only [z2, decide_false] at q3
          rw [z] at x2 s2
          simp [env, x2, x3, s3, s4, q2, q3]
        · simp only [z, decide_false] at q2
          simp [env, x2, s2, s4, q2]
      have tst := tst _ rfl
      rw [lss_cons, ls_ife, tst, bind_ok, kq_ifet]
      cases q : sp.isEmpty with
      | true =>
        rw [q] at tsp
        simp [env, tsp, optD]
      | false =>
        rw [q] at tsp
        simp only [Bool.false_eq_true, if_false]
        have st : evSs P (callN P n) [.ife (.not (.v 3)) [.ret (.v 1)] [], .asg (.nm 7) (.call 48 [(.v 0), (.v 6), (.call 44 [(.v 0), (.v 2), (.v 3)])])] (env none) = .ok .nx (env (some (joinT pl (.leaf k sp)))) := by
          simp [env, tsp, e44, f44, e48, f48', optD]
        rw [st, bind_ok, kq_seq, nxt_nx, tail _ fun y hy => by cases hy; exact jok]
end
end Ev
end
section
set_option maxRecDepth 100000
set_option maxHeartbeats 1000000
/-! Tre6: papers; inputs; roots. -/
namespace Ev
def sNode : List Nat := [110, 111, 100, 101]
def sLeaf : List Nat := [108, 101, 97, 102]
def sPruned : List Nat := [112, 114, 117, 110, 101, 100]
/-- the parts of a tree in preorder -/
def pap (h : Hs) : Tre → List D
  | .leaf k s => [.tup [.str sLeaf, .tup k, spD s]]
  | .node l r => .tup [.str sNode] :: (pap h l ++ pap h r)
  | .prn c lo hi d => [(Tre.prn c lo hi d).d h]
def papO (h : Hs) : Option Tre → List D
  | none => []
  | some t => pap h t
def Tre.nn : Tre → Nat
  | .leaf _ _ => 1
  | .node l r => l.nn + r.nn + 1
  | .prn _ _ _ _ => 1
theorem nn_sz : ∀ t : Tre, t.nn + 1 = 2 * t.sz
  | .leaf _ _ => rfl
  | .node l r => by have := nn_sz l; have := nn_sz r; simp only [Tre.nn, Tre.sz]; omega
  | .prn _ _ _ _ => rfl
def nns (ts : List Tre) : Nat := (ts.map Tre.nn).sum
theorem nns_cons (t : Tre) (ts : List Tre) : nns (t :: ts) = t.nn + nns ts := by simp [nns]
theorem nn_pos : ∀ t : Tre, 1 ≤ t.nn := fun t => by have := nn_sz t; have := sz_pos t; omega
theorem len_nns : ∀ ts : List Tre, ts.length ≤ nns ts
  | [] => Nat.zero_le _
  | t :: ts => by have := len_nns ts; have := nn_pos t; rw [nns_cons, List.length_cons]; omega
theorem pap_len (h : Hs) : ∀ t : Tre, (pap h t).length = t.nn
  | .leaf _ _ => rfl
  | .node l r => by have := pap_len h l; have := pap_len h r; simp only [pap, Tre.nn, List.length_cons, List.length_append]; omega
  | .prn _ _ _ _ => rfl
section
variable {P : Pg} {s : Sto} {call : CallT}
theorem loop50 {h : Hs} {v0 : Sl} : ∀ (N : Nat) (ts : List Tre) (acc : List D) (v3 : Sl), nns ts < N → acc.length + nns ts ≤ 1000000 →
    ∃ v3', whlL (evT P call (.v 2)) (evSs P call l50_0) N ⟨[v0, .own (.lst acc), .own (.lst (ts.map (Tre.d h)).reverse), v3], s⟩ = .ok .nx ⟨[v0, .own (.lst (acc ++ ts.flatMap (pap h))), .own (.lst []), v3'], s⟩
  | 0, ts, acc, v3, hN, _ => by omega
  | N + 1, [], acc, v3, hN, hl => by
    refine ⟨v3, ?_⟩
    have ht : evT P call (.v 2) ⟨[v0, .own (.lst acc), .own (.lst []), v3], s⟩ = .ok false ⟨[v0, .own (.lst acc), .own (.lst []), v3], s⟩ := by simp
    simp only [List.map_nil, List.reverse_nil, List.flatMap_nil, List.append_nil]
    exact whl_end ht
  | N + 1, t :: ts, acc, v3, hN, hl => by
    rw [nns_cons] at hN hl
    have hp := nn_pos t
    have hts := len_nns ts
    have ht : evT P call (.v 2) ⟨[v0, .own (.lst acc), .own (.lst ((t :: ts).map (Tre.d h)).reverse), v3], s⟩ = .ok true ⟨[v0, .own (.lst acc), .own (.lst ((t :: ts).map (Tre.d h)).reverse), v3], s⟩ := by simp
    have hlen : acc.length ≤ 1000000 := by omega
    cases t with
    | leaf k sp =>
      obtain ⟨v3', e⟩ := loop50 (h := h) (v0 := v0) N ts (acc ++ [.tup [.str sLeaf, .tup k, spD sp]]) (.dat ((Tre.leaf k sp).d h)) (by omega) (by simp only [List.length_append, List.length_cons, List.length_nil]; omega)
      refine ⟨v3', ?_⟩
      have hb : evSs P call l50_0 ⟨[v0, .own (.lst acc), .own (.lst ((Tre.leaf k sp :: ts).map (Tre.d h)).reverse), v3], s⟩ = .ok .nx ⟨[v0, .own (.lst (acc ++ [.tup [.str sLeaf, .tup k, spD sp]])), .own (.lst (ts.map (Tre.d h)).reverse), .dat ((Tre.leaf k sp).d h)], s⟩ := by
        simp (disch := first | omega | (simp; done)) [l50_0, Tre.d, sLeaf, doApp, ln_lt]
      rw [whl_nx ht hb, e]
      simp [pap]
    | prn c lo hi d =>
      obtain ⟨v3', e⟩ := loop50 (h := h) (v0 := v0) N ts (acc ++ [(Tre.prn c lo hi d).d h]) (.dat ((Tre.prn c lo hi d).d h)) (by omega) (by simp only [List.length_append, List.length_cons, List.length_nil]; omega)
      refine ⟨v3', ?_⟩
      have hb : evSs P call l50_0 ⟨[v0, .own (.lst acc), .own (.lst ((Tre.prn c lo hi d :: ts).map (Tre.d h)).reverse), v3], s⟩ = .ok .nx ⟨[v0, .own (.lst (acc ++ [(Tre.prn c lo hi d).d h])), .own (.lst (ts.map (Tre.d h)).reverse), .dat ((Tre.prn c lo hi d).d h)], s⟩ := by
        simp (disch := first | omega | (simp; done)) [l50_0, Tre.d, doApp, ln_lt]
      rw [whl_nx ht hb, e]
      simp [pap]
    | node l r =>
      simp only [Tre.nn] at hN hl
      obtain ⟨v3', e⟩ := loop50 (h := h) (v0 := v0) N (l :: r :: ts) (acc ++ [.tup [.str sNode]]) (.dat ((Tre.node l r).d h)) (by rw [nns_cons, nns_cons]; omega) (by rw [nns_cons, nns_cons]; simp only [List.length_append, List.length_cons, List.length_nil]; omega)
      refine ⟨v3', ?_⟩
      have hb : evSs P call l50_0 ⟨[v0, .own (.lst acc), .own (.lst ((Tre.node l r :: ts).map (Tre.d h)).reverse), v3], s⟩ = .ok .nx ⟨[v0, .own (.lst (acc ++ [.tup [.str sNode]])), .own (.lst ((l :: r :: ts).map (Tre.d h)).reverse), .dat ((Tre.node l r).d h)], s⟩ := by
        simp (disch := first | omega | (simp; done)) [l50_0, Tre.d, sNode, doApp, ln_lt]
      rw [whl_nx ht hb, e]
      simp [pap]
theorem call50 (h50 : P.fns 50 = some f50) {h : Hs} {t : Option Tre} (hz : szO t ≤ 1000) {m : Nat} (hm : 1 ≤ m) : callN P m 50 [optD h t] s = .ok (.own (.lst (papO h t))) s := by
  obtain ⟨n, rfl⟩ : ∃ n, m = n + 1 := ⟨m - 1, by omega⟩
  rw [call_eq h50 rfl]
  have io := is_opt (h := h) (t := t)
  have f0 : startL f50.nl [optD h t] = [.dat (optD h t), .no, .no, .no] := rfl
  have b0 : f50.body = [.asg (.nm 1) (.lst []), .asg (.nm 2) (.ite (.cmp .is (.v 0) .n) (.lst []) (.lst [(.v 0)])), .whl (.v 2) l50_0, .ret (.v 1)] := rfl
  rw [f0, b0]
  cases t with
  | none =>
    obtain ⟨v3', e⟩ := loop50 (P := P) (s := s) (call := callN P n) (h := h) (v0 := .dat (optD h none)) fuel [] [] .no (by simp only [nns, List.map_nil, List.sum_nil]; exact fuel_big (by omega)) (by simp [nns])
    simp only [Option.isNone_none, List.map_nil, List.reverse_nil, List.flatMap_nil, List.append_nil] at io e
    generalize optD h none = d at *
    rw [step (c' := ⟨[.dat d, .own (.lst []), .no, .no], s⟩) (by simp), step (c' := ⟨[.dat d, .own (.lst []), .own (.lst []), .no], s⟩) (by simp [io]), step (by rw [es_whl]; exact e)]
    simp [papO]
  | some t =>
    simp only [szO] at hz
    have := nn_sz t
    obtain ⟨v3', e⟩ := loop50 (P := P) (s := s) (call := callN P n) (h := h) (v0 := .dat (t.d h)) fuel [t] [] .no (by rw [nns_cons]; simp only [nns, List.map_nil, List.sum_nil]; exact fuel_big (by omega)) (by rw [nns_cons]; simp only [nns, List.map_nil, List.sum_nil, List.length_nil]; omega)
    have io : isD (t.d h) .non = some false := io
    simp only [optD, papO]
    simp only [List.map_cons, List.map_nil, List.reverse_cons, List.reverse_nil, List.nil_append, List.flatMap_cons, List.flatMap_nil, List.append_nil] at e
    generalize t.d h = d at *
    rw [step (c' := ⟨[.dat d, .own (.lst []), .no, .no], s⟩) (by simp), step (c' := ⟨[.dat d, .own (.lst []), .own (.lst [d]), .no], s⟩) (by simp [io]), step (by rw [es_whl]; exact e)]
    simp
theorem call54 (H : HasT P) (h54 : P.fns 54 = some f54) {h : Hs} {t : Option Tre} (ok : okOp t) {m : Nat} (hm : 2 ≤ m) : callN P m 54 [optD h t] s = .ok (.own (lsI (stIn h t))) s := by
  obtain ⟨n, rfl⟩ : ∃ n, m = n + 1 := ⟨m - 1, by omega⟩
  rw [call_eq h54 rfl]
  have io := is_opt (h := h) (t := t)
  have f0 : startL f54.nl [optD h t] = [.dat (optD h t)] := rfl
  rw [f0]
  cases t with
  | none =>
    simp only [Option.isNone_none] at io
    generalize optD h none = d at *
    simp [f54, b54, io, stIn, lsI]
  | some t =>
    have okt := ok t rfl
    have e := call46 (s := s) H.p46 (h := h) okt (m := n) (by omega)
    have fr := free_lI (t.side h)
    have sl := side_len h t okt
    have io : isD (t.d h) .non = some false := io
    simp only [optD, stIn]
    generalize t.d h = d at *
    simp only [lsI] at *
    simp (disch := first | omega | (simp; done)) [f54, b54, io, e, fr, ln_le]
theorem call55 (H : HasT P) (h54 : P.fns 54 = some f54) (h55 : P.fns 55 = some f55) {h : Hs} (okh : h.ok) {t : Option Tre} (ok : okOp t) {m : Nat} (hm : 3 ≤ m) : callN P m 55 [h.d, optD h t] s = .ok (.d (.int (dig h (stIn h t)))) s := by
  obtain ⟨n, rfl⟩ : ∃ n, m = n + 1 := ⟨m - 1, by omega⟩
  rw [call_eq h55 rfl]
  have e := call54 (s := s) H h54 (h := h) ok (m := n) (by omega)
  have e2 := call42 (s := s) H.p42 okh (stIn h t) (m := n) (by omega)
  have fr := free_lI (stIn h t)
  have f0 : startL f55.nl [h.d, optD h t] = [.dat h.d, .dat (optD h t)] := rfl
  have hh : h.d = .obj 0 [.int h.m, .int h.k] := rfl
  rw [f0]
  generalize optD h t = d at *
  simp only [hh] at *
  simp [f55, b55, e, e2, fr, fr_int]
theorem call57 (H : HasT P) (h57 : P.fns 57 = some f57) {h : Hs} {t : Tre} (ok : t.ok) (hp : ∀ c lo hi d, t ≠ .prn c lo hi d) {m : Nat} (hm : 2 ≤ m) : callN P m 57 [t.d h] s = .ok (.own (lsI (t.inp h))) s := by
  obtain ⟨n, rfl⟩ : ∃ n, m = n + 1 := ⟨m - 1, by omega⟩
  rw [call_eq h57 rfl]
  have f0 : startL f57.nl [t.d h] = [.dat (t.d h)] := rfl
  rw [f0]
  cases t with
  | prn c lo hi d => exact absurd rfl (hp c lo hi d)
  | leaf k sp =>
    have e := call43 (s := s) H.p43 (keyOct k) sp (by have := keyOct_len12 ok.1 ok.2.1; omega) ok.2.2 (m := n) (by omega)
    have fr := free_lI (leafIn (keyOct k) sp)
    simp [f57, b57, Tre.d, e, fr, Tre.inp]
  | node l r =>
    have e1 := call46 (s := s) H.p46 (h := h) ok.1 (m := n) (by omega)
    have e2 := call46 (s := s) H.p46 (h := h) ok.2.1 (m := n) (by omega)
    have fr1 := free_lI (l.side h)
    have fr2 := free_lI (r.side h)
    have s1 := side_len h l ok.1
    have s2 := side_len h r ok.2.1
    have x0 : ixD ((Tre.node l r).d h) (.int 0) = some (.str [110, 111, 100, 101]) := by simp [Tre.d]
    have x5 : ixD ((Tre.node l r).d h) (.int 5) = some (l.d h) := by simp [Tre.d]
    have x6 : ixD ((Tre.node l r).d h) (.int 6) = some (r.d h) := by simp [Tre.d]
    simp only [Tre.inp]
    generalize (Tre.node l r).d h = dn at *
    simp only [lsI] at *
    simp (disch := first | omega | (simp; done)) [f57, b57, x0, x5, x6, e1, e2, fr1, fr2, ln_le]
end
end Ev
end
section
set_option maxRecDepth 100000
set_option maxHeartbeats 1000000
/-! K05a: law k05, its own functions. -/
namespace Ev
theorem at_ex {xs : List D} {p : D → Prop} (h : ∀ x ∈ xs, p x) {i : Int} (h0 : 0 ≤ i) (h1 : i < xs.length) : ∃ d, atI xs i = some d ∧ p d := by
  obtain ⟨hj, e⟩ := atI_at (xs := xs) h0 h1
  exact ⟨_, e, h _ (List.getElem_mem hj)⟩
section
variable {P : Pg} {s : Sto}
theorem newH {m k : Int} (h : Hs.ok ⟨m, k⟩) : newD 0 [.int m, .int k] = some [.int m, .int k] := by
  obtain ⟨h1, h2, h3, h4⟩ := h
  simp only at h1 h2 h3 h4
  have a : decide (2 ≤ m) = true := by simp; omega
  have b : decide (m < 2 ^ 31) = true := by simp; omega
  have c : decide (1 ≤ k) = true := by simp; omega
  have d : decide (k < 2 ^ 31) = true := by simp; omega
  show (if _ then some [D.int m, D.int k] else none) = _
  rw [a, b, c, d]
  rfl
theorem call38 (h0 : P.fns 0 = some f0) (h38 : P.fns 38 = some f38) (c : Int) {m : Nat} (hm : 2 ≤ m) : ∃ h : Hs, h.ok ∧ callN P m 38 [.int c] s = .ok (.d h.d) s := by
  obtain ⟨n, rfl⟩ : ∃ n, m = n + 1 := ⟨m - 1, by omega⟩
  obtain ⟨l, hl, hr, e0⟩ := call0r (s := s) h0 c 2 (by decide) (m := n) (by omega)
  rw [call_eq h38 rfl]
  have g0 : atI (l.map D.int) 0 = some (.int (l.getD 0 0)) := atI_lI (by omega) (by omega)
  have g1 : atI (l.map D.int) 1 = some (.int (l.getD 1 0)) := atI_lI (by omega) (by omega)
  have r1 := getD_rng hr 1
  obtain ⟨d, ed, m', rfl, m1, m2⟩ := at_ex (xs := [.int 2, .int 3, .int 5, .int 7, .int 13, .int 101, .int 997, .int 1000003, .int 2147483647]) (p := fun d => ∃ m : Int, d = .int m ∧ 2 ≤ m ∧ m < 2147483648) (by simp) (i := l.getD 0 0 % 9) (by omega) (by simp; omega)
  obtain ⟨d, ek, k', rfl, k1⟩ := at_ex (xs := [.int 1, .int 1000, .int 2000000]) (p := fun d => ∃ m : Int, d = .int m ∧ (m = 1 ∨ m = 1000 ∨ m = 2000000)) (by simp) (i := l.getD 0 0 / 9 % 3) (by omega) (by simp; omega)
  have fr := free_lI l
  have e0 : callN P n 0 [.int c, .int 2] s = .ok (.own (lsI l)) s := e0
  generalize l.getD 0 0 = a at *
  generalize l.getD 1 0 = b at *
  have hok : Hs.ok ⟨m', 1 + b * k'⟩ := ⟨m1, m2, by rcases k1 with rfl | rfl | rfl <;> simp only <;> omega, by rcases k1 with rfl | rfl | rfl <;> simp only <;> omega⟩
  refine ⟨⟨m', 1 + b * k'⟩, hok, ?_⟩
  have hn := newH hok
  have mk : okMul b k' = true := by
    have a1 : decide (-(2 ^ 64) < b) = true := by simp; omega
    have a2 : decide (b < 2 ^ 64) = true := by simp; omega
    unfold okMul; rw [a1, a2]; rfl
  simp only [lsI] at *
  simp [f38, b38, startL, e0, fr, g0, g1, ed, ek, mk, hn, Hs.d]
theorem call39 (h39 : P.fns 39 = some f39) (ns : List Int) (i : Nat) {m : Nat} (hm : 1 ≤ m) : ∃ c : Int, callN P m 39 [.lst (ns.map .int), .int i] s = .ok (.d (.int c)) s := by
  obtain ⟨n, rfl⟩ : ∃ n, m = n + 1 := ⟨m - 1, by omega⟩
  rw [call_eq h39 rfl]
  by_cases q : (i : Int) < ns.length
  · have g := atI_lI (l := ns) (i := (i : Int)) (by omega) (by omega)
    have q' : i < ns.length := by omega
    exact ⟨_, by simp [f39, b39, startL, q', g]; rfl⟩
  · have q' : ¬ i < ns.length := by omega
    exact ⟨0, by simp [f39, b39, startL, q']⟩
theorem call40 (h40 : P.fns 40 = some f40) (a b : Int) {m : Nat} (hm : 1 ≤ m) : ∃ sp : Sps, sp.length ≤ 2 ∧ callN P m 40 [.int a, .int b] s = .ok (.d (spD sp)) s := by
  obtain ⟨n, rfl⟩ : ∃ n, m = n + 1 := ⟨m - 1, by omega⟩
  rw [call_eq h40 rfl]
  by_cases q : b % 3 = 0
  · refine ⟨[(a % 9, a % 9 + 1 + b % 4), (a % 9 + 1 + b % 4 + 1 + a / 9 % 3, a % 9 + 1 + b % 4 + 5 + b / 12 % 3)], by simp, ?_⟩
    simp [f40, b40, startL, q, spD]
  · by_cases q2 : b % 50 = 49
    · exact ⟨[(0, 10000)], by simp, by simp [f40, b40, startL, q, q2, spD]⟩
    · exact ⟨[(a % 9, a % 9 + 1 + b % 4)], by simp, by simp [f40, b40, startL, q, q2, spD]⟩
theorem call51 (h51 : P.fns 51 = some f51) {h : Hs} (ok : h.ok) (ns : List Int) {m : Nat} (hm : 1 ≤ m) : callN P m 51 [h.d, lsI ns] s = .ok (.d (.int (dig h ns))) s := by
  obtain ⟨n, rfl⟩ : ∃ n, m = n + 1 := ⟨m - 1, by omega⟩
  rw [call_eq h51 rfl]
  have loop : ∀ (ns : List Int) (v : Int) (w : Sl) (b : Sl), 0 ≤ v → v < h.m → ∃ w', forL (.nm 3) (evSs P (callN P n) l51_0) (ns.map .int) ⟨[.dat h.d, b, .dat (.int v), w], s⟩ = .ok .nx ⟨[.dat h.d, b, .dat (.int (hdig h v ns)), w'], s⟩ := by
    intro ns
    induction ns with
    | nil => intro v w b _ _; exact ⟨w, rfl⟩
    | cons x ns ih =>
      intro v w b h0 h1
      have hm : 0 < h.m := by have := ok.1; omega
      obtain ⟨w', e⟩ := ih ((v * h.k + x + 1) % h.m) (.dat (.int x)) b (Int.emod_nonneg _ (by omega)) (Int.emod_lt_of_pos _ hm)
      refine ⟨w', ?_⟩
      simp only [hdig]
      rw [← e]
      have hk := mulOk ok h0 h1
      simp only [List.map_cons]
      rw [forL]
      simp [l51_0, Hs.d, hk, hm]
  obtain ⟨w', e⟩ := loop ns 0 .no (.dat (lsI ns)) (by omega) (by have := ok.1; omega)
  have hw : wkD .seq [lsI ns] = some (ns.map .int) := rfl
  have f0 : startL f51.nl [h.d, lsI ns] = [.dat h.d, .dat (lsI ns), .no, .no] := rfl
  rw [f0]
  simp [f51, b51, forL_d hw, e, dig]
/-- a summary -/
def sumD (h : Hs) (t : Tre) : D := .tup [.int t.cnt, tpI t.lo, tpI t.hi, .int (t.dg h)]
def sumO (h : Hs) : Option Tre → D
  | none => .non
  | some t => sumD h t
theorem sum_flat (h : Hs) (t : Tre) : flat (sumD h t) = true := by simp only [sumD, flat, flatA, flat_tI, Bool.and_self]
theorem call52 (h52 : P.fns 52 = some f52) {h : Hs} {t : Tre} (ok : t.ok) {m : Nat} (hm : 1 ≤ m) : callN P m 52 [sumD h t] s = .ok (.own (lsI (t.side h))) s := by
  obtain ⟨n, rfl⟩ : ∃ n, m = n + 1 := ⟨m - 1, by omega⟩
  rw [call_eq h52 rfl]
  have h1 := ko_len (mem_ko t ok _ (lo_mem t))
  have h2 := ko_len (mem_ko t ok _ (hi_mem t))
  have f0 : startL f52.nl [sumD h t] = [.dat (sumD h t), .no, .no, .no, .no] := rfl
  have lt : ∀ (a b c d : D) (c0 : C) , lay (.tp [1, 2, 3, 4]) (.d (.tup [a, b, c, d])) c0 = .ok .nx ((((c0.set 1 (.dat a)).set 2 (.dat b)).set 3 (.dat c)).set 4 (.dat d)) := fun _ _ _ _ _ => rfl
  rw [f0]
  unfold Tre.side sideOf sumD
  generalize t.lo = lo at *
  generalize t.hi = hi at *
  simp only [tpI, lsI] at *
  simp (disch := first | omega | (simp; done)) [f52, b52, lt, ln_le]
theorem call16 (h16 : P.fns 16 = some f16) {vs : List D} (hv : ∀ x ∈ vs, valOk x = true) (hl : vs.length ≤ 1000) {m : Nat} (hm : 1 ≤ m) : callN P m 16 [.tup vs] s = .ok (.d (tpI (keyOct vs))) s := by
  obtain ⟨n, rfl⟩ : ∃ n, m = n + 1 := ⟨m - 1, by omega⟩
  rw [call_eq h16 rfl]
  have e0 : startL f16.nl [.tup vs] = [.dat (.tup vs), .no, .no, .no, .no] := rfl
  have eb : f16.body = [.asg (.nm 1) (.lst []), .forr (.nm 2) .seq [(.v 0)] body22, .ret (.blt .tuple [(.bin .add (.v 1) (.lst [(.i 0)]))])] := rfl
  rw [e0, eb]
  obtain ⟨v', e⟩ := loop22 (P := P) (n := n) (s := s) (d0 := .dat (.tup vs)) vs [] .no hv (line_big (by simp only [List.length_nil]; omega))
  rw [List.nil_append] at e
  have hfl := flat_len hv
  have hw : wkD .seq [.tup vs] = some vs := rfl
  rw [step (c' := ⟨[.dat (.tup vs), .own (lsI []), .no, .no, .no], s⟩) (by simp [lsI])]
  rw [step (c' := ⟨[.dat (.tup vs), .own (lsI (vs.flatMap octV)), v', .no, .no], s⟩) (by simp [forL_d hw, e])]
  unfold keyOct
  generalize vs.flatMap octV = o at *
  simp only [lsI, tpI] at *
  simp (disch := first | omega | (simp; done)) [ln_le]
end
end Ev
end
section
set_option maxRecDepth 100000
set_option maxHeartbeats 1000000
/-! Row1: rows of digests: halves, parts, papers. -/
namespace Ev
def lszF : Nat → Nat → Nat → Nat
  | 0, p, _ => p
  | f + 1, p, n => if 2 * p < n then lszF f (2 * p) n else p
def lsz (n : Nat) : Nat := lszF n 1 n
theorem lsz_facts : ∀ n < 65, 2 ≤ n → 1 ≤ lsz n ∧ lsz n < n := by decide +kernel
theorem lsz_pow : ∀ f < 6, ∀ n < 65, 2 ≤ n → n ≤ 2 ^ (f + 1) → lsz n ≤ 2 ^ f ∧ n - lsz n ≤ 2 ^ f := by decide +kernel
def partD (h : Hs) : Nat → List Int → Int
  | 0, ds => dig h [4, ds.getD 0 0]
  | f + 1, ds => if ds.length = 1 then dig h [4, ds.getD 0 0] else dig h [5, partD h f (ds.take (lsz ds.length)), partD h f (ds.drop (lsz ds.length))]
def inclF (h : Hs) : Nat → List Int → Nat → List Int
  | 0, _, _ => []
  | f + 1, ds, p => if ds.length = 1 then [] else
    if p < lsz ds.length then inclF h f (ds.take (lsz ds.length)) p ++ [partD h f (ds.drop (lsz ds.length))]
    else inclF h f (ds.drop (lsz ds.length)) (p - lsz ds.length) ++ [partD h f (ds.take (lsz ds.length))]
def turnsF : Nat → Nat → Nat → List Bool
  | 0, _, _ => []
  | f + 1, n, p => if 1 < n then (if lsz n ≤ p then true :: turnsF f (n - lsz n) (p - lsz n) else false :: turnsF f (lsz n) p) else []
def stepIn (l : Int) (r : Bool) (b : Int) : List Int := if r then [5, b, l] else [5, l, b]
def climb (h : Hs) : Int → List Bool → List Int → Int
  | v, r :: rs, b :: bs => climb h (dig h (stepIn v r b)) rs bs
  | v, _, _ => v
theorem partD_s (h : Hs) (f : Nat) (ds : List Int) : partD h (f + 1) ds = if ds.length = 1 then dig h [4, ds.getD 0 0] else dig h [5, partD h f (ds.take (lsz ds.length)), partD h f (ds.drop (lsz ds.length))] := rfl
theorem turns_len : ∀ (f n p : Nat), (turnsF f n p).length ≤ f
  | 0, _, _ => Nat.le_refl _
  | f + 1, n, p => by
    unfold turnsF
    split
    · split
      · have := turns_len f (n - lsz n) (p - lsz n); simp only [List.length_cons]; omega
      · have := turns_len f (lsz n) p; simp only [List.length_cons]; omega
    · simp
theorem incl_len (h : Hs) : ∀ (f : Nat) (ds : List Int) (p : Nat), 1 ≤ ds.length → ds.length ≤ 2 ^ f → f ≤ 6 → (inclF h f ds p).length = (turnsF f ds.length p).length
  | 0, ds, p, _, _, _ => rfl
  | f + 1, ds, p, h1, h2, h3 => by
    unfold inclF turnsF
    by_cases q : ds.length = 1
    · simp [q]
    · have hn : ds.length < 65 := by
        have : 2 ^ (f + 1) ≤ 2 ^ 6 := Nat.pow_le_pow_right (by decide) h3
        omega
      have q2 : 1 < ds.length := by omega
      have lf := lsz_facts ds.length hn (by omega)
      have lp := lsz_pow f (by omega) ds.length hn (by omega) h2
      rw [if_neg q, if_pos q2]
      by_cases q3 : p < lsz ds.length
      · have q4 : ¬ lsz ds.length ≤ p := by omega
        have lt : (ds.take (lsz ds.length)).length = lsz ds.length := by rw [List.length_take]; omega
        rw [if_pos q3, if_neg q4, List.length_append, incl_len h f _ p (by omega) (by omega) (by omega), lt]
        simp
      · have q4 : lsz ds.length ≤ p := by omega
        have lt : (ds.drop (lsz ds.length)).length = ds.length - lsz ds.length := List.length_drop
        rw [if_neg q3, if_pos q4, List.length_append, incl_len h f _ _ (by omega) (by omega) (by omega), lt]
        simp
theorem climb_app (h : Hs) : ∀ (rs : List Bool) (bs : List Int) (v : Int) (r : Bool) (b : Int), rs.length = bs.length → climb h v (rs ++ [r]) (bs ++ [b]) = dig h (stepIn (climb h v rs bs) r b)
  | [], [], v, r, b, _ => rfl
  | x :: rs, y :: bs, v, r, b, e => by
    simp only [List.cons_append, climb]
    exact climb_app h rs bs _ r b (by simpa using e)
  | [], _ :: _, _, _, _, e => by simp at e
  | _ :: _, [], _, _, _, e => by simp at e
/-- the paper leads to the digest of the part -/
theorem climb_incl (h : Hs) : ∀ (f : Nat) (ds : List Int) (p : Nat), 1 ≤ ds.length → ds.length ≤ 2 ^ f → f ≤ 6 → p < ds.length →
    climb h (dig h [4, ds.getD p 0]) (turnsF f ds.length p).reverse (inclF h f ds p) = partD h f ds
  | 0, ds, p, h1, h2, _, hp => by
    have : p = 0 := by simp at h2; omega
    subst this
    rfl
  | f + 1, ds, p, h1, h2, h3, hp => by
    rw [partD_s]
    unfold inclF turnsF
    by_cases q : ds.length = 1
    · have : p = 0 := by omega
      subst this
      simp [q, climb]
    · have hn : ds.length < 65 := by
        have : 2 ^ (f + 1) ≤ 2 ^ 6 := Nat.pow_le_pow_right (by decide) h3
        omega
      have q2 : 1 < ds.length := by omega
      have lf := lsz_facts ds.length hn (by omega)
      have lp := lsz_pow f (by omega) ds.length hn (by omega) h2
      rw [if_neg q, if_pos q2, if_neg q]
      by_cases q3 : p < lsz ds.length
      · have q4 : ¬ lsz ds.length ≤ p := by omega
        have lt : (ds.take (lsz ds.length)).length = lsz ds.length := by rw [List.length_take]; omega
        have ih := climb_incl h f (ds.take (lsz ds.length)) p (by omega) (by omega) (by omega) (by omega)
        have il := incl_len h f (ds.take (lsz ds.length)) p (by omega) (by omega) (by omega)
        rw [lt] at ih il
        have eg : (ds.take (lsz ds.length)).getD p 0 = ds.getD p 0 := by
          rw [List.getD_eq_getElem?_getD, List.getD_eq_getElem?_getD, List.getElem?_take_of_lt q3]
        rw [eg] at ih
        rw [if_pos q3, if_neg q4, List.reverse_cons, climb_app h _ _ _ _ _ (by rw [List.length_reverse, il]), ih]
        rfl
      · have q4 : lsz ds.length ≤ p := by omega
        have lt : (ds.drop (lsz ds.length)).length = ds.length - lsz ds.length := List.length_drop
        have ih := climb_incl h f (ds.drop (lsz ds.length)) (p - lsz ds.length) (by omega) (by omega) (by omega) (by omega)
        have il := incl_len h f (ds.drop (lsz ds.length)) (p - lsz ds.length) (by omega) (by omega) (by omega)
        rw [lt] at ih il
        have eg : (ds.drop (lsz ds.length)).getD (p - lsz ds.length) 0 = ds.getD p 0 := by
          rw [List.getD_eq_getElem?_getD, List.getD_eq_getElem?_getD, List.getElem?_drop]
          congr 2; omega
        rw [eg] at ih
        rw [if_neg q3, if_pos q4, List.reverse_cons, climb_app h _ _ _ _ _ (by rw [List.length_reverse, il]), ih]
        rfl
structure HasR (P : Pg) : Prop where
  p42 : P.fns 42 = some f42
  p70 : P.fns 70 = some f70
  p71 : P.fns 71 = some f71
  p72 : P.fns 72 = some f72
  p73 : P.fns 73 = some f73
  p74 : P.fns 74 = some f74
  p75 : P.fns 75 = some f75
  p79 : P.fns 79 = some f79
section
variable {P : Pg} {s : Sto}
theorem loop70 {call : CallT} (n : Nat) : ∀ (f p N : Nat), n ≤ 2 * p * 2 ^ f → f < N → whlL (evT P call (.cmp .lt (.bin .mul (.i 2) (.v 1)) (.v 0))) (evSs P call l70_0) N ⟨[.dat (.int n), .dat (.int p)], s⟩ = .ok .nx ⟨[.dat (.int n), .dat (.int (lszF f p n : Nat))], s⟩
  | f, p, 0, _, h => by omega
  | 0, p, N + 1, h, _ => by
    have q : ¬ (2 * (p : Int) < (n : Int)) := by omega
    have q' : ¬ (2 * p < n) := by omega
    have mk : okMul 2 (p : Int) = true := rfl
    rw [whl_end (c1 := ⟨[.dat (.int n), .dat (.int p)], s⟩)]
    · rfl
    · simp [mk, q, q']
  | f + 1, p, N + 1, h, hN => by
    have mk : okMul 2 (p : Int) = true := rfl
    unfold lszF
    by_cases q' : 2 * p < n
    · have q : 2 * (p : Int) < (n : Int) := by omega
      rw [if_pos q', whl_nx (c1 := ⟨[.dat (.int n), .dat (.int p)], s⟩) (c2 := ⟨[.dat (.int n), .dat (.int (2 * p : Nat))], s⟩)]
      · refine loop70 n f (2 * p) N ?_ (by omega)
        have e : 2 * p * 2 ^ (f + 1) = 2 * (2 * p) * 2 ^ f := by
          rw [Nat.pow_succ, Nat.mul_comm (2 ^ f) 2, ← Nat.mul_assoc, Nat.mul_comm (2 * p) 2]
        omega
      · simp [mk, q, q']
      · have e : ((2 * p : Nat) : Int) = 2 * (p : Int) := by omega
        rw [e]
        simp [l70_0, mk]
    · have q : ¬ (2 * (p : Int) < (n : Int)) := by omega
      rw [if_neg q', whl_end (c1 := ⟨[.dat (.int n), .dat (.int p)], s⟩)]
      simp [mk, q, q']
theorem call70 (h70 : P.fns 70 = some f70) {n : Nat} (hn : n ≤ 1000) {m : Nat} (hm : 1 ≤ m) : callN P m 70 [.int n] s = .ok (.d (.int (lsz n))) s := by
  obtain ⟨k, rfl⟩ : ∃ k, m = k + 1 := ⟨m - 1, by omega⟩
  rw [call_eq h70 rfl]
  have e0 : startL f70.nl [.int n] = [.dat (.int n), .no] := rfl
  have eb : f70.body = [.asg (.nm 1) (.i 1), .whl (.cmp .lt (.bin .mul (.i 2) (.v 1)) (.v 0)) l70_0, .ret (.v 1)] := rfl
  rw [e0, eb]
  rw [step (c' := ⟨[.dat (.int n), .dat (.int (1 : Nat))], s⟩) (by simp)]
  have hp : n ≤ 2 * 1 * 2 ^ n := by have := Nat.lt_two_pow_self (n := n); omega
  rw [step (c' := ⟨[.dat (.int n), .dat (.int (lsz n))], s⟩) (by rw [es_whl]; exact loop70 n n 1 fuel hp (fuel_big (by omega)))]
  simp
theorem call71 (H : HasR P) {h : Hs} (ok : h.ok) (d : Int) {m : Nat} (hm : 2 ≤ m) : callN P m 71 [h.d, .int d] s = .ok (.d (.int (dig h [4, d]))) s := by
  obtain ⟨k, rfl⟩ : ∃ k, m = k + 1 := ⟨m - 1, by omega⟩
  rw [call_eq H.p71 rfl]
  have e := call42 (s := s) H.p42 ok [4, d] (m := k) (by omega)
  have fr : ∀ i, (Rv.d (.int i)).free = true := fun _ => rfl
  have hh : h.d = .obj 0 [.int h.m, .int h.k] := rfl
  simp only [hh] at *
  simp only [lsI, List.map_cons, List.map_nil] at e
  simp [f71, b71, startL, e, fr]
theorem call72 (H : HasR P) {h : Hs} (ok : h.ok) (a b : Int) {m : Nat} (hm : 2 ≤ m) : callN P m 72 [h.d, .int a, .int b] s = .ok (.d (.int (dig h [5, a, b]))) s := by
  obtain ⟨k, rfl⟩ : ∃ k, m = k + 1 := ⟨m - 1, by omega⟩
  rw [call_eq H.p72 rfl]
  have e := call42 (s := s) H.p42 ok [5, a, b] (m := k) (by omega)
  have fr : ∀ i, (Rv.d (.int i)).free = true := fun _ => rfl
  have hh : h.d = .obj 0 [.int h.m, .int h.k] := rfl
  simp only [hh] at *
  simp only [lsI, List.map_cons, List.map_nil] at e
  simp [f72, b72, startL, e, fr]
theorem cut_take (ds : List Int) (j : Nat) : slD (lsI ds) none (some (j : Int)) = some (.tmp (lsI (ds.take j))) := by
  have := cut_to (ds.map D.int) j
  simp only [lsI, slD, this, List.map_take]
theorem cut_drop (ds : List Int) (j : Nat) : slD (lsI ds) (some (j : Int)) none = some (.tmp (lsI (ds.drop j))) := by
  have := cut_from (ds.map D.int) j
  simp only [lsI, slD, this, List.map_drop]
theorem len_lI (ds : List Int) : blt1 .len (lsI ds) = some (.d (.int ds.length)) := by simp [lsI]
theorem call73 (H : HasR P) {h : Hs} (ok : h.ok) : ∀ (f : Nat) (ds : List Int) (m : Nat), 1 ≤ ds.length → ds.length ≤ 2 ^ f → f ≤ 6 → f + 3 ≤ m → callN P m 73 [h.d, lsI ds] s = .ok (.d (.int (partD h f ds))) s
  | f, ds, 0, _, _, _, hm => by omega
  | f, ds, k + 1, h1, h2, h3, hm => by
    rw [call_eq H.p73 rfl]
    have e0 : startL f73.nl [h.d, lsI ds] = [.dat h.d, .dat (lsI ds), .no] := rfl
    have eb : f73.body = b73 := rfl
    rw [e0, eb]
    unfold b73
    have fr : ∀ i, (Rv.d (.int i)).free = true := fun _ => rfl
    have ln := len_lI ds
    by_cases q : ds.length = 1
    · have g : ixD (lsI ds) (.int 0) = some (.int (ds.getD 0 0)) := by
        have := atI_lI (l := ds) (i := 0) (by omega) (by omega)
        simpa [lsI] using this
      have e := call71 (s := s) H ok (ds.getD 0 0) (m := k) (by omega)
      have ep : partD h f ds = dig h [4, ds.getD 0 0] := by cases f <;> simp [partD, q]
      rw [ep]
      generalize ds.getD 0 0 = d at *
      generalize lsI ds = L at *
      generalize h.d = hd at *
      simp [ln, q, g, e, fr]
    · cases f with
      | zero => simp at h2; omega
      | succ f =>
        have hn : ds.length < 65 := by
          have : 2 ^ (f + 1) ≤ 2 ^ 6 := Nat.pow_le_pow_right (by decide) h3
          omega
        have lf := lsz_facts ds.length hn (by omega)
        have lp := lsz_pow f (by omega) ds.length hn (by omega) h2
        have lt : (ds.take (lsz ds.length)).length = lsz ds.length := by rw [List.length_take]; omega
        have ld : (ds.drop (lsz ds.length)).length = ds.length - lsz ds.length := List.length_drop
        have e1 := call73 H ok f (ds.take (lsz ds.length)) k (by omega) (by omega) (by omega) (by omega)
        have e2 := call73 H ok f (ds.drop (lsz ds.length)) k (by omega) (by omega) (by omega) (by omega)
        have e3 := call72 (s := s) H ok (partD h f (ds.take (lsz ds.length))) (partD h f (ds.drop (lsz ds.length))) (m := k) (by omega)
        have e4 := call70 (s := s) H.p70 (n := ds.length) (by omega) (m := k) (by omega)
        have s1 := cut_take ds (lsz ds.length)
        have s2 := cut_drop ds (lsz ds.length)
        simp only [partD, if_neg q]
        generalize partD h f (ds.take (lsz ds.length)) = a at *
        generalize partD h f (ds.drop (lsz ds.length)) = b at *
        generalize lsI (ds.take (lsz ds.length)) = L1 at *
        generalize lsI (ds.drop (lsz ds.length)) = L2 at *
        generalize lsI ds = L at *
        generalize h.d = hd at *
        have q' : ¬ ((ds.length : Int) = 1) := by omega
        generalize ds.length = n at *
        rw [step (c' := ⟨[.dat hd, .dat L, .no], s⟩) (by simp [ln, q, q'])]
        rw [step (c' := ⟨[.dat hd, .dat L, .dat (.int (lsz n))], s⟩) (by simp [ln, e4, fr])]
        simp [s1, s2, e1, e2, e3, fr]
end
end Ev
end
section
set_option maxRecDepth 100000
set_option maxHeartbeats 1000000
/-! Row2: inclusion, turns, the row's digest. -/
namespace Ev
section
variable {P : Pg} {s : Sto}
theorem call79 (H : HasR P) {h : Hs} (ok : h.ok) {ds : List Int} (h1 : 1 ≤ ds.length) (h2 : ds.length ≤ 2 ^ 6) {m : Nat} (hm : 10 ≤ m) : callN P m 79 [h.d, lsI ds] s = .ok (.d (.int (dig h [6, ds.length, partD h 6 ds]))) s := by
  obtain ⟨k, rfl⟩ : ∃ k, m = k + 1 := ⟨m - 1, by omega⟩
  rw [call_eq H.p79 rfl]
  have e := call42 (s := s) H.p42 ok [6, ds.length, partD h 6 ds] (m := k) (by omega)
  have e2 := call73 (s := s) H ok 6 ds k h1 h2 (by omega) (by omega)
  have fr : ∀ i, (Rv.d (.int i)).free = true := fun _ => rfl
  have hh : h.d = .obj 0 [.int h.m, .int h.k] := rfl
  have ln := len_lI ds
  have e0 : startL f79.nl [h.d, lsI ds] = [.dat h.d, .dat (lsI ds)] := rfl
  rw [e0]
  simp only [hh] at *
  generalize partD h 6 ds = d at *
  rw [show lsI [6, (ds.length : Int), d] = .lst [.int 6, .int ds.length, .int d] from rfl] at e
  generalize lsI ds = L at *
  simp [f79, b79, e, e2, ln, fr]
theorem add_lI (a : List Int) (b : Int) (ha : a.length ≤ 1000) : binD .add (lsI a) (.lst [.int b]) = some (.tmp (lsI (a ++ [b]))) := by
  have l1 : a.length + 1 ≤ line := Nat.le_trans (show a.length + 1 ≤ 2000 by omega) (by unfold line; decide)
  simp [lsI, binD, l1]
theorem incl_len6 (h : Hs) {f : Nat} {ds : List Int} {p : Nat} (h1 : 1 ≤ ds.length) (h2 : ds.length ≤ 2 ^ f) (h3 : f ≤ 6) : (inclF h f ds p).length ≤ 6 := by
  rw [incl_len h f ds p h1 h2 h3]
  have := turns_len f ds.length p
  omega
theorem call74 (H : HasR P) {h : Hs} (ok : h.ok) : ∀ (f : Nat) (ds : List Int) (p m : Nat), 1 ≤ ds.length → ds.length ≤ 2 ^ f → f ≤ 6 → p < ds.length → f + 4 ≤ m → callN P m 74 [h.d, lsI ds, .int p] s = .ok (.own (lsI (inclF h f ds p))) s
  | f, ds, p, 0, _, _, _, _, hm => by omega
  | f, ds, p, k + 1, h1, h2, h3, hp, hm => by
    rw [call_eq H.p74 rfl]
    have e0 : startL f74.nl [h.d, lsI ds, .int p] = [.dat h.d, .dat (lsI ds), .dat (.int p), .no] := rfl
    have eb : f74.body = b74 := rfl
    rw [e0, eb]
    unfold b74
    have fr : ∀ i, (Rv.d (.int i)).free = true := fun _ => rfl
    have ln := len_lI ds
    by_cases q : ds.length = 1
    · have ep : inclF h f ds p = [] := by cases f <;> simp [inclF, q]
      rw [ep]
      rw [show lsI [] = .lst [] from rfl]
      generalize lsI ds = L at *
      generalize h.d = hd at *
      simp [ln, q]
    · cases f with
      | zero => simp at h2; omega
      | succ f =>
        have hn : ds.length < 65 := by
          have : 2 ^ (f + 1) ≤ 2 ^ 6 := Nat.pow_le_pow_right (by decide) h3
          omega
        have lf := lsz_facts ds.length hn (by omega)
        have lp := lsz_pow f (by omega) ds.length hn (by omega) h2
        have lt : (ds.take (lsz ds.length)).length = lsz ds.length := by rw [List.length_take]; omega
        have ld : (ds.drop (lsz ds.length)).length = ds.length - lsz ds.length := List.length_drop
        have e1 := call73 (s := s) H ok f (ds.take (lsz ds.length)) k (by omega) (by omega) (by omega) (by omega)
        have e2 := call73 (s := s) H ok f (ds.drop (lsz ds.length)) k (by omega) (by omega) (by omega) (by omega)
        have e4 := call70 (s := s) H.p70 (n := ds.length) (by omega) (m := k) (by omega)
        have s1 := cut_take ds (lsz ds.length)
        have s2 := cut_drop ds (lsz ds.length)
        have q' : ¬ ((ds.length : Int) = 1) := by omega
        simp only [inclF, if_neg q]
        by_cases q3 : p < lsz ds.length
        · rw [if_pos q3]
          have e5 := call74 H ok f (ds.take (lsz ds.length)) p k (by omega) (by omega) (by omega) (by omega) (by omega)
          have fr5 := free_lI (inclF h f (ds.take (lsz ds.length)) p)
          have ad := add_lI (inclF h f (ds.take (lsz ds.length)) p) (partD h f (ds.drop (lsz ds.length))) (by have := incl_len6 h (f := f) (ds := ds.take (lsz ds.length)) (p := p) (by omega) (by omega) (by omega); omega)
          generalize partD h f (ds.take (lsz ds.length)) = a at *
          generalize partD h f (ds.drop (lsz ds.length)) = b at *
          generalize lsI (inclF h f (ds.take (lsz ds.length)) p ++ [b]) = L5 at *
          generalize lsI (inclF h f (ds.take (lsz ds.length)) p) = L4 at *
          generalize lsI (ds.take (lsz ds.length)) = L1 at *
          generalize lsI (ds.drop (lsz ds.length)) = L2 at *
          generalize lsI ds = L at *
          generalize h.d = hd at *
          generalize ds.length = n at *
          rw [step (c' := ⟨[.dat hd, .dat L, .dat (.int p), .no], s⟩) (by simp [ln, q, q'])]
          rw [step (c' := ⟨[.dat hd, .dat L, .dat (.int p), .dat (.int (lsz n))], s⟩) (by simp [ln, e4, fr])]
          have q4 : (p : Int) < (lsz n : Int) := by omega
          simp [q3, q4, s1, s2, e1, e2, e5, fr, fr5, ad]
        · rw [if_neg q3]
          have e5 := call74 H ok f (ds.drop (lsz ds.length)) (p - lsz ds.length) k (by omega) (by omega) (by omega) (by omega) (by omega)
          have fr5 := free_lI (inclF h f (ds.drop (lsz ds.length)) (p - lsz ds.length))
          have ad := add_lI (inclF h f (ds.drop (lsz ds.length)) (p - lsz ds.length)) (partD h f (ds.take (lsz ds.length))) (by have := incl_len6 h (f := f) (ds := ds.drop (lsz ds.length)) (p := p - lsz ds.length) (by omega) (by omega) (by omega); omega)
          have es : ((p - lsz ds.length : Nat) : Int) = (p : Int) - (lsz ds.length : Int) := by omega
          rw [es] at e5
          generalize partD h f (ds.take (lsz ds.length)) = a at *
          generalize partD h f (ds.drop (lsz ds.length)) = b at *
          generalize lsI (inclF h f (ds.drop (lsz ds.length)) (p - lsz ds.length) ++ [a]) = L5 at *
          generalize lsI (inclF h f (ds.drop (lsz ds.length)) (p - lsz ds.length)) = L4 at *
          generalize lsI (ds.take (lsz ds.length)) = L1 at *
          generalize lsI (ds.drop (lsz ds.length)) = L2 at *
          generalize lsI ds = L at *
          generalize h.d = hd at *
          generalize ds.length = n at *
          rw [step (c' := ⟨[.dat hd, .dat L, .dat (.int p), .no], s⟩) (by simp [ln, q, q'])]
          rw [step (c' := ⟨[.dat hd, .dat L, .dat (.int p), .dat (.int (lsz n))], s⟩) (by simp [ln, e4, fr])]
          have q4 : ¬ ((p : Int) < (lsz n : Int)) := by omega
          simp [q3, q4, s1, s2, e1, e2, e5, fr, fr5, ad]
def blL (bs : List Bool) : D := .lst (bs.map .bl)
theorem loop75 (H : HasR P) {k : Nat} (hk : 1 ≤ k) : ∀ (f n p N : Nat) (acc : List Bool) (w : Sl), 1 ≤ n → n ≤ 2 ^ f → f ≤ 6 → f < N → acc.length + f ≤ 100 →
    ∃ a b w', whlL (evT P (callN P k) (.cmp .gt (.v 0) (.i 1))) (evSs P (callN P k) l75_0) N ⟨[.dat (.int n), .dat (.int p), .own (blL acc), w], s⟩ = .ok .nx ⟨[a, b, .own (blL (acc ++ turnsF f n p)), w'], s⟩
  | f, n, p, 0, acc, w, _, _, _, h, _ => by omega
  | f, n, p, N + 1, acc, w, h1, h2, h3, hN, hl => by
    by_cases q : 1 < n
    · cases f with
      | zero => simp at h2; omega
      | succ f =>
        have hn : n < 65 := by
          have : 2 ^ (f + 1) ≤ 2 ^ 6 := Nat.pow_le_pow_right (by decide) h3
          omega
        have lf := lsz_facts n hn (by omega)
        have lp := lsz_pow f (by omega) n hn (by omega) h2
        have e4 := call70 (s := s) H.p70 (n := n) (by omega) (m := k) (by omega)
        have q0 : (1 : Int) < (n : Int) := by omega
        have fr : ∀ i, (Rv.d (.int i)).free = true := fun _ => rfl
        have ll : acc.length < line := Nat.lt_of_lt_of_le (show acc.length < 200 by omega) (by unfold line; decide)
        simp only [turnsF, if_pos q]
        by_cases q3 : lsz n ≤ p
        · have q4 : ¬ ((p : Int) < (lsz n : Int)) := by omega
          have q5 : (lsz n : Int) ≤ (p : Int) := by omega
          obtain ⟨a, b, w', e⟩ := loop75 H hk f (n - lsz n) (p - lsz n) N (acc ++ [true]) (.dat (.int (lsz n))) (by omega) (by omega) (by omega) (by omega) (by simp only [List.length_append, List.length_cons, List.length_nil]; omega)
          have es : ((p - lsz n : Nat) : Int) = (p : Int) - (lsz n : Int) := by omega
          have es2 : ((n - lsz n : Nat) : Int) = (n : Int) - (lsz n : Int) := by omega
          rw [es, es2] at e
          refine ⟨a, b, w', ?_⟩
          rw [if_pos q3]
          rw [whl_nx (c1 := ⟨[.dat (.int n), .dat (.int p), .own (blL acc), w], s⟩) (c2 := ⟨[.dat (.int ((n : Int) - (lsz n : Int))), .dat (.int ((p : Int) - (lsz n : Int))), .own (blL (acc ++ [true])), .dat (.int (lsz n))], s⟩)]
          · rw [e]; simp
          · simp [q, q0]
          · simp [l75_0, doApp, e4, fr, blL, ll, q3, q4, q5]
        · have q4 : (p : Int) < (lsz n : Int) := by omega
          have q5 : ¬ ((lsz n : Int) ≤ (p : Int)) := by omega
          have q6 : p < lsz n := by omega
          obtain ⟨a, b, w', e⟩ := loop75 H hk f (lsz n) p N (acc ++ [false]) (.dat (.int (lsz n))) (by omega) (by omega) (by omega) (by omega) (by simp only [List.length_append, List.length_cons, List.length_nil]; omega)
          refine ⟨a, b, w', ?_⟩
          rw [if_neg q3]
          rw [whl_nx (c1 := ⟨[.dat (.int n), .dat (.int p), .own (blL acc), w], s⟩) (c2 := ⟨[.dat (.int (lsz n)), .dat (.int p), .own (blL (acc ++ [false])), .dat (.int (lsz n))], s⟩)]
          · rw [e]; simp
          · simp [q, q0]
          · simp [l75_0, doApp, e4, fr, blL, ll, q3, q4, q5, q6]
    · have q0 : ¬ ((1 : Int) < (n : Int)) := by omega
      have e : turnsF f n p = [] := by cases f <;> simp [turnsF, q]
      refine ⟨.dat (.int n), .dat (.int p), w, ?_⟩
      rw [e, List.append_nil]
      rw [whl_end (c1 := ⟨[.dat (.int n), .dat (.int p), .own (blL acc), w], s⟩)]
      simp [q, q0]
theorem call75 (H : HasR P) {n p : Nat} (h1 : 1 ≤ n) (h2 : n ≤ 2 ^ 6) {m : Nat} (hm : 2 ≤ m) : callN P m 75 [.int n, .int p] s = .ok (.own (blL (turnsF 6 n p))) s := by
  obtain ⟨k, rfl⟩ : ∃ k, m = k + 1 := ⟨m - 1, by omega⟩
  rw [call_eq H.p75 rfl]
  have e0 : startL f75.nl [.int n, .int p] = [.dat (.int n), .dat (.int p), .no, .no] := rfl
  have eb : f75.body = [.asg (.nm 2) (.lst []), .whl (.cmp .gt (.v 0) (.i 1)) l75_0, .ret (.v 2)] := rfl
  rw [e0, eb]
  obtain ⟨a, b, w', e⟩ := loop75 (s := s) H (k := k) (by omega) 6 n p fuel [] .no h1 h2 (by omega) (fuel_big (by omega)) (by simp)
  rw [step (c' := ⟨[.dat (.int n), .dat (.int p), .own (blL []), .no], s⟩) (by simp [blL])]
  rw [step (c' := ⟨[a, b, .own (blL ([] ++ turnsF 6 n p)), w'], s⟩) (by rw [es_whl]; exact e)]
  simp [blL]
end
end Ev
end
section
set_option maxRecDepth 100000
set_option maxHeartbeats 1000000
/-! Row3: the inputs along a way, and the clash among them. -/
namespace Ev
def inpF (h : Hs) : List Int → List Bool → List Int → List (List Int)
  | l, r :: rs, b :: bs => stepIn (dig h l) r b :: inpF h (stepIn (dig h l) r b) rs bs
  | _, _, _ => []
def lastF (h : Hs) : List Int → List Bool → List Int → List Int
  | l, r :: rs, b :: bs => lastF h (stepIn (dig h l) r b) rs bs
  | l, _, _ => l
theorem dig_lastF (h : Hs) : ∀ (rs : List Bool) (bs : List Int) (l : List Int), dig h (lastF h l rs bs) = climb h (dig h l) rs bs
  | r :: rs, b :: bs, l => dig_lastF h rs bs (stepIn (dig h l) r b)
  | [], _, _ => by simp [lastF, climb]
  | _ :: _, [], _ => by simp [lastF, climb]
def wayIn (h : Hs) (n : Nat) (d : Int) (rs : List Bool) (bs : List Int) : List (List Int) :=
  [4, d] :: inpF h [4, d] rs bs ++ [[6, (n : Int), climb h (dig h [4, d]) rs bs]]
def llL (xs : List (List Int)) : D := .lst (xs.map lsI)
theorem atI_last {α : Type} (X : List α) (x : α) : atI (X ++ [x]) (-1) = some x := by
  have h1 : ¬ (0 : Int) ≤ -1 := by omega
  have h2 : -((X ++ [x]).length : Int) ≤ -1 := by simp only [List.length_append, List.length_cons, List.length_nil]; omega
  have h3 : ((-1 : Int) + ((X ++ [x]).length : Int)).toNat = X.length := by simp only [List.length_append, List.length_cons, List.length_nil]; omega
  simp only [atI, ixN, h1, if_false, h2, if_true, Option.bind_some, h3]
  simp
theorem last_in (h : Hs) : ∀ (rs : List Bool) (bs : List Int) (l : List Int) (X : List D), atI X (-1) = some (lsI l) → atI (X ++ (inpF h l rs bs).map lsI) (-1) = some (lsI (lastF h l rs bs))
  | r :: rs, b :: bs, l, X, e => by
    have := last_in h rs bs (stepIn (dig h l) r b) (X ++ [lsI (stepIn (dig h l) r b)]) (atI_last _ _)
    simpa [inpF, lastF] using this
  | [], _, l, X, e => by simpa [inpF, lastF] using e
  | _ :: _, [], l, X, e => by simpa [inpF, lastF] using e
theorem inpF_len (h : Hs) : ∀ (rs : List Bool) (bs : List Int) (l : List Int), rs.length = bs.length → (inpF h l rs bs).length = rs.length
  | r :: rs, b :: bs, l, e => by simp only [inpF, List.length_cons]; rw [inpF_len h rs bs _ (by simpa using e)]
  | [], [], _, _ => rfl
  | [], _ :: _, _, e => by simp at e
  | _ :: _, [], _, e => by simp at e
theorem for_two {t : Tg} {w : Wk} {b : List S} {body : C → R Fl} {u v : Vl} {c : C} {its : List D} (h : wkD w [u.rd, v.rd] = some its) (hk : keepsV [.forr t w [] b] [u, v] = true) : doFor t w b body [u, v] c = forL t body its c := by
  simp only [doFor, List.map_cons, List.map_nil, h, ofO_some, bind_ok]
  rw [if_pos hk]
section
variable {P : Pg} {s : Sto}
theorem lnlt {n : Nat} (h : n ≤ 2000) : n < line := Nat.lt_of_le_of_lt h (by unfold line; decide)
theorem loop76 (H : HasR P) {h : Hs} (ok : h.ok) {k : Nat} (hk : 1 ≤ k) {v1 v2 v3 v4 : Sl} : ∀ (rs : List Bool) (bs : List Int) (X : List D) (l : List Int) (w6 w7 w8 : Sl), X.length + rs.length ≤ 100 → atI X (-1) = some (lsI l) →
    ∃ w6' w7' w8', forL (.tp [6, 7]) (evSs P (callN P k) l76_0) (zipT (rs.map .bl) (bs.map .int)) ⟨[.dat h.d, v1, v2, v3, v4, .own (.lst X), w6, w7, w8], s⟩ = .ok .nx ⟨[.dat h.d, v1, v2, v3, v4, .own (.lst (X ++ (inpF h l rs bs).map lsI)), w6', w7', w8'], s⟩
  | [], bs, X, l, w6, w7, w8, _, _ => ⟨w6, w7, w8, by simp [inpF, zipT, forL]⟩
  | r :: rs, [], X, l, w6, w7, w8, _, _ => ⟨w6, w7, w8, by simp [inpF, zipT, forL]⟩
  | r :: rs, b :: bs, X, l, w6, w7, w8, hl, hX => by
    simp only [List.length_cons] at hl
    obtain ⟨w6', w7', w8', e⟩ := loop76 H ok hk (v1 := v1) (v2 := v2) (v3 := v3) (v4 := v4) rs bs (X ++ [lsI (stepIn (dig h l) r b)]) (stepIn (dig h l) r b) (.dat (.bl r)) (.dat (.int b)) (.dat (.int (dig h l))) (by simp only [List.length_append, List.length_cons, List.length_nil]; omega) (atI_last _ _)
    refine ⟨w6', w7', w8', ?_⟩
    have ea : X ++ (inpF h l (r :: rs) (b :: bs)).map lsI = X ++ [lsI (stepIn (dig h l) r b)] ++ (inpF h (stepIn (dig h l) r b) rs bs).map lsI := by simp [inpF]
    rw [ea, ← e]
    simp only [List.map_cons, zipT]
    rw [forL]
    have ht : tgt (.tp [6, 7]) (.tup [.bl r, .int b]) ⟨[.dat h.d, v1, v2, v3, v4, .own (.lst X), w6, w7, w8], s⟩ = some ⟨[.dat h.d, v1, v2, v3, v4, .own (.lst X), .dat (.bl r), .dat (.int b), w8], s⟩ := rfl
    rw [ht]
    have e42 := call42 (s := s) H.p42 ok l (m := k) hk
    have fr : ∀ i, (Rv.d (.int i)).free = true := fun _ => rfl
    have hh : h.d = .obj 0 [.int h.m, .int h.k] := rfl
    have ll := lnlt (n := X.length) (by omega)
    have sb : lsI (stepIn (dig h l) r b) = if r then .lst [.int 5, .int b, .int (dig h l)] else .lst [.int 5, .int (dig h l), .int b] := by cases r <;> rfl
    rw [sb]
    simp only [hh] at *
    generalize dig h l = v at *
    generalize lsI l = L at *
    have hX' : ixD (.lst X) (.int (-1)) = some L := hX
    cases r <;> simp [l76_0, doApp, e42, fr, hX, ll]
theorem call76 (H : HasR P) (h76 : P.fns 76 = some f76) {h : Hs} (ok : h.ok) {n p : Nat} (h1 : 1 ≤ n) (h2 : n ≤ 2 ^ 6) (d : Int) (bs : List Int) {m : Nat} (hm : 4 ≤ m) :
    callN P m 76 [h.d, .int n, .int p, .int d, lsI bs] s = .ok (.own (llL (wayIn h n d (turnsF 6 n p).reverse bs))) s := by
  obtain ⟨k, rfl⟩ : ∃ k, m = k + 1 := ⟨m - 1, by omega⟩
  rw [call_eq h76 rfl]
  have e0 : startL f76.nl [h.d, .int n, .int p, .int d, lsI bs] = [.dat h.d, .dat (.int n), .dat (.int p), .dat (.int d), .dat (lsI bs), .no, .no, .no, .no] := rfl
  have eb : f76.body = [.asg (.nm 5) (.lst [(.lst [(.i 4), (.v 3)])]), .forr (.tp [6, 7]) (.zipr false) [(.isl (.call 75 [(.v 1), (.v 2)])), (.v 4)] l76_0, .app 5 (.lst [(.i 6), (.v 1), (.meth 0 42 (.v 0) [(.ix (.v 5) (.neg (.i 1)))])]), .ret (.v 5)] := rfl
  rw [e0, eb]
  have e75 := call75 (s := s) H (n := n) (p := p) h1 h2 (m := k) (by omega)
  have fr75 : (Rv.own (blL (turnsF 6 n p))).free = true := by
    simp only [blL, Rv.free]
    exact flatA_all fun x hx => by
      obtain ⟨b, _, rfl⟩ := List.mem_map.mp hx
      rfl
  have tl := turns_len 6 n p
  generalize turnsF 6 n p = ts at *
  obtain ⟨w6', w7', w8', e⟩ := loop76 (s := s) H ok (k := k) (by omega) (v1 := .dat (.int n)) (v2 := .dat (.int p)) (v3 := .dat (.int d)) (v4 := .dat (lsI bs)) ts.reverse bs [lsI [4, d]] [4, d] .no .no .no (by simp; omega) (atI_last [] _)
  have hl := last_in h ts.reverse bs [4, d] [lsI [4, d]] (atI_last [] _)
  have e42 := call42 (s := s) H.p42 ok (lastF h [4, d] ts.reverse bs) (m := k) (by omega)
  rw [dig_lastF] at e42
  have fr : ∀ i, (Rv.d (.int i)).free = true := fun _ => rfl
  have hh : h.d = .obj 0 [.int h.m, .int h.k] := rfl
  have hw : wkD (.zipr false) [blL ts, lsI bs] = some (zipT (ts.reverse.map .bl) (bs.map .int)) := by simp [blL, lsI]
  have len : ([lsI [4, d]] ++ (inpF h [4, d] ts.reverse bs).map lsI).length < line := by
    refine lnlt ?_
    have : ∀ (rs : List Bool) (bs l : List Int), (inpF h l rs bs).length ≤ rs.length := by
      intro rs
      induction rs with
      | nil => intro bs l; simp [inpF]
      | cons r rs ih =>
        intro bs l
        cases bs with
        | nil => simp [inpF]
        | cons b bs => simp only [inpF, List.length_cons]; have := ih bs (stepIn (dig h l) r b); omega
    have := this ts.reverse bs [4, d]
    rw [List.length_reverse] at this
    simp only [List.length_append, List.length_cons, List.length_nil, List.length_map]
    omega
  rw [step (c' := ⟨[.dat h.d, .dat (.int n), .dat (.int p), .dat (.int d), .dat (lsI bs), .own (.lst [lsI [4, d]]), .no, .no, .no], s⟩) (by
    generalize h.d = hd at *
    simp [lsI])]
  rw [step (c' := ⟨[.dat h.d, .dat (.int n), .dat (.int p), .dat (.int d), .dat (lsI bs), .own (.lst ([lsI [4, d]] ++ (inpF h [4, d] ts.reverse bs).map lsI)), w6', w7', w8'], s⟩) (by
    rw [← e]
    rw [es_forr]
    simp only [lvs_cons, evs_nil]
    have q : evE P (callN P k) (.isl (.call 75 [(.v 1), (.v 2)])) ⟨[.dat h.d, .dat (.int n), .dat (.int p), .dat (.int d), .dat (lsI bs), .own (.lst [lsI [4, d]]), .no, .no, .no], s⟩ = .ok (.tmp (blL ts)) ⟨[.dat h.d, .dat (.int n), .dat (.int p), .dat (.int d), .dat (lsI bs), .own (.lst [lsI [4, d]]), .no, .no, .no], s⟩ := by
      simp [e75, fr75]
      simp [blL]
    rw [q]
    simp only [bind_ok, kq_es, lvs_cons, evs_nil, ev_v, get_mk, getS_succ, getS_zero, kq_es2]
    simp
    rw [List.map_reverse] at hw
    exact for_two hw rfl)]
  have ew : llL (wayIn h n d ts.reverse bs) = .lst ([lsI [4, d]] ++ (inpF h [4, d] ts.reverse bs).map lsI ++ [.lst [.int 6, .int n, .int (climb h (dig h [4, d]) ts.reverse bs)]]) := by
    simp [llL, wayIn, lsI]
  rw [ew]
  generalize [lsI [4, d]] ++ (inpF h [4, d] ts.reverse bs).map lsI = X at *
  generalize climb h (dig h [4, d]) ts.reverse bs = v at *
  generalize lsI (lastF h [4, d] ts.reverse bs) = L at *
  simp only [hh] at *
  simp [doApp, hl, e42, fr, len]
/-! included_digest -/
theorem loop78 (H : HasR P) {h : Hs} (ok : h.ok) {k : Nat} (hk : 2 ≤ k) {v1 v2 v3 v4 v5 : Sl} : ∀ (rs : List Bool) (bs : List Int) (v : Int) (w7 w8 : Sl),
    ∃ w7' w8', forL (.tp [7, 8]) (evSs P (callN P k) l78_0) (zipT (rs.map .bl) (bs.map .int)) ⟨[.dat h.d, v1, v2, v3, v4, v5, .dat (.int v), w7, w8], s⟩ = .ok .nx ⟨[.dat h.d, v1, v2, v3, v4, v5, .dat (.int (climb h v rs bs)), w7', w8'], s⟩
  | [], bs, v, w7, w8 => ⟨w7, w8, by simp [climb, zipT, forL]⟩
  | r :: rs, [], v, w7, w8 => ⟨w7, w8, by simp [climb, zipT, forL]⟩
  | r :: rs, b :: bs, v, w7, w8 => by
    obtain ⟨w7', w8', e⟩ := loop78 H ok hk (v1 := v1) (v2 := v2) (v3 := v3) (v4 := v4) (v5 := v5) rs bs (dig h (stepIn v r b)) (.dat (.bl r)) (.dat (.int b))
    refine ⟨w7', w8', ?_⟩
    simp only [climb]
    rw [← e]
    simp only [List.map_cons, zipT]
    rw [forL]
    have ht : tgt (.tp [7, 8]) (.tup [.bl r, .int b]) ⟨[.dat h.d, v1, v2, v3, v4, v5, .dat (.int v), w7, w8], s⟩ = some ⟨[.dat h.d, v1, v2, v3, v4, v5, .dat (.int v), .dat (.bl r), .dat (.int b)], s⟩ := rfl
    rw [ht]
    have e1 := call72 (s := s) H ok b v (m := k) (by omega)
    have e2 := call72 (s := s) H ok v b (m := k) (by omega)
    have fr : ∀ i, (Rv.d (.int i)).free = true := fun _ => rfl
    cases r with
    | true =>
      simp only [stepIn, if_true]
      generalize h.d = hd at *
      simp [l78_0, e1, fr]
    | false =>
      have : stepIn v false b = [5, v, b] := rfl
      rw [this]
      generalize h.d = hd at *
      simp [l78_0, e2, fr]
theorem call78 (H : HasR P) (h78 : P.fns 78 = some f78) {h : Hs} (ok : h.ok) {n p : Nat} (h1 : 1 ≤ n) (h2 : n ≤ 2 ^ 6) (d : Int) {bs : List Int} (hb : bs.length = (turnsF 6 n p).length) {m : Nat} (hm : 4 ≤ m) :
    callN P m 78 [h.d, .int n, .int p, .int d, lsI bs] s = .ok (.d (.int (dig h [6, n, climb h (dig h [4, d]) (turnsF 6 n p).reverse bs]))) s := by
  obtain ⟨k, rfl⟩ : ∃ k, m = k + 1 := ⟨m - 1, by omega⟩
  rw [call_eq h78 rfl]
  have e0 : startL f78.nl [h.d, .int n, .int p, .int d, lsI bs] = [.dat h.d, .dat (.int n), .dat (.int p), .dat (.int d), .dat (lsI bs), .no, .no, .no, .no] := rfl
  have eb : f78.body = [.asg (.nm 5) (.call 75 [(.v 1), (.v 2)]),
    .ife (.cmp .ne (.blt .len [(.v 4)]) (.blt .len [(.v 5)])) [.ret .n] [],
    .asg (.nm 6) (.call 71 [(.v 0), (.v 3)]),
    .forr (.tp [7, 8]) (.zipr false) [(.isl (.v 5)), (.v 4)] l78_0,
    .ret (.meth 0 42 (.v 0) [(.lst [(.i 6), (.v 1), (.v 6)])])] := rfl
  rw [e0, eb]
  have e75 := call75 (s := s) H (n := n) (p := p) h1 h2 (m := k) (by omega)
  have fr75 : (Rv.own (blL (turnsF 6 n p))).free = true := by
    simp only [blL, Rv.free]
    exact flatA_all fun x hx => by
      obtain ⟨b, _, rfl⟩ := List.mem_map.mp hx
      rfl
  generalize turnsF 6 n p = ts at *
  have e71 := call71 (s := s) H ok d (m := k) (by omega)
  obtain ⟨w7', w8', e⟩ := loop78 (s := s) H ok (k := k) (by omega) (v1 := .dat (.int n)) (v2 := .dat (.int p)) (v3 := .dat (.int d)) (v4 := .dat (lsI bs)) (v5 := .own (blL ts)) ts.reverse bs (dig h [4, d]) .no .no
  have e42 := call42 (s := s) H.p42 ok [6, n, climb h (dig h [4, d]) ts.reverse bs] (m := k) (by omega)
  have fr : ∀ i, (Rv.d (.int i)).free = true := fun _ => rfl
  have hw : wkD (.zipr false) [blL ts, lsI bs] = some (zipT (ts.reverse.map .bl) (bs.map .int)) := by simp [blL, lsI]
  have lb := len_lI bs
  have lt : blt1 .len (blL ts) = some (.d (.int ts.length)) := by simp [blL]
  rw [step (c' := ⟨[.dat h.d, .dat (.int n), .dat (.int p), .dat (.int d), .dat (lsI bs), .own (blL ts), .no, .no, .no], s⟩) (by
    generalize h.d = hd at *
    generalize lsI bs = L at *
    generalize blL ts = T at *
    simp [e75, fr75])]
  rw [step (c' := ⟨[.dat h.d, .dat (.int n), .dat (.int p), .dat (.int d), .dat (lsI bs), .own (blL ts), .no, .no, .no], s⟩) (by
    generalize h.d = hd at *
    generalize lsI bs = L at *
    generalize blL ts = T at *
    simp [lb, lt, hb])]
  rw [step (c' := ⟨[.dat h.d, .dat (.int n), .dat (.int p), .dat (.int d), .dat (lsI bs), .own (blL ts), .dat (.int (dig h [4, d])), .no, .no], s⟩) (by
    generalize h.d = hd at *
    generalize lsI bs = L at *
    generalize blL ts = T at *
    simp [e71, fr])]
  rw [step (c' := ⟨[.dat h.d, .dat (.int n), .dat (.int p), .dat (.int d), .dat (lsI bs), .own (blL ts), .dat (.int (climb h (dig h [4, d]) ts.reverse bs)), w7', w8'], s⟩) (by
    rw [← e, es_forr]
    have q : evEs P (callN P k) [.isl (.v 5), .v 4] ⟨[.dat h.d, .dat (.int n), .dat (.int p), .dat (.int d), .dat (lsI bs), .own (blL ts), .dat (.int (dig h [4, d])), .no, .no], s⟩ = .ok [.bor 5 (blL ts), .d (lsI bs)] ⟨[.dat h.d, .dat (.int n), .dat (.int p), .dat (.int d), .dat (lsI bs), .own (blL ts), .dat (.int (dig h [4, d])), .no, .no], s⟩ := by
      simp [blL]
    rw [q, bind_ok]
    exact for_two hw (by simp only [keepsV, Bool.and_true]; decide))]
  rw [show lsI [6, (n : Int), climb h (dig h [4, d]) ts.reverse bs] = .lst [.int 6, .int n, .int (climb h (dig h [4, d]) ts.reverse bs)] from rfl] at e42
  have hh : h.d = .obj 0 [.int h.m, .int h.k] := rfl
  generalize climb h (dig h [4, d]) ts.reverse bs = v at *
  simp only [hh] at *
  simp [e42, fr]
end
end Ev
end
section
set_option maxRecDepth 100000
set_option maxHeartbeats 1000000
/-! Row4: the clash in a row; the law's own way. -/
namespace Ev
def clashF (h : Hs) : List (List Int) → List (List Int) → Option (List Int × List Int)
  | a :: as, b :: bs => if dig h a = dig h b then (if a = b then clashF h as bs else some (a, b)) else none
  | _, _ => none
def clD : Option (List Int × List Int) → D
  | none => .non
  | some (a, b) => .tup [lsI a, lsI b]
theorem deq_lI (xs ys : List Int) : deq (lsI xs) (lsI ys) = (xs == ys) := by simp [lsI, deq, deqs_ints]
theorem shp_lI (xs : List Int) : shp (lsI xs) = true := by simp [shp, lsI, pln, dep, pln_ints, dep_ints]
section
variable {P : Pg} {s : Sto}
theorem loop77 (H : HasR P) {h : Hs} (ok : h.ok) {k : Nat} (hk : 1 ≤ k) {v1 v2 v3 v4 v5 v6 : Sl} : ∀ (as bs : List (List Int)) (w7 w8 : Sl),
    ∃ c', c'.sto = s ∧ ((forL (.tp [7, 8]) (evSs P (callN P k) l77_0) (zipT (as.map lsI) (bs.map lsI)) ⟨[.dat h.d, v1, v2, v3, v4, v5, v6, w7, w8], s⟩ = .ok .nx c' ∧ clashF h as bs = none) ∨
      forL (.tp [7, 8]) (evSs P (callN P k) l77_0) (zipT (as.map lsI) (bs.map lsI)) ⟨[.dat h.d, v1, v2, v3, v4, v5, v6, w7, w8], s⟩ = .ok (.rt (.d (clD (clashF h as bs)))) c')
  | [], bs, w7, w8 => ⟨_, rfl, .inl ⟨by simp [zipT, forL]; rfl, rfl⟩⟩
  | a :: as, [], w7, w8 => ⟨_, rfl, .inl ⟨by simp [zipT, forL]; rfl, rfl⟩⟩
  | a :: as, b :: bs, w7, w8 => by
    simp only [List.map_cons, zipT]
    rw [forL]
    have ht : tgt (.tp [7, 8]) (.tup [lsI a, lsI b]) ⟨[.dat h.d, v1, v2, v3, v4, v5, v6, w7, w8], s⟩ = some ⟨[.dat h.d, v1, v2, v3, v4, v5, v6, .dat (lsI a), .dat (lsI b)], s⟩ := rfl
    rw [ht]
    have e1 := call42 (s := s) H.p42 ok a (m := k) hk
    have e2 := call42 (s := s) H.p42 ok b (m := k) hk
    have fr : ∀ i, (Rv.d (.int i)).free = true := fun _ => rfl
    have dq := deq_lI a b
    have s1 := shp_lI a
    have s2 := shp_lI b
    have hh : h.d = .obj 0 [.int h.m, .int h.k] := rfl
    by_cases q : dig h a = dig h b
    · by_cases q2 : a = b
      · obtain ⟨c', hc, e⟩ := loop77 H ok hk (v1 := v1) (v2 := v2) (v3 := v3) (v4 := v4) (v5 := v5) (v6 := v6) as bs (.dat (lsI a)) (.dat (lsI b))
        have ec : clashF h (a :: as) (b :: bs) = clashF h as bs := by simp [clashF, q, q2]
        rw [ec]
        have dt : deq (lsI a) (lsI b) = true := by rw [dq]; simp [q2]
        have eb : evSs P (callN P k) l77_0 ⟨[.dat h.d, v1, v2, v3, v4, v5, v6, .dat (lsI a), .dat (lsI b)], s⟩ = .ok .nx ⟨[.dat h.d, v1, v2, v3, v4, v5, v6, .dat (lsI a), .dat (lsI b)], s⟩ := by
          simp only [hh] at *
          generalize lsI a = A at *
          generalize lsI b = B at *
          simp [l77_0, e1, e2, fr, q, dt, s1, s2]
        refine ⟨c', hc, ?_⟩
        simp only [eb, bind_ok]
        exact e
      · have ec : clashF h (a :: as) (b :: bs) = some (a, b) := by simp [clashF, q, q2]
        rw [ec]
        have dt : deq (lsI a) (lsI b) = false := by rw [dq]; simp [q2]
        have eb : evSs P (callN P k) l77_0 ⟨[.dat h.d, v1, v2, v3, v4, v5, v6, .dat (lsI a), .dat (lsI b)], s⟩ = .ok (.rt (.d (.tup [lsI a, lsI b]))) ⟨[.dat h.d, v1, v2, v3, v4, v5, v6, .dat (lsI a), .dat (lsI b)], s⟩ := by
          simp only [hh] at *
          generalize lsI a = A at *
          generalize lsI b = B at *
          simp [l77_0, e1, e2, fr, q, dt, s1, s2]
        exact ⟨_, rfl, .inr (by simp only [eb, bind_ok]; rfl)⟩
    · have ec : clashF h (a :: as) (b :: bs) = none := by simp [clashF, q]
      rw [ec]
      have eb : evSs P (callN P k) l77_0 ⟨[.dat h.d, v1, v2, v3, v4, v5, v6, .dat (lsI a), .dat (lsI b)], s⟩ = .ok (.rt (.d .non)) ⟨[.dat h.d, v1, v2, v3, v4, v5, v6, .dat (lsI a), .dat (lsI b)], s⟩ := by
        simp only [hh] at *
        generalize lsI a = A at *
        generalize lsI b = B at *
        simp [l77_0, e1, e2, fr, q]
      exact ⟨_, rfl, .inr (by simp only [eb, bind_ok]; rfl)⟩
theorem call77 (H : HasR P) (h76 : P.fns 76 = some f76) (h77 : P.fns 77 = some f77) {h : Hs} (ok : h.ok) {ds : List Int} {p : Nat} (h1 : 1 ≤ ds.length) (h2 : ds.length ≤ 2 ^ 6) (hp : p < ds.length) (d : Int) (bs : List Int) {m : Nat} (hm : 11 ≤ m) :
    callN P m 77 [h.d, lsI ds, .int p, .int d, lsI bs] s = .ok (.d (clD (clashF h (wayIn h ds.length (ds.getD p 0) (turnsF 6 ds.length p).reverse (inclF h 6 ds p)).reverse (wayIn h ds.length d (turnsF 6 ds.length p).reverse bs).reverse))) s := by
  obtain ⟨k, rfl⟩ : ∃ k, m = k + 1 := ⟨m - 1, by omega⟩
  rw [call_eq h77 rfl]
  have e0 : startL f77.nl [h.d, lsI ds, .int p, .int d, lsI bs] = [.dat h.d, .dat (lsI ds), .dat (.int p), .dat (.int d), .dat (lsI bs), .no, .no, .no, .no] := rfl
  have eb : f77.body = [.asg (.nm 5) (.call 76 [(.v 0), (.blt .len [(.v 1)]), (.v 2), (.v 3), (.v 4)]),
    .asg (.nm 6) (.call 76 [(.v 0), (.blt .len [(.v 1)]), (.v 2), (.ix (.v 1) (.v 2)), (.call 74 [(.v 0), (.v 1), (.v 2)])]),
    .forr (.tp [7, 8]) (.zipr true) [(.isl (.v 6)), (.v 5)] l77_0,
    .ret .n] := rfl
  rw [e0, eb]
  have e1 := call76 (s := s) H h76 ok (n := ds.length) (p := p) h1 h2 d bs (m := k) (by omega)
  have e2 := call76 (s := s) H h76 ok (n := ds.length) (p := p) h1 h2 (ds.getD p 0) (inclF h 6 ds p) (m := k) (by omega)
  have e3 := call74 (s := s) H ok 6 ds p k h1 h2 (by omega) hp (by omega)
  have fr3 := free_lI (inclF h 6 ds p)
  have g : ixD (lsI ds) (.int p) = some (.int (ds.getD p 0)) := by
    have := atI_lI (l := ds) (i := (p : Int)) (by omega) (by omega)
    simpa [lsI] using this
  have ln := len_lI ds
  generalize ds.getD p 0 = d0 at *
  generalize wayIn h ds.length d0 (turnsF 6 ds.length p).reverse (inclF h 6 ds p) = A at *
  generalize wayIn h ds.length d (turnsF 6 ds.length p).reverse bs = B at *
  obtain ⟨c', hc, e⟩ := loop77 (s := s) H ok (k := k) (by omega) (v1 := .dat (lsI ds)) (v2 := .dat (.int p)) (v3 := .dat (.int d)) (v4 := .dat (lsI bs)) (v5 := .own (llL B)) (v6 := .own (llL A)) A.reverse B.reverse .no .no
  have hw : wkD (.zipr true) [llL A, llL B] = some (zipT (A.reverse.map lsI) (B.reverse.map lsI)) := by simp [llL]
  generalize clashF h A.reverse B.reverse = cl at *
  rw [step (c' := ⟨[.dat h.d, .dat (lsI ds), .dat (.int p), .dat (.int d), .dat (lsI bs), .own (llL B), .no, .no, .no], s⟩) (by
    generalize h.d = hd at *
    generalize lsI ds = L at *
    generalize lsI bs = L2 at *
    generalize llL B = LB at *
    simp [ln, e1])]
  rw [step (c' := ⟨[.dat h.d, .dat (lsI ds), .dat (.int p), .dat (.int d), .dat (lsI bs), .own (llL B), .own (llL A), .no, .no], s⟩) (by
    generalize h.d = hd at *
    generalize lsI (inclF h 6 ds p) = L3 at *
    generalize lsI ds = L at *
    generalize lsI bs = L2 at *
    generalize llL B = LB at *
    generalize llL A = LA at *
    simp [ln, g, e3, fr3, e2])]
  have es : evS P (callN P k) (.forr (.tp [7, 8]) (.zipr true) [(.isl (.v 6)), (.v 5)] l77_0) ⟨[.dat h.d, .dat (lsI ds), .dat (.int p), .dat (.int d), .dat (lsI bs), .own (llL B), .own (llL A), .no, .no], s⟩ =
      forL (.tp [7, 8]) (evSs P (callN P k) l77_0) (zipT (A.reverse.map lsI) (B.reverse.map lsI)) ⟨[.dat h.d, .dat (lsI ds), .dat (.int p), .dat (.int d), .dat (lsI bs), .own (llL B), .own (llL A), .no, .no], s⟩ := by
    rw [es_forr]
    have q : evEs P (callN P k) [.isl (.v 6), .v 5] ⟨[.dat h.d, .dat (lsI ds), .dat (.int p), .dat (.int d), .dat (lsI bs), .own (llL B), .own (llL A), .no, .no], s⟩ = .ok [.bor 6 (llL A), .bor 5 (llL B)] ⟨[.dat h.d, .dat (lsI ds), .dat (.int p), .dat (.int d), .dat (lsI bs), .own (llL B), .own (llL A), .no, .no], s⟩ := by
      simp [llL]
    rw [q, bind_ok]
    exact for_two hw (by simp only [keepsV, Bool.and_true]; decide)
  obtain ⟨env, st⟩ := c'
  have hc : st = s := hc
  subst hc
  rcases e with ⟨e, hn⟩ | e
  · rw [step (c' := ⟨env, st⟩) (by rw [es, e])]
    rw [hn]
    simp [clD]
  · simp only [lss_cons, es, e]
    simp
end
end Ev
end
section
set_option maxRecDepth 100000
set_option maxHeartbeats 1000000
/-! Row5: the law's own ways; a clash is one. -/
namespace Ev
theorem lsz12 : ∀ n < 65, lszF 12 1 n = lsz n := by decide +kernel
theorem lszF_stop {f p n : Nat} (h : ¬ 2 * p < n) : lszF f p n = p := by cases f <;> simp [lszF, h]
theorem turnsF_stable : ∀ (f g n p : Nat), n ≤ 2 ^ f → f ≤ 6 → f ≤ g → turnsF g n p = turnsF f n p
  | 0, g, n, p, h, _, _ => by
    have q : ¬ 1 < n := by simp at h; omega
    cases g <;> simp [turnsF, q]
  | f + 1, 0, n, p, _, _, h => by omega
  | f + 1, g + 1, n, p, h, h3, hg => by
    by_cases q : 1 < n
    · have hn : n < 65 := by
        have : 2 ^ (f + 1) ≤ 2 ^ 6 := Nat.pow_le_pow_right (by decide) h3
        omega
      have lp := lsz_pow f (by omega) n hn (by omega) h
      simp only [turnsF, if_pos q]
      rw [turnsF_stable f g (n - lsz n) (p - lsz n) (by omega) (by omega) (by omega), turnsF_stable f g (lsz n) p (by omega) (by omega) (by omega)]
    · simp [turnsF, q]
section
variable {P : Pg} {s : Sto}
theorem loop80 {call : CallT} {v0 v1 v2 v3 v4 v5 v7 v8 u1 u2 u3 u4 : Sl} (n : Nat) : ∀ (m p : Nat) (i : Int) (w : Sl),
    ∃ w', forL (.nm 10) (evSs P call l80_0) (rngL i m) ⟨[v0, v1, v2, v3, v4, v5, .dat (.int n), v7, v8, .dat (.int p), w, u1, u2, u3, u4], s⟩ = .ok .nx ⟨[v0, v1, v2, v3, v4, v5, .dat (.int n), v7, v8, .dat (.int (lszF m p n : Nat)), w', u1, u2, u3, u4], s⟩
  | 0, p, i, w => ⟨w, rfl⟩
  | m + 1, p, i, w => by
    simp only [rngL]
    rw [forL]
    have ht : tgt (.nm 10) (.int i) ⟨[v0, v1, v2, v3, v4, v5, .dat (.int n), v7, v8, .dat (.int p), w, u1, u2, u3, u4], s⟩ = some ⟨[v0, v1, v2, v3, v4, v5, .dat (.int n), v7, v8, .dat (.int p), .dat (.int i), u1, u2, u3, u4], s⟩ := rfl
    rw [ht]
    have mk : okMul 2 (p : Int) = true := rfl
    by_cases q : 2 * p < n
    · obtain ⟨w', e⟩ := loop80 (call := call) (v0 := v0) (v1 := v1) (v2 := v2) (v3 := v3) (v4 := v4) (v5 := v5) (v7 := v7) (v8 := v8) (u1 := u1) (u2 := u2) (u3 := u3) (u4 := u4) n m (2 * p) (i + 1) (.dat (.int i))
      refine ⟨w', ?_⟩
      have q' : 2 * (p : Int) < (n : Int) := by omega
      have ee : ((2 * p : Nat) : Int) = 2 * (p : Int) := by omega
      rw [ee] at e
      simp only [lszF, if_pos q]
      rw [← e]
      simp [l80_0, mk, q, q']
    · obtain ⟨w', e⟩ := loop80 (call := call) (v0 := v0) (v1 := v1) (v2 := v2) (v3 := v3) (v4 := v4) (v5 := v5) (v7 := v7) (v8 := v8) (u1 := u1) (u2 := u2) (u3 := u3) (u4 := u4) n m p (i + 1) (.dat (.int i))
      refine ⟨w', ?_⟩
      have q' : ¬ 2 * (p : Int) < (n : Int) := by omega
      rw [lszF_stop q] at e ⊢
      rw [← e]
      simp [l80_0, mk, q, q']
theorem loop80b {call : CallT} {v0 v1 v2 v3 v4 u1 u2 u3 u4 : Sl} : ∀ (m n p : Nat) (i : Int) (acc : List Bool) (w8 w9 w10 : Sl), 1 ≤ n → n ≤ 64 → acc.length + m ≤ 100 →
    ∃ a b w8' w9' w10', forL (.nm 8) (evSs P call l80_1) (rngL i m) ⟨[v0, v1, v2, v3, v4, .own (blL acc), .dat (.int n), .dat (.int p), w8, w9, w10, u1, u2, u3, u4], s⟩ = .ok .nx ⟨[v0, v1, v2, v3, v4, .own (blL (acc ++ turnsF m n p)), a, b, w8', w9', w10', u1, u2, u3, u4], s⟩
  | 0, n, p, i, acc, w8, w9, w10, _, _, _ => ⟨.dat (.int n), .dat (.int p), w8, w9, w10, by simp [rngL, forL, turnsF]⟩
  | m + 1, n, p, i, acc, w8, w9, w10, h1, h2, hl => by
    simp only [rngL]
    rw [forL]
    have ht : tgt (.nm 8) (.int i) ⟨[v0, v1, v2, v3, v4, .own (blL acc), .dat (.int n), .dat (.int p), w8, w9, w10, u1, u2, u3, u4], s⟩ = some ⟨[v0, v1, v2, v3, v4, .own (blL acc), .dat (.int n), .dat (.int p), .dat (.int i), w9, w10, u1, u2, u3, u4], s⟩ := rfl
    rw [ht]
    by_cases q : 1 < n
    · have lf := lsz_facts n (by omega) (by omega)
      have q0 : (1 : Int) < (n : Int) := by omega
      have ll : acc.length < line := lnlt (by omega)
      obtain ⟨w10', e0⟩ := loop80 (P := P) (call := call) (s := s) (v0 := v0) (v1 := v1) (v2 := v2) (v3 := v3) (v4 := v4) (v5 := .own (blL acc)) (v7 := .dat (.int p)) (v8 := .dat (.int i)) (u1 := u1) (u2 := u2) (u3 := u3) (u4 := u4) n 12 1 0 w10
      rw [lsz12 n (by omega)] at e0
      have hw : wkD .rng1 [.int 12] = some (rngL 0 12) := rfl
      have es : doFor (.nm 10) .rng1 l80_0 (evSs P call l80_0) [.d (.int 12)] ⟨[v0, v1, v2, v3, v4, .own (blL acc), .dat (.int n), .dat (.int p), .dat (.int i), .dat (.int 1), w10, u1, u2, u3, u4], s⟩ = .ok .nx ⟨[v0, v1, v2, v3, v4, .own (blL acc), .dat (.int n), .dat (.int p), .dat (.int i), .dat (.int (lsz n)), w10', u1, u2, u3, u4], s⟩ := by
        rw [forL_d hw]
        exact e0
      simp only [turnsF, if_pos q]
      by_cases q3 : lsz n ≤ p
      · have q4 : ¬ ((p : Int) < (lsz n : Int)) := by omega
        have q5 : (lsz n : Int) ≤ (p : Int) := by omega
        obtain ⟨a, b, w8', w9', w10'', e⟩ := loop80b (call := call) (v0 := v0) (v1 := v1) (v2 := v2) (v3 := v3) (v4 := v4) (u1 := u1) (u2 := u2) (u3 := u3) (u4 := u4) m (n - lsz n) (p - lsz n) (i + 1) (acc ++ [true]) (.dat (.int i)) (.dat (.int (lsz n))) w10' (by omega) (by omega) (by simp only [List.length_append, List.length_cons, List.length_nil]; omega)
        have es1 : ((p - lsz n : Nat) : Int) = (p : Int) - (lsz n : Int) := by omega
        have es2 : ((n - lsz n : Nat) : Int) = (n : Int) - (lsz n : Int) := by omega
        rw [es1, es2] at e
        refine ⟨a, b, w8', w9', w10'', ?_⟩
        rw [if_pos q3]
        rw [show acc ++ true :: turnsF m (n - lsz n) (p - lsz n) = acc ++ [true] ++ turnsF m (n - lsz n) (p - lsz n) by simp, ← e]
        have eb : evSs P call l80_1 ⟨[v0, v1, v2, v3, v4, .own (blL acc), .dat (.int n), .dat (.int p), .dat (.int i), w9, w10, u1, u2, u3, u4], s⟩ = .ok .nx ⟨[v0, v1, v2, v3, v4, .own (blL (acc ++ [true])), .dat (.int ((n : Int) - (lsz n : Int))), .dat (.int ((p : Int) - (lsz n : Int))), .dat (.int i), .dat (.int (lsz n)), w10', u1, u2, u3, u4], s⟩ := by
          simp only [blL] at *
          simp [l80_1, q, q0, es, doApp, ll, q3, q4, q5]
        simp only [eb, bind_ok]
      · have q4 : (p : Int) < (lsz n : Int) := by omega
        have q5 : ¬ ((lsz n : Int) ≤ (p : Int)) := by omega
        have q6 : p < lsz n := by omega
        obtain ⟨a, b, w8', w9', w10'', e⟩ := loop80b (call := call) (v0 := v0) (v1 := v1) (v2 := v2) (v3 := v3) (v4 := v4) (u1 := u1) (u2 := u2) (u3 := u3) (u4 := u4) m (lsz n) p (i + 1) (acc ++ [false]) (.dat (.int i)) (.dat (.int (lsz n))) w10' (by omega) (by omega) (by simp only [List.length_append, List.length_cons, List.length_nil]; omega)
        refine ⟨a, b, w8', w9', w10'', ?_⟩
        rw [if_neg q3]
        rw [show acc ++ false :: turnsF m (lsz n) p = acc ++ [false] ++ turnsF m (lsz n) p by simp, ← e]
        have eb : evSs P call l80_1 ⟨[v0, v1, v2, v3, v4, .own (blL acc), .dat (.int n), .dat (.int p), .dat (.int i), w9, w10, u1, u2, u3, u4], s⟩ = .ok .nx ⟨[v0, v1, v2, v3, v4, .own (blL (acc ++ [false])), .dat (.int (lsz n)), .dat (.int p), .dat (.int i), .dat (.int (lsz n)), w10', u1, u2, u3, u4], s⟩ := by
          simp only [blL] at *
          simp [l80_1, q, q0, es, doApp, ll, q3, q4, q5, q6]
        simp only [eb, bind_ok]
    · have q0 : ¬ ((1 : Int) < (n : Int)) := by omega
      obtain ⟨a, b, w8', w9', w10', e⟩ := loop80b (call := call) (v0 := v0) (v1 := v1) (v2 := v2) (v3 := v3) (v4 := v4) (u1 := u1) (u2 := u2) (u3 := u3) (u4 := u4) m n p (i + 1) acc (.dat (.int i)) w9 w10 h1 h2 (by omega)
      refine ⟨a, b, w8', w9', w10', ?_⟩
      have et : turnsF (m + 1) n p = turnsF m n p := by cases m <;> simp [turnsF, q]
      rw [et, ← e]
      simp [l80_1, q, q0]
end
end Ev
end
section
set_option maxRecDepth 100000
set_option maxHeartbeats 1000000
/-! Row6: the law's own way, the whole; a clash is one; the digests of a script. -/
namespace Ev
section
variable {P : Pg} {s : Sto}
theorem loop80c (H : HasR P) {h : Hs} (ok : h.ok) {k : Nat} (hk : 1 ≤ k) {B : List Int} {v1 v2 v3 v5 v6 v7 v8 v9 v10 : Sl} : ∀ (rs : List Bool) (j : Nat) (X : List D) (l : List Int) (w12 w13 w14 : Sl), X.length + rs.length ≤ 100 → atI X (-1) = some (lsI l) → j + rs.length = B.length →
    ∃ w12' w13' w14', forL (.tp [12, 13]) (evSs P (callN P k) l80_2) (enumF j (rs.map .bl)) ⟨[.dat h.d, v1, v2, v3, .dat (lsI B), v5, v6, v7, v8, v9, v10, .own (.lst X), w12, w13, w14], s⟩ = .ok .nx ⟨[.dat h.d, v1, v2, v3, .dat (lsI B), v5, v6, v7, v8, v9, v10, .own (.lst (X ++ (inpF h l rs (B.drop j)).map lsI)), w12', w13', w14'], s⟩
  | [], j, X, l, w12, w13, w14, _, _, _ => ⟨w12, w13, w14, by simp [inpF, enumF, forL]⟩
  | r :: rs, j, X, l, w12, w13, w14, hl, hX, hB => by
    simp only [List.length_cons] at hl hB
    have hj : j < B.length := by omega
    have hd : B.drop j = B[j] :: B.drop (j + 1) := List.drop_eq_getElem_cons hj
    have gj : ixD (lsI B) (.int (j : Nat)) = some (.int B[j]) := by
      have := atI_nat (xs := B.map D.int) (k := j) (by simpa using hj)
      show atI (B.map D.int) (j : Int) = _
      rw [this, List.getElem?_map, List.getElem?_eq_getElem hj]; rfl
    rw [hd]
    generalize B[j] = b at *
    obtain ⟨w12', w13', w14', e⟩ := loop80c H ok hk (B := B) (v1 := v1) (v2 := v2) (v3 := v3) (v5 := v5) (v6 := v6) (v7 := v7) (v8 := v8) (v9 := v9) (v10 := v10) rs (j + 1) (X ++ [lsI (stepIn (dig h l) r b)]) (stepIn (dig h l) r b) (.dat (.int (j : Nat))) (.dat (.bl r)) (.dat (.int (dig h l))) (by simp only [List.length_append, List.length_cons, List.length_nil]; omega) (atI_last _ _) (by omega)
    refine ⟨w12', w13', w14', ?_⟩
    have ea : X ++ (inpF h l (r :: rs) (b :: B.drop (j + 1))).map lsI = X ++ [lsI (stepIn (dig h l) r b)] ++ (inpF h (stepIn (dig h l) r b) rs (B.drop (j + 1))).map lsI := by simp [inpF]
    rw [ea, ← e]
    simp only [List.map_cons, enumF]
    rw [forL]
    have ht : tgt (.tp [12, 13]) (.tup [.int (j : Nat), .bl r]) ⟨[.dat h.d, v1, v2, v3, .dat (lsI B), v5, v6, v7, v8, v9, v10, .own (.lst X), w12, w13, w14], s⟩ = some ⟨[.dat h.d, v1, v2, v3, .dat (lsI B), v5, v6, v7, v8, v9, v10, .own (.lst X), .dat (.int (j : Nat)), .dat (.bl r), w14], s⟩ := rfl
    rw [ht]
    have e42 := call42 (s := s) H.p42 ok l (m := k) hk
    have fr : ∀ i, (Rv.d (.int i)).free = true := fun _ => rfl
    have hh : h.d = .obj 0 [.int h.m, .int h.k] := rfl
    have ll := lnlt (n := X.length) (by omega)
    have sb : lsI (stepIn (dig h l) r b) = if r then .lst [.int 5, .int b, .int (dig h l)] else .lst [.int 5, .int (dig h l), .int b] := by cases r <;> rfl
    rw [sb]
    simp only [hh] at *
    generalize dig h l = v at *
    generalize lsI l = L at *
    generalize lsI B = LB at *
    cases r <;> simp [l80_2, doApp, e42, fr, hX, ll, gj]
theorem call80 (H : HasR P) (h80 : P.fns 80 = some f80) {h : Hs} (ok : h.ok) {n p : Nat} (h1 : 1 ≤ n) (h2 : n ≤ 2 ^ 6) (d : Int) {bs : List Int} (hb : bs.length = (turnsF 6 n p).length) {m : Nat} (hm : 4 ≤ m) :
    callN P m 80 [h.d, .int n, .int p, .int d, lsI bs] s = .ok (.own (llL (wayIn h n d (turnsF 6 n p).reverse bs))) s := by
  obtain ⟨k, rfl⟩ : ∃ k, m = k + 1 := ⟨m - 1, by omega⟩
  rw [call_eq h80 rfl]
  have e0 : startL f80.nl [h.d, .int n, .int p, .int d, lsI bs] = [.dat h.d, .dat (.int n), .dat (.int p), .dat (.int d), .dat (lsI bs), .no, .no, .no, .no, .no, .no, .no, .no, .no, .no] := rfl
  have eb : f80.body = [.asg (.nm 5) (.lst []),
    .asg (.nm 6) (.v 1),
    .asg (.nm 7) (.v 2),
    .forr (.nm 8) .rng1 [(.i 12)] l80_1,
    .asg (.nm 11) (.lst [(.lst [(.i 4), (.v 3)])]),
    .forr (.tp [12, 13]) .enum [(.rev (.v 5))] l80_2,
    .ret (.bin .add (.v 11) (.lst [(.lst [(.i 6), (.v 1), (.meth 0 42 (.v 0) [(.ix (.v 11) (.neg (.i 1)))])])]))] := rfl
  rw [e0, eb]
  obtain ⟨a6, a7, a8, a9, a10, e1⟩ := loop80b (P := P) (call := callN P k) (s := s) (v0 := .dat h.d) (v1 := .dat (.int n)) (v2 := .dat (.int p)) (v3 := .dat (.int d)) (v4 := .dat (lsI bs)) (u1 := .no) (u2 := .no) (u3 := .no) (u4 := .no) 12 n p 0 [] .no .no .no h1 (by simpa using h2) (by simp)
  rw [turnsF_stable 6 12 n p h2 (by omega) (by omega), List.nil_append] at e1
  have tl := turns_len 6 n p
  generalize turnsF 6 n p = ts at *
  obtain ⟨w12, w13, w14, e2⟩ := loop80c (s := s) H ok (k := k) (by omega) (B := bs) (v1 := .dat (.int n)) (v2 := .dat (.int p)) (v3 := .dat (.int d)) (v5 := .own (blL ts)) (v6 := a6) (v7 := a7) (v8 := a8) (v9 := a9) (v10 := a10) ts.reverse 0 [lsI [4, d]] [4, d] .no .no .no (by simp; omega) (atI_last [] _) (by simp; omega)
  rw [List.drop_zero] at e2
  have hl := last_in h ts.reverse bs [4, d] [lsI [4, d]] (atI_last [] _)
  have e42 := call42 (s := s) H.p42 ok (lastF h [4, d] ts.reverse bs) (m := k) (by omega)
  rw [dig_lastF] at e42
  have fr : ∀ i, (Rv.d (.int i)).free = true := fun _ => rfl
  have hh : h.d = .obj 0 [.int h.m, .int h.k] := rfl
  have len : ([lsI [4, d]] ++ (inpF h [4, d] ts.reverse bs).map lsI).length + 1 ≤ line := by
    have := inpF_len h ts.reverse bs [4, d] (by simp; omega)
    have q : ([lsI [4, d]] ++ (inpF h [4, d] ts.reverse bs).map lsI).length = 1 + ts.length := by simp [this]; omega
    rw [q]
    exact Nat.le_trans (show 1 + ts.length + 1 ≤ 200 by omega) (by unfold line; decide)
  have hw : wkD .rng1 [.int 12] = some (rngL 0 12) := rfl
  rw [step (c' := ⟨[.dat h.d, .dat (.int n), .dat (.int p), .dat (.int d), .dat (lsI bs), .own (blL []), .no, .no, .no, .no, .no, .no, .no, .no, .no], s⟩) (by simp [blL])]
  rw [step (c' := ⟨[.dat h.d, .dat (.int n), .dat (.int p), .dat (.int d), .dat (lsI bs), .own (blL []), .dat (.int n), .no, .no, .no, .no, .no, .no, .no, .no], s⟩) (by simp)]
  rw [step (c' := ⟨[.dat h.d, .dat (.int n), .dat (.int p), .dat (.int d), .dat (lsI bs), .own (blL []), .dat (.int n), .dat (.int p), .no, .no, .no, .no, .no, .no, .no], s⟩) (by simp)]
  rw [step (c' := ⟨[.dat h.d, .dat (.int n), .dat (.int p), .dat (.int d), .dat (lsI bs), .own (blL ts), a6, a7, a8, a9, a10, .no, .no, .no, .no], s⟩) (by
    rw [es_forr]
    simp only [lvs_cons, evs_nil, ev_i, bind_ok, kq_es, kq_es2]
    rw [forL_d hw]
    exact e1)]
  rw [step (c' := ⟨[.dat h.d, .dat (.int n), .dat (.int p), .dat (.int d), .dat (lsI bs), .own (blL ts), a6, a7, a8, a9, a10, .own (.lst [lsI [4, d]]), .no, .no, .no], s⟩) (by simp [lsI])]
  rw [step (c' := ⟨[.dat h.d, .dat (.int n), .dat (.int p), .dat (.int d), .dat (lsI bs), .own (blL ts), a6, a7, a8, a9, a10, .own (.lst ([lsI [4, d]] ++ (inpF h [4, d] ts.reverse bs).map lsI)), w12, w13, w14], s⟩) (by
    rw [← e2, es_forr]
    have q : evEs P (callN P k) [.rev (.v 5)] ⟨[.dat h.d, .dat (.int n), .dat (.int p), .dat (.int d), .dat (lsI bs), .own (blL ts), a6, a7, a8, a9, a10, .own (.lst [lsI [4, d]]), .no, .no, .no], s⟩ = .ok [.tmp (.lst (ts.reverse.map .bl))] ⟨[.dat h.d, .dat (.int n), .dat (.int p), .dat (.int d), .dat (lsI bs), .own (blL ts), a6, a7, a8, a9, a10, .own (.lst [lsI [4, d]]), .no, .no, .no], s⟩ := by
      simp [blL]
    rw [q, bind_ok]
    simp only [doFor, List.map_cons, List.map_nil]
    have : wkD .enum [(Vl.tmp (.lst (ts.reverse.map .bl))).rd] = some (enumF 0 (ts.reverse.map .bl)) := rfl
    rw [this, ofO_some, bind_ok]
    exact if_pos rfl)]
  have ew : llL (wayIn h n d ts.reverse bs) = .lst ([lsI [4, d]] ++ (inpF h [4, d] ts.reverse bs).map lsI ++ [.lst [.int 6, .int n, .int (climb h (dig h [4, d]) ts.reverse bs)]]) := by
    simp [llL, wayIn, lsI]
  rw [ew]
  generalize [lsI [4, d]] ++ (inpF h [4, d] ts.reverse bs).map lsI = X at *
  generalize climb h (dig h [4, d]) ts.reverse bs = v at *
  generalize lsI (lastF h [4, d] ts.reverse bs) = L at *
  simp only [hh] at *
  simp [hl, e42, fr, len]
/-! a clash is one -/
theorem loop81 {call : CallT} {h : Hs} (ok : h.ok) {v1 v2 v3 : Sl} : ∀ (ns : List Int) (v : Int) (w : Sl), 0 ≤ v → v < h.m →
    ∃ w', forL (.nm 5) (evSs P call l81_0) (ns.map .int) ⟨[.dat h.d, v1, v2, v3, .dat (.int v), w], s⟩ = .ok .nx ⟨[.dat h.d, v1, v2, v3, .dat (.int (hdig h v ns)), w'], s⟩
  | [], v, w, _, _ => ⟨w, rfl⟩
  | n :: ns, v, w, h0, h1 => by
    have hm : 0 < h.m := by have := ok.1; omega
    obtain ⟨w', e⟩ := loop81 (call := call) ok (v1 := v1) (v2 := v2) (v3 := v3) ns ((v * h.k + n + 1) % h.m) (.dat (.int n)) (Int.emod_nonneg _ (by omega)) (Int.emod_lt_of_pos _ hm)
    refine ⟨w', ?_⟩
    simp only [hdig]
    rw [← e]
    have hk := mulOk ok h0 h1
    simp only [List.map_cons]
    rw [forL]
    simp [l81_0, Hs.d, hk, hm]
theorem turn81 {call : CallT} {h : Hs} (ok : h.ok) {v1 : Sl} (a : List Int) (acc : List D) (w3 w4 w5 : Sl) (hl : acc.length ≤ 10) :
    ∃ w4' w5', evSs P call l81_1 ⟨[.dat h.d, v1, .own (.lst acc), .dat (lsI a), w4, w5], s⟩ = .ok .nx ⟨[.dat h.d, v1, .own (.lst (acc ++ [.int (dig h a)])), .dat (lsI a), w4', w5'], s⟩ := by
  obtain ⟨w', e⟩ := loop81 (P := P) (s := s) (call := call) ok (v1 := v1) (v2 := .own (.lst acc)) (v3 := .dat (lsI a)) a 0 w5 (by omega) (by have := ok.1; omega)
  have hw : wkD .seq [lsI a] = some (a.map .int) := rfl
  have ll := lnlt (n := acc.length) (by omega)
  refine ⟨.dat (.int (dig h a)), w', ?_⟩
  have e : forL (.nm 5) (evSs P call l81_0) (a.map .int) ⟨[.dat h.d, v1, .own (.lst acc), .dat (lsI a), .dat (.int 0), w5], s⟩ = .ok .nx ⟨[.dat h.d, v1, .own (.lst acc), .dat (lsI a), .dat (.int (dig h a)), w'], s⟩ := e
  have e2 := forL_d (t := .nm 5) (b := l81_0) (body := evSs P call l81_0) (c := ⟨[.dat h.d, v1, .own (.lst acc), .dat (lsI a), .dat (.int 0), w5], s⟩) hw
  rw [e] at e2
  generalize lsI a = L at *
  generalize h.d = hd at *
  simp [l81_1, e2, doApp, ll]
theorem call81 (h81 : P.fns 81 = some f81) {h : Hs} (ok : h.ok) {a b : List Int} (hne : a ≠ b) (hd : dig h a = dig h b) {m : Nat} (hm : 1 ≤ m) : callN P m 81 [h.d, .tup [lsI a, lsI b]] s = .ok (.d (.bl true)) s := by
  obtain ⟨k, rfl⟩ : ∃ k, m = k + 1 := ⟨m - 1, by omega⟩
  rw [call_eq h81 rfl]
  have e0 : startL f81.nl [h.d, .tup [lsI a, lsI b]] = [.dat h.d, .dat (.tup [lsI a, lsI b]), .no, .no, .no, .no] := rfl
  have eb : f81.body = [.ife (.or (.not (.isi (.v 1) .tup)) (.or (.cmp .ne (.blt .len [(.v 1)]) (.i 2)) (.cmp .eq (.ix (.v 1) (.i 0)) (.ix (.v 1) (.i 1))))) [.ret (.b false)] [],
    .asg (.nm 2) (.lst []), .forr (.nm 3) .seq [(.v 1)] l81_1, .ret (.cmp .eq (.ix (.v 2) (.i 0)) (.ix (.v 2) (.i 1)))] := rfl
  rw [e0, eb]
  obtain ⟨w4, w5, e1⟩ := turn81 (P := P) (s := s) (call := callN P k) ok (v1 := .dat (.tup [lsI a, lsI b])) a [] .no .no .no (by simp)
  obtain ⟨w4', w5', e2⟩ := turn81 (P := P) (s := s) (call := callN P k) ok (v1 := .dat (.tup [lsI a, lsI b])) b [.int (dig h a)] .no w4 w5 (by simp)
  have dq : deq (lsI a) (lsI b) = false := by rw [deq_lI]; simp [hne]
  have s1 := shp_lI a
  have s2 := shp_lI b
  have hw : wkD .seq [.tup [lsI a, lsI b]] = some [lsI a, lsI b] := rfl
  rw [step (c' := ⟨[.dat h.d, .dat (.tup [lsI a, lsI b]), .no, .no, .no, .no], s⟩) (by
    generalize lsI a = A at *
    generalize lsI b = B at *
    simp [dq, s1, s2])]
  rw [step (c' := ⟨[.dat h.d, .dat (.tup [lsI a, lsI b]), .own (.lst []), .no, .no, .no], s⟩) (by simp)]
  rw [step (c' := ⟨[.dat h.d, .dat (.tup [lsI a, lsI b]), .own (.lst ([.int (dig h a)] ++ [.int (dig h b)])), .dat (lsI b), w4', w5'], s⟩) (by
    rw [es_forr]
    simp only [lvs_cons, evs_nil, ev_v, get_mk, getS_succ, getS_zero, bind_ok, kq_es, kq_es2]
    rw [forL_d hw, forL]
    have h1 : tgt (.nm 3) (lsI a) ⟨[.dat h.d, .dat (.tup [lsI a, lsI b]), .own (.lst []), .no, .no, .no], s⟩ = some ⟨[.dat h.d, .dat (.tup [lsI a, lsI b]), .own (.lst []), .dat (lsI a), .no, .no], s⟩ := rfl
    rw [h1]
    simp only [e1, bind_ok]
    rw [forL]
    have h2 : tgt (.nm 3) (lsI b) ⟨[.dat h.d, .dat (.tup [lsI a, lsI b]), .own (.lst ([] ++ [.int (dig h a)])), .dat (lsI a), w4, w5], s⟩ = some ⟨[.dat h.d, .dat (.tup [lsI a, lsI b]), .own (.lst [.int (dig h a)]), .dat (lsI b), w4, w5], s⟩ := rfl
    rw [h2]
    simp only [e2, bind_ok]
    rfl)]
  rw [hd]
  simp
end
end Ev
end
section
set_option maxRecDepth 100000
set_option maxHeartbeats 1000000
/-! Row7: clashes, plainly; the digests of a script. -/
namespace Ev
theorem inpF_app (h : Hs) : ∀ (rs : List Bool) (bs l : List Int) (r : Bool) (b : Int), rs.length = bs.length → inpF h l (rs ++ [r]) (bs ++ [b]) = inpF h l rs bs ++ [stepIn (climb h (dig h l) rs bs) r b]
  | [], [], l, r, b, _ => rfl
  | x :: rs, y :: bs, l, r, b, e => by
    simp only [List.cons_append, inpF, climb, List.cons.injEq, true_and]
    exact inpF_app h rs bs _ r b (by simpa using e)
  | [], _ :: _, _, _, _, e => by simp at e
  | _ :: _, [], _, _, _, e => by simp at e
theorem stepIn_inj {a b x y : Int} {r : Bool} (e : stepIn a r x = stepIn b r y) : a = b := by
  cases r with
  | true => simp only [stepIn, if_true, List.cons.injEq] at e; exact e.2.2.1
  | false => exact (List.cons.inj (List.cons.inj e).2).1
theorem clash_same (h : Hs) : ∀ as : List (List Int), clashF h as as = none
  | [] => rfl
  | a :: as => by simp [clashF, clash_same h as]
/-- no clash down to the leaf: the leaves are the same -/
theorem chain (h : Hs) (l m : List Int) : ∀ (ts : List Bool) (as bs : List Int), ts.length = as.length → ts.length = bs.length → climb h (dig h l) ts.reverse as.reverse = climb h (dig h m) ts.reverse bs.reverse →
    clashF h (l :: inpF h l ts.reverse as.reverse).reverse (m :: inpF h m ts.reverse bs.reverse).reverse = none → l = m
  | [], [], [], _, _, e, hc => by
    have e : dig h l = dig h m := e
    by_cases q : l = m
    · exact q
    · simp [inpF, clashF, e, q] at hc
  | r :: ts, a :: as, b :: bs, h1, h2, e, hc => by
    simp only [List.length_cons, Nat.add_right_cancel_iff] at h1 h2
    rw [List.reverse_cons, List.reverse_cons, List.reverse_cons, climb_app _ _ _ _ _ _ (by simp; omega), climb_app _ _ _ _ _ _ (by simp; omega)] at e
    rw [List.reverse_cons (a := r), List.reverse_cons (a := a), List.reverse_cons (a := b), inpF_app _ _ _ _ _ _ (by simp; omega), inpF_app _ _ _ _ _ _ (by simp; omega), ← List.cons_append, ← List.cons_append, List.reverse_append, List.reverse_append] at hc
    simp only [List.reverse_cons, List.reverse_nil, List.nil_append, List.singleton_append, clashF, e, if_true] at hc
    split at hc
    · rename_i q
      refine chain h l m ts as bs h1 h2 (stepIn_inj q) ?_
      simpa using hc
    · cases hc
  | [], _ :: _, _, h1, _, _, _ => by simp at h1
  | [], [], _ :: _, _, h2, _, _ => by simp at h2
  | _ :: _, [], _, h1, _, _, _ => by simp at h1
  | _ :: _, _ :: _, [], _, h2, _, _ => by simp at h2
theorem clash_at (h : Hs) : ∀ (as bs : List (List Int)) (a b : List Int), clashF h as bs = some (a, b) → a ≠ b ∧ dig h a = dig h b ∧ ∃ j : Nat, as[j]? = some a ∧ bs[j]? = some b
  | x :: as, y :: bs, a, b, e => by
    unfold clashF at e
    split at e
    · rename_i q
      split at e
      · obtain ⟨h1, h2, j, h3, h4⟩ := clash_at h as bs a b e
        exact ⟨h1, h2, j + 1, by simpa using h3, by simpa using h4⟩
      · rename_i q2
        cases e
        exact ⟨q2, q, 0, rfl, rfl⟩
    · cases e
  | [], _, _, _, e => by simp [clashF] at e
  | _ :: _, [], _, _, e => by simp [clashF] at e
theorem clash_rev (h : Hs) {as bs : List (List Int)} (hl : as.length = bs.length) {a b : List Int} (e : clashF h as.reverse bs.reverse = some (a, b)) : a ≠ b ∧ dig h a = dig h b ∧ ∃ j : Nat, j < as.length ∧ as[j]? = some a ∧ bs[j]? = some b := by
  obtain ⟨h1, h2, j, h3, h4⟩ := clash_at h _ _ a b e
  have hj : j < as.length := by
    have := (List.getElem?_eq_some_iff.mp h3).1
    simpa using this
  rw [List.getElem?_reverse hj] at h3
  rw [List.getElem?_reverse (by omega)] at h4
  refine ⟨h1, h2, as.length - 1 - j, by omega, h3, ?_⟩
  rw [hl]; exact h4
theorem wayIn_len (h : Hs) (n : Nat) (d : Int) {rs : List Bool} {bs : List Int} (hl : rs.length = bs.length) : (wayIn h n d rs bs).length = rs.length + 2 := by
  simp only [wayIn, List.length_append, List.length_cons, List.length_nil, inpF_len h rs bs _ hl]
theorem wayIn_rev (h : Hs) (n : Nat) (d : Int) (rs : List Bool) (bs : List Int) : (wayIn h n d rs bs).reverse = [6, (n : Int), climb h (dig h [4, d]) rs bs] :: ([4, d] :: inpF h [4, d] rs bs).reverse := by
  simp [wayIn]
/-- what leads elsewhere shows no clash -/
theorem no_clash (h : Hs) {n : Nat} {d d' : Int} {rs : List Bool} {bs bs' : List Int} (q : dig h [6, (n : Int), climb h (dig h [4, d]) rs bs] ≠ dig h [6, (n : Int), climb h (dig h [4, d']) rs bs']) :
    clashF h (wayIn h n d' rs bs').reverse (wayIn h n d rs bs).reverse = none := by
  rw [wayIn_rev, wayIn_rev]
  unfold clashF
  rw [if_neg fun z => q z.symm]
/-- what leads there with another digest shows one -/
theorem a_clash (h : Hs) {n : Nat} {d d' : Int} {ts : List Bool} {bs bs' : List Int} (h1 : ts.length = bs.length) (h2 : ts.length = bs'.length) (q : dig h [6, (n : Int), climb h (dig h [4, d]) ts.reverse bs] = dig h [6, (n : Int), climb h (dig h [4, d']) ts.reverse bs'])
    (hc : clashF h (wayIn h n d' ts.reverse bs').reverse (wayIn h n d ts.reverse bs).reverse = none) : d = d' := by
  rw [wayIn_rev, wayIn_rev] at hc
  simp only [clashF] at hc
  rw [if_pos q.symm] at hc
  split at hc
  · rename_i z
    have z : climb h (dig h [4, d']) ts.reverse bs' = climb h (dig h [4, d]) ts.reverse bs := by simpa using z
    have c := chain h [4, d'] [4, d] ts bs'.reverse bs.reverse (by simp; omega) (by simp; omega) (by rw [List.reverse_reverse, List.reverse_reverse]; exact z) (by rw [List.reverse_reverse, List.reverse_reverse]; exact hc)
    have := (List.cons.inj (List.cons.inj c).2).1
    exact this.symm
  · cases hc
section
variable {P : Pg} {s : Sto}
theorem loop69 (h0 : P.fns 0 = some f0) {k : Nat} (hk : 1 ≤ k) {v0 v1 : Sl} {q : Int} (hq : 0 < q) : ∀ (xs acc : List Int) (w4 w5 : Sl), acc.length + xs.length ≤ 100 →
    ∃ (ds : List Int) (w4' w5' : Sl), ds.length = acc.length + xs.length ∧ forL (.nm 4) (evSs P (callN P k) l69_0) (xs.map .int) ⟨[v0, v1, .dat (.int q), .own (lsI acc), w4, w5], s⟩ = .ok .nx ⟨[v0, v1, .dat (.int q), .own (lsI ds), w4', w5'], s⟩
  | [], acc, w4, w5, _ => ⟨acc, w4, w5, by simp, rfl⟩
  | x :: xs, acc, w4, w5, hl => by
    simp only [List.length_cons] at hl
    obtain ⟨l, hll, hr, e0⟩ := call0r (s := s) h0 x 2 (by decide) (m := k) hk
    have e0 : callN P k 0 [.int x, .int 2] s = .ok (.own (lsI l)) s := e0
    have g0 : atI (l.map D.int) 0 = some (.int (l.getD 0 0)) := atI_lI (by omega) (by omega)
    have g1 : atI (l.map D.int) 1 = some (.int (l.getD 1 0)) := atI_lI (by omega) (by omega)
    have r0 := getD_rng hr 0
    have fr := free_lI l
    generalize l.getD 0 0 = a at *
    generalize l.getD 1 0 = b at *
    obtain ⟨ds, w4', w5', h1, e⟩ := loop69 h0 hk (v0 := v0) (v1 := v1) hq xs (acc ++ [(a * 1000 + b) % q]) (.dat (.int x)) (.own (lsI l)) (by simp only [List.length_append, List.length_cons, List.length_nil]; omega)
    refine ⟨ds, w4', w5', by simp only [List.length_append, List.length_cons, List.length_nil] at h1 ⊢; omega, ?_⟩
    rw [← e]
    simp only [List.map_cons]
    rw [forL]
    have ll := lnlt (n := acc.length) (by omega)
    have mk : okMul a 1000 = true := by
      have a1 : decide (-(2 ^ 64) < a) = true := by simp; omega
      have a2 : decide (a < 2 ^ 64) = true := by simp; omega
      unfold okMul; rw [a1, a2]; rfl
    simp only [lsI] at *
    simp [l69_0, doApp, e0, fr, g0, g1, mk, hq, ll]
theorem call69 (h0 : P.fns 0 = some f0) (h69 : P.fns 69 = some f69) {q : Int} (hq : 0 < q) (ns : List Int) {m : Nat} (hm : 2 ≤ m) :
    ∃ ds : List Int, 1 ≤ ds.length ∧ ds.length ≤ 40 ∧ callN P m 69 [.lst (ns.map .int), .int 2, .int q] s = .ok (.own (lsI ds)) s := by
  obtain ⟨k, rfl⟩ : ∃ k, m = k + 1 := ⟨m - 1, by omega⟩
  rw [call_eq h69 rfl]
  have e0 : startL f69.nl [.lst (ns.map .int), .int 2, .int q] = [.dat (.lst (ns.map .int)), .dat (.int 2), .dat (.int q), .no, .no, .no] := rfl
  have eb : f69.body = [.asg (.nm 3) (.lst []), .forr (.nm 4) .seq [(.sl (.v 0) (some (.v 1)) (some (.bin .add (.v 1) (.i 40))))] l69_0, .ret (.ite (.v 3) (.v 3) (.lst [(.i 0)]))] := rfl
  rw [e0, eb]
  have hc : cut (ns.map D.int) (some 2) (some 42) = ((ns.drop 2).take 40).map .int := by
    have := cut_seg (ns.map D.int) 2 42
    rw [← List.map_drop, ← List.map_take] at this
    exact this
  obtain ⟨ds, w4, w5, hl, e⟩ := loop69 (s := s) h0 (k := k) (by omega) (v0 := .dat (.lst (ns.map .int))) (v1 := .dat (.int 2)) hq ((ns.drop 2).take 40) [] .no .no (by simp [List.length_take]; omega)
  have hl2 : ds.length ≤ 40 := by simp [List.length_take] at hl; omega
  generalize (ns.drop 2).take 40 = xs at *
  have hw : wkD .seq [.lst (xs.map .int)] = some (xs.map .int) := rfl
  have es : ∀ c : C, doFor (.nm 4) .seq l69_0 (evSs P (callN P k) l69_0) [.tmp (.lst (xs.map .int))] c = forL (.nm 4) (evSs P (callN P k) l69_0) (xs.map .int) c := fun c => by
    simp only [doFor, List.map_cons, List.map_nil]
    have : wkD .seq [(Vl.tmp (.lst (xs.map .int))).rd] = some (xs.map .int) := rfl
    rw [this, ofO_some, bind_ok]
    exact if_pos rfl
  cases ds with
  | nil =>
    refine ⟨[0], by simp, by simp, ?_⟩
    rw [step (c' := ⟨[.dat (.lst (ns.map .int)), .dat (.int 2), .dat (.int q), .own (lsI []), .no, .no], s⟩) (by simp [lsI])]
    rw [step (c' := ⟨[.dat (.lst (ns.map .int)), .dat (.int 2), .dat (.int q), .own (lsI []), w4, w5], s⟩) (by
      rw [← e]
      simp [hc, es])]
    simp [lsI]
  | cons x r =>
    refine ⟨x :: r, by simp, hl2, ?_⟩
    rw [step (c' := ⟨[.dat (.lst (ns.map .int)), .dat (.int 2), .dat (.int q), .own (lsI []), .no, .no], s⟩) (by simp [lsI])]
    rw [step (c' := ⟨[.dat (.lst (ns.map .int)), .dat (.int 2), .dat (.int q), .own (lsI (x :: r)), w4, w5], s⟩) (by
      rw [← e]
      simp [hc, es])]
    simp [lsI]
end
end Ev
end
section
set_option maxRecDepth 100000
set_option maxHeartbeats 1000000
/-! Row8: law k19, one turn. -/
namespace Ev
structure HasR9 (P : Pg) : Prop where
  R : HasR P
  p0 : P.fns 0 = some f0
  p39 : P.fns 39 = some f39
  p69 : P.fns 69 = some f69
  p76 : P.fns 76 = some f76
  p77 : P.fns 77 = some f77
  p78 : P.fns 78 = some f78
  p80 : P.fns 80 = some f80
  p81 : P.fns 81 = some f81
def l82_0 : List S :=
   [.asg (.nm 6) (.call 0 [(.bin .add (.call 39 [(.v 0), (.i 1)]) (.v 5)), (.i 6)]),
    .asg (.nm 7) (.bin .mod (.ix (.v 6) (.i 0)) (.v 4)),
    .asg (.nm 8) (.call 74 [(.v 2), (.v 3), (.v 7)]),
    .ife (.cmp .isnot (.call 77 [(.v 2), (.v 3), (.v 7), (.ix (.v 3) (.v 7)), (.v 8)]) .n)
      [.ret (.b false)]
      [],
    .asg (.nm 9) (.ite (.cmp .eq (.bin .mod (.ix (.v 6) (.i 2)) (.i 2)) (.i 0)) (.bin .mod (.ix (.v 6) (.i 1)) (.fld (.v 2) 0 0)) (.ix (.v 3) (.v 7))),
    .asg (.nm 10) (.blt .list [(.v 8)]),
    .ife (.and (.v 10) (.cmp .eq (.bin .mod (.ix (.v 6) (.i 3)) (.i 2)) (.i 0)))
      [.setix 10 (.bin .mod (.ix (.v 6) (.i 4)) (.blt .len [(.v 10)])) (.bin .mod (.ix (.v 6) (.i 5)) (.fld (.v 2) 0 0))]
      [],
    .asg (.nm 11) (.call 77 [(.v 2), (.v 3), (.v 7), (.v 9), (.v 10)]),
    .ife (.cmp .ne (.call 78 [(.v 2), (.v 4), (.v 7), (.v 9), (.v 10)]) (.call 79 [(.v 2), (.v 3)]))
      [.ife (.cmp .isnot (.v 11) .n)
        [.ret (.b false)]
        []]
      [.ife (.and (.cmp .ne (.v 9) (.ix (.v 3) (.v 7))) (.cmp .is (.v 11) .n))
        [.ret (.b false)]
        [.ife (.cmp .isnot (.v 11) .n)
          [.asg (.nm 12) (.lst [(.call 80 [(.v 2), (.v 4), (.v 7), (.ix (.v 3) (.v 7)), (.v 8)]), (.call 80 [(.v 2), (.v 4), (.v 7), (.v 9), (.v 10)])]),
          .asg (.nm 13) (.lc (.lst [(.ix (.ix (.v 12) (.i 0)) (.v 14)), (.ix (.ix (.v 12) (.i 1)) (.v 14))]) (.nm 14) [14] .rng1 [(.blt .len [(.ix (.v 12) (.i 0))])] []),
          .ife (.or (.not (.call 81 [(.v 2), (.v 11)])) (.cmp .nin (.lst [(.blt .list [(.ix (.v 11) (.i 0))]), (.blt .list [(.ix (.v 11) (.i 1))])]) (.v 13)))
            [.ret (.b false)]
            []]
          []]]]
def pairD (A B : List (List Int)) : D → D
  | .int k => .lst [lsI (A.getD k.toNat []), lsI (B.getD k.toNat [])]
  | _ => .non
section
variable {P : Pg} {s : Sto}
theorem at_ll {A : List (List Int)} {k : Int} (h0 : 0 ≤ k) (h1 : k < A.length) : atI (A.map lsI) k = some (lsI (A.getD k.toNat [])) := by
  have hj : k.toNat < A.length := by omega
  have e : k = ((k.toNat : Nat) : Int) := by omega
  rw [e, atI_nat (by simpa using hj), List.getElem?_map, Int.toNat_natCast, List.getD_eq_getElem?_getD, List.getElem?_eq_getElem hj]
  rfl
/-- the pairs of two ways -/
theorem lc13 {A B : List (List Int)} (hl : A.length = B.length) (hn : A.length ≤ 100) {v0 v1 v2 v3 v4 v5 v6 v7 v8 v9 v10 v11 v13 : Sl} {call : CallT} :
    evE P call (.lc (.lst [(.ix (.ix (.v 12) (.i 0)) (.v 14)), (.ix (.ix (.v 12) (.i 1)) (.v 14))]) (.nm 14) [14] .rng1 [(.blt .len [(.ix (.v 12) (.i 0))])] []) ⟨[v0, v1, v2, v3, v4, v5, v6, v7, v8, v9, v10, v11, .own (.lst [llL A, llL B]), v13, .no], s⟩
      = .ok (.tmp (.lst ((rngL 0 A.length).map (pairD A B)))) ⟨[v0, v1, v2, v3, v4, v5, v6, v7, v8, v9, v10, v11, .own (.lst [llL A, llL B]), v13, .no], s⟩ := by
  have hi : in62 (A.length : Int) = true := in62_small (by omega) (by omega)
  have lA : blt1 .len (llL A) = some (.d (.int A.length)) := by simp [llL]
  have hw : wkD .rng1 [.int (A.length : Nat)] = some (rngL 0 A.length) := by simp [wkD, hi]
  have q : evEs P call [(.blt .len [(.ix (.v 12) (.i 0))])] ⟨[v0, v1, v2, v3, v4, v5, v6, v7, v8, v9, v10, v11, .own (.lst [llL A, llL B]), v13, .no], s⟩ = .ok [.d (.int A.length)] ⟨[v0, v1, v2, v3, v4, v5, v6, v7, v8, v9, v10, v11, .own (.lst [llL A, llL B]), v13, .no], s⟩ := by
    generalize llL A = LA at *
    generalize llL B = LB at *
    simp [lA]
  rw [ev_lc, q]
  simp only [bind_ok, List.map_cons, List.map_nil, rd_d]
  rw [hw, ofO_some, bind_ok]
  rw [doLc_map (pairD A B) (by rw [rngL_length]; exact Nat.le_trans hn (by unfold line; decide)) (by simp [isOwn]) ?_]
  · rfl
  · intro x hx
    obtain ⟨k, rfl, k1, k2⟩ := rngL_mem _ _ _ hx
    have g1 := at_ll (A := A) (k := k) k1 (by omega)
    have g2 := at_ll (A := B) (k := k) k1 (by omega)
    simp [lcF, noex, llL, g1, g2, pairD]
theorem pair_in {A B : List (List Int)} {a b : List Int} {j : Nat} (hj : j < A.length) (hl : A.length = B.length) (ha : A[j]? = some a) (hb : B[j]? = some b) :
    inD (.lst [lsI a, lsI b]) (.lst ((rngL 0 A.length).map (pairD A B))) = some true := by
  have dl : ∀ x : List Int, dep (lsI x) = 1 := fun x => by simp [lsI, dep, dep_ints]
  have pl : ∀ x : List Int, pln (lsI x) = true := fun x => by simp [lsI, pln, pln_ints]
  have s0 : shp (.lst [lsI a, lsI b]) = true := shp_of (by simp [pln, plnA, pl]) (by simp only [dep, depA, dl]; decide)
  have h1 : ∀ x ∈ (rngL 0 A.length).map (pairD A B), pln x = true ∧ dep x ≤ 64 := by
    intro x hx
    obtain ⟨y, hy, rfl⟩ := List.mem_map.mp hx
    obtain ⟨k, rfl, _, _⟩ := rngL_mem _ _ _ hy
    exact ⟨by simp [pairD, pln, plnA, pl], by simp only [pairD, dep, depA, dl]; decide⟩
  have p1 : plnA ((rngL 0 A.length).map (pairD A B)) = true := plnA_all fun x hx => (h1 x hx).1
  have p2 : depA ((rngL 0 A.length).map (pairD A B)) ≤ 64 := depA_all fun x hx => (h1 x hx).2
  have p3 : ((rngL 0 A.length).map (pairD A B)).any (fun z => deq z (.lst [lsI a, lsI b])) = true := by
    rw [List.any_eq_true]
    refine ⟨pairD A B (.int (j : Nat)), List.mem_map.mpr ⟨.int (j : Nat), ?_, rfl⟩, ?_⟩
    · have : ∀ (n : Nat) (i : Int) (j : Nat), j < n → D.int (i + (j : Nat)) ∈ rngL i n := by
        intro n
        induction n with
        | zero => intro i j h; omega
        | succ n ih =>
          intro i j h
          cases j with
          | zero => simp [rngL]
          | succ j =>
            have := ih (i + 1) j (by omega)
            have e : i + ((j + 1 : Nat) : Int) = i + 1 + (j : Int) := by omega
            rw [e]
            exact List.mem_cons_of_mem _ this
      have := this A.length 0 j hj
      rwa [Int.zero_add] at this
    · have e1 : A.getD j [] = a := by rw [List.getD_eq_getElem?_getD, ha]; rfl
      have e2 : B.getD j [] = b := by rw [List.getD_eq_getElem?_getD, hb]; rfl
      have : pairD A B (.int (j : Nat)) = .lst [lsI a, lsI b] := by simp only [pairD, Int.toNat_natCast, e1, e2]
      rw [this]
      simp [deq, deqs, deq_lI]
  simp only [inD, s0, p1, p3]
  simp [p2]
end
end Ev
end
section
set_option maxRecDepth 100000
set_option maxHeartbeats 1000000
/-! Row9: law k19, one turn. -/
namespace Ev
/-- a name that holds the list, its own or not -/
def Lv (x : D) (v : Sl) : Prop := v = .own x ∨ v = .dat x
section
variable {P : Pg} {s : Sto}
theorem set10 {call : CallT} {h : Hs} (ok : h.ok) {l : List Int} (hl : l.length = 6) {v0 v1 v3 v4 v5 v7 v8 v9 v11 v12 v13 v14 : Sl} (pp : List Int) :
    ∃ bs : List Int, bs.length = pp.length ∧ evS P call (.ife (.and (.v 10) (.cmp .eq (.bin .mod (.ix (.v 6) (.i 3)) (.i 2)) (.i 0)))
      [.setix 10 (.bin .mod (.ix (.v 6) (.i 4)) (.blt .len [(.v 10)])) (.bin .mod (.ix (.v 6) (.i 5)) (.fld (.v 2) 0 0))] [])
      ⟨[v0, v1, .dat h.d, v3, v4, v5, .own (lsI l), v7, v8, v9, .own (lsI pp), v11, v12, v13, v14], s⟩ = .ok .nx ⟨[v0, v1, .dat h.d, v3, v4, v5, .own (lsI l), v7, v8, v9, .own (lsI bs), v11, v12, v13, v14], s⟩ := by
  have g3 : atI (l.map D.int) 3 = some (.int (l.getD 3 0)) := atI_lI (by omega) (by omega)
  have g4 : atI (l.map D.int) 4 = some (.int (l.getD 4 0)) := atI_lI (by omega) (by omega)
  have g5 : atI (l.map D.int) 5 = some (.int (l.getD 5 0)) := atI_lI (by omega) (by omega)
  generalize l.getD 3 0 = a3 at *
  generalize l.getD 4 0 = a4 at *
  generalize l.getD 5 0 = a5 at *
  have hm : 0 < h.m := by have := ok.1; omega
  by_cases q : pp = []
  · subst q
    refine ⟨[], rfl, ?_⟩
    simp [lsI]
  · have hp : 0 < pp.length := List.length_pos_iff.mpr q
    by_cases q3 : a3 % 2 = 0
    · obtain ⟨j, hj, hj2⟩ : ∃ j : Nat, a4 % (pp.length : Int) = (j : Int) ∧ j < pp.length := by
        have h0 := Int.emod_nonneg a4 (by omega : (pp.length : Int) ≠ 0)
        have h1 := Int.emod_lt_of_pos a4 (by omega : (0 : Int) < (pp.length : Int))
        exact ⟨(a4 % (pp.length : Int)).toNat, by omega, by omega⟩
      refine ⟨pp.set j (a5 % h.m), by simp, ?_⟩
      have hx : ixN pp.length (j : Int) = some j := by
        have : (j : Int) < (pp.length : Int) := by omega
        simp [ixN, this]
      have hpos : 0 < pp.length := hp
      simp only [lsI, List.map_set] at *
      cases pp with
      | nil => exact absurd rfl q
      | cons x r =>
        have hj' : a4 % ((r.length : Int) + 1) = (j : Int) := by simpa using hj
        have hx' : ixN (r.length + 1) (j : Int) = some j := hx
        simp [Hs.d, g3, g4, g5, q3, hm, hj', doSet, hx']
    · refine ⟨pp, rfl, ?_⟩
      simp only [lsI] at *
      cases pp with
      | nil => exact absurd rfl q
      | cons x r => simp [g3, q3]
theorem turn19 (H : HasR9 P) {h : Hs} (ok : h.ok) {ds : List Int} (h1 : 1 ≤ ds.length) (h2 : ds.length ≤ 2 ^ 6) {k : Nat} (hk : 12 ≤ k) (ns : List Int) (i : Int) {v1 v3 w6 w7 w8 w9 w10 w11 w12 w13 : Sl} (h3 : Lv (lsI ds) v3) :
    ∃ v3' w6' w7' w8' w9' w10' w11' w12' w13', Lv (lsI ds) v3' ∧
      evSs P (callN P k) l82_0 ⟨[.dat (.lst (ns.map .int)), v1, .dat h.d, v3, .dat (.int ds.length), .dat (.int i), w6, w7, w8, w9, w10, w11, w12, w13, .no], s⟩
        = .ok .nx ⟨[.dat (.lst (ns.map .int)), v1, .dat h.d, v3', .dat (.int ds.length), .dat (.int i), w6', w7', w8', w9', w10', w11', w12', w13', .no], s⟩ := by
  obtain ⟨c, e39⟩ := call39 (s := s) H.p39 ns 1 (m := k) (by omega)
  have e39 : callN P k 39 [.lst (ns.map .int), .int 1] s = .ok (.d (.int c)) s := e39
  obtain ⟨l, hl, hr, e0⟩ := call0r (s := s) H.p0 (c + i) 6 (by decide) (m := k) (by omega)
  have e0 : callN P k 0 [.int (c + i), .int 6] s = .ok (.own (lsI l)) s := e0
  have frl := free_lI l
  have fri : ∀ i, (Rv.d (.int i)).free = true := fun _ => rfl
  have frb : ∀ i, (Rv.d (.bl i)).free = true := fun _ => rfl
  have g0 : ixD (lsI l) (.int 0) = some (.int (l.getD 0 0)) := atI_lI (by omega) (by omega)
  have g1 : ixD (lsI l) (.int 1) = some (.int (l.getD 1 0)) := atI_lI (by omega) (by omega)
  have g2 : ixD (lsI l) (.int 2) = some (.int (l.getD 2 0)) := atI_lI (by omega) (by omega)
  have hm : 0 < h.m := by have := ok.1; omega
  obtain ⟨p, hp, hp2⟩ : ∃ p : Nat, l.getD 0 0 % (ds.length : Int) = (p : Int) ∧ p < ds.length := by
    have h0 := Int.emod_nonneg (l.getD 0 0) (by omega : (ds.length : Int) ≠ 0)
    have h1 := Int.emod_lt_of_pos (l.getD 0 0) (by omega : (0 : Int) < (ds.length : Int))
    exact ⟨(l.getD 0 0 % (ds.length : Int)).toNat, by omega, by omega⟩
  have gp : ixD (lsI ds) (.int p) = some (.int (ds.getD p 0)) := by
    have := atI_lI (l := ds) (i := (p : Int)) (by omega) (by omega)
    simpa [lsI] using this
  have e74 := call74 (s := s) H.R ok 6 ds p k h1 h2 (by omega) hp2 (by omega)
  have frp := free_lI (inclF h 6 ds p)
  have hpl := incl_len h 6 ds p h1 h2 (by omega)
  have hcl := climb_incl h 6 ds p h1 h2 (by omega) hp2
  have eA := fun (d : Int) (bs : List Int) => call77 (s := s) H.R H.p76 H.p77 ok h1 h2 hp2 d bs (m := k) (by omega)
  have e80 := fun (d : Int) (bs : List Int) (hb : bs.length = (turnsF 6 ds.length p).length) => call80 (s := s) H.R H.p80 ok (n := ds.length) (p := p) h1 h2 d hb (m := k) (by omega)
  have e78 := fun (d : Int) (bs : List Int) (hb : bs.length = (turnsF 6 ds.length p).length) => call78 (s := s) H.R H.p78 ok (n := ds.length) (p := p) h1 h2 d hb (m := k) (by omega)
  have e79 := call79 (s := s) H.R ok h1 h2 (m := k) (by omega)
  have tl := turns_len 6 ds.length p
  generalize hn : ds.length = n at *
  have hn0 : (0 : Int) < (n : Int) := by omega
  generalize inclF h 6 ds p = pp at *
  generalize turnsF 6 n p = ts at *
  generalize ds.getD p 0 = dp at *
  generalize partD h 6 ds = pd at *
  obtain ⟨d, hd⟩ : ∃ d : Int, d = if l.getD 2 0 % 2 = 0 then l.getD 1 0 % h.m else dp := ⟨_, rfl⟩
  have ed : ∀ (v8 v10 v11 v12 v13 : Sl), evS P (callN P k) (.asg (.nm 9) (.ite (.cmp .eq (.bin .mod (.ix (.v 6) (.i 2)) (.i 2)) (.i 0)) (.bin .mod (.ix (.v 6) (.i 1)) (.fld (.v 2) 0 0)) (.ix (.v 3) (.v 7))))
      ⟨[.dat (.lst (ns.map .int)), v1, .dat h.d, v3, .dat (.int n), .dat (.int i), .own (lsI l), .dat (.int p), v8, w9, v10, v11, v12, v13, .no], s⟩ = .ok .nx ⟨[.dat (.lst (ns.map .int)), v1, .dat h.d, v3, .dat (.int n), .dat (.int i), .own (lsI l), .dat (.int p), v8, .dat (.int d), v10, v11, v12, v13, .no], s⟩ := fun v8 v10 v11 v12 v13 => by
    rw [hd]
    generalize l.getD 2 0 = a2 at *
    generalize l.getD 1 0 = a1 at *
    generalize lsI l = Ll at *
    generalize lsI ds = Ld at *
    by_cases q : a2 % 2 = 0
    · simp [g1, g2, q, Hs.d, hm]
    · rcases h3 with rfl | rfl <;> simp [g2, q, gp]
  obtain ⟨bs, hbl, eset⟩ := set10 (P := P) (s := s) (call := callN P k) ok hl (v0 := .dat (.lst (ns.map .int))) (v1 := v1) (v3 := v3) (v4 := .dat (.int n)) (v5 := .dat (.int i)) (v7 := .dat (.int p)) (v8 := .own (lsI pp)) (v9 := .dat (.int d)) (v11 := w11) (v12 := w12) (v13 := w13) (v14 := .no) pp
  have hb : bs.length = ts.length := by rw [hbl, hpl]
  have eOwn := eA dp pp
  rw [clash_same] at eOwn
  have eCl := eA d bs
  have e80a := e80 dp pp hpl
  have e80b := e80 d bs hb
  have e78b := e78 d bs hb
  have hlA := wayIn_len h n dp (rs := ts.reverse) (bs := pp) (by simp; omega)
  have hlB := wayIn_len h n d (rs := ts.reverse) (bs := bs) (by simp; omega)
  have hnc := @no_clash h n d dp ts.reverse bs pp
  have hac := @a_clash h n d dp ts bs pp hb.symm hpl.symm
  have hrv := @clash_rev h (wayIn h n dp ts.reverse pp) (wayIn h n d ts.reverse bs) (by rw [hlA, hlB])
  rw [hcl] at hnc hac
  simp only [List.length_reverse] at hlA hlB
  generalize climb h (dig h [4, d]) ts.reverse bs = cd at *
  generalize dig h [6, (n : Int), cd] = dI at *
  generalize dig h [6, (n : Int), pd] = dR at *
  generalize hA : wayIn h n dp ts.reverse pp = A at *
  generalize hB : wayIn h n d ts.reverse bs = B at *
  generalize clashF h A.reverse B.reverse = cl at *
  have frn : (Rv.d .non).free = true := rfl
  have cn : clD none = .non := rfl
  have lp : blt1 .list (lsI pp) = some (.tmp (lsI pp)) := by simp [lsI]
  generalize l.getD 0 0 = a0 at *
  clear hd
  unfold l82_0
  rw [step (c' := ⟨[.dat (.lst (ns.map .int)), v1, .dat h.d, v3, .dat (.int n), .dat (.int i), .own (lsI l), w7, w8, w9, w10, w11, w12, w13, .no], s⟩) (by
    generalize lsI l = Ll at *
    generalize lsI ds = Ld at *
    generalize lsI pp = Lp at *
    generalize lsI bs = Lb at *
    generalize h.d = hd at *
    simp [e39, e0, frl, fri])]
  rw [step (c' := ⟨[.dat (.lst (ns.map .int)), v1, .dat h.d, v3, .dat (.int n), .dat (.int i), .own (lsI l), .dat (.int p), w8, w9, w10, w11, w12, w13, .no], s⟩) (by
    generalize lsI l = Ll at *
    generalize lsI ds = Ld at *
    generalize lsI pp = Lp at *
    generalize lsI bs = Lb at *
    generalize h.d = hd at *
    simp [g0, hp, show 0 < n from h1])]
  rw [step (c' := ⟨[.dat (.lst (ns.map .int)), v1, .dat h.d, v3, .dat (.int n), .dat (.int i), .own (lsI l), .dat (.int p), .own (lsI pp), w9, w10, w11, w12, w13, .no], s⟩) (by
    generalize lsI l = Ll at *
    generalize lsI ds = Ld at *
    generalize lsI pp = Lp at *
    generalize lsI bs = Lb at *
    generalize h.d = hd at *
    rcases h3 with rfl | rfl <;> simp [e74, frp])]
  rw [step (c' := ⟨[.dat (.lst (ns.map .int)), v1, .dat h.d, v3, .dat (.int n), .dat (.int i), .own (lsI l), .dat (.int p), .own (lsI pp), w9, w10, w11, w12, w13, .no], s⟩) (by
    rw [cn] at eOwn
    generalize lsI l = Ll at *
    generalize lsI ds = Ld at *
    generalize lsI pp = Lp at *
    generalize lsI bs = Lb at *
    generalize h.d = hd at *
    rcases h3 with rfl | rfl <;> simp [gp, eOwn, frn])]
  rw [step (c' := ⟨[.dat (.lst (ns.map .int)), v1, .dat h.d, v3, .dat (.int n), .dat (.int i), .own (lsI l), .dat (.int p), .own (lsI pp), .dat (.int d), w10, w11, w12, w13, .no], s⟩) (ed _ _ _ _ _)]
  rw [step (c' := ⟨[.dat (.lst (ns.map .int)), v1, .dat h.d, v3, .dat (.int n), .dat (.int i), .own (lsI l), .dat (.int p), .own (lsI pp), .dat (.int d), .own (lsI pp), w11, w12, w13, .no], s⟩) (by
    generalize lsI l = Ll at *
    generalize lsI ds = Ld at *
    generalize lsI pp = Lp at *
    generalize lsI bs = Lb at *
    generalize h.d = hd at *
    simp [lp])]
  rw [step eset]
  cases cl with
  | none =>
    rw [cn] at eCl
    refine ⟨v3, .own (lsI l), .dat (.int p), .own (lsI pp), .dat (.int d), .own (lsI bs), .dat .non, w12, w13, h3, ?_⟩
    rw [step (c' := ⟨[.dat (.lst (ns.map .int)), v1, .dat h.d, v3, .dat (.int n), .dat (.int i), .own (lsI l), .dat (.int p), .own (lsI pp), .dat (.int d), .own (lsI bs), .dat .non, w12, w13, .no], s⟩) (by
      generalize lsI l = Ll at *
      generalize lsI ds = Ld at *
      generalize lsI pp = Lp at *
      generalize lsI bs = Lb at *
      generalize h.d = hd at *
      rcases h3 with rfl | rfl <;> simp [eCl, frn])]
    by_cases q : dI = dR
    · have qd := hac q rfl
      subst qd
      generalize lsI l = Ll at *
      generalize lsI ds = Ld at *
      generalize lsI pp = Lp at *
      generalize lsI bs = Lb at *
      generalize h.d = hd at *
      rcases h3 with rfl | rfl <;> simp [e78b, e79, fri, q, gp]
    · have q' : ¬ (dR = dI) := fun z => q z.symm
      generalize lsI l = Ll at *
      generalize lsI ds = Ld at *
      generalize lsI pp = Lp at *
      generalize lsI bs = Lb at *
      generalize h.d = hd at *
      rcases h3 with rfl | rfl <;> simp [e78b, e79, fri, q, q']
  | some ab =>
    obtain ⟨a, b⟩ := ab
    have q : dI = dR := by
      by_cases q : dI = dR
      · exact q
      · cases hnc q
    obtain ⟨c1, c2, j, c3, c4, c5⟩ := hrv rfl
    have e81 := call81 (s := s) H.p81 ok c1 c2 (m := k) (by omega)
    have pin := pair_in c3 (by rw [hlA, hlB]) c4 c5
    have cs : clD (some (a, b)) = .tup [lsI a, lsI b] := rfl
    rw [cs] at eCl
    have nfr : (Rv.d (.tup [lsI a, lsI b])).free = false := rfl
    have nfA : ∀ X : List (List Int), X ≠ [] → (Rv.own (llL X)).free = false := fun X hX => by
      cases X with
      | nil => exact absurd rfl hX
      | cons x r => rfl
    have nA := nfA A (by intro z; rw [z] at hlA; simp at hlA)
    have nB := nfA B (by intro z; rw [z] at hlB; simp at hlB)
    have la : blt1 .list (lsI a) = some (.tmp (lsI a)) := by simp [lsI]
    have lb : blt1 .list (lsI b) = some (.tmp (lsI b)) := by simp [lsI]
    refine ⟨.dat (lsI ds), .own (lsI l), .dat (.int p), .dat (lsI pp), .dat (.int d), .dat (lsI bs), .dat (.tup [lsI a, lsI b]), .own (.lst [llL A, llL B]), .own (.lst ((rngL 0 A.length).map (pairD A B))), .inr rfl, ?_⟩
    rw [step (c' := ⟨[.dat (.lst (ns.map .int)), v1, .dat h.d, .dat (lsI ds), .dat (.int n), .dat (.int i), .own (lsI l), .dat (.int p), .own (lsI pp), .dat (.int d), .dat (lsI bs), .dat (.tup [lsI a, lsI b]), w12, w13, .no], s⟩) (by
      generalize lsI l = Ll at *
      generalize lsI ds = Ld at *
      generalize lsI pp = Lp at *
      generalize lsI bs = Lb at *
      generalize h.d = hd at *
      generalize lsI a = La at *
      generalize lsI b = Lb2 at *
      rcases h3 with rfl | rfl <;> simp [eCl, nfr])]
    have e12 : evS P (callN P k) (.asg (.nm 12) (.lst [(.call 80 [(.v 2), (.v 4), (.v 7), (.ix (.v 3) (.v 7)), (.v 8)]), (.call 80 [(.v 2), (.v 4), (.v 7), (.v 9), (.v 10)])])) ⟨[.dat (.lst (ns.map .int)), v1, .dat h.d, .dat (lsI ds), .dat (.int n), .dat (.int i), .own (lsI l), .dat (.int p), .own (lsI pp), .dat (.int d), .dat (lsI bs), .dat (.tup [lsI a, lsI b]), w12, w13, .no], s⟩ = .ok .nx ⟨[.dat (.lst (ns.map .int)), v1, .dat h.d, .dat (lsI ds), .dat (.int n), .dat (.int i), .own (lsI l), .dat (.int p), .dat (lsI pp), .dat (.int d), .dat (lsI bs), .dat (.tup [lsI a, lsI b]), .own (.lst [llL A, llL B]), w13, .no], s⟩ := by
      generalize lsI l = Ll at *
      generalize lsI ds = Ld at *
      generalize lsI pp = Lp at *
      generalize lsI bs = Lb at *
      generalize h.d = hd at *
      generalize lsI a = La at *
      generalize lsI b = Lb2 at *
      generalize llL A = LA at *
      generalize llL B = LB at *
      simp [gp, e80a, e80b, nA, nB]
    have e13 := lc13 (P := P) (s := s) (call := callN P k) (A := A) (B := B) (by rw [hlA, hlB]) (by omega) (v0 := .dat (.lst (ns.map .int))) (v1 := v1) (v2 := .dat h.d) (v3 := .dat (lsI ds)) (v4 := .dat (.int n)) (v5 := .dat (.int i)) (v6 := .own (lsI l)) (v7 := .dat (.int p)) (v8 := .dat (lsI pp)) (v9 := .dat (.int d)) (v10 := .dat (lsI bs)) (v11 := .dat (.tup [lsI a, lsI b])) (v13 := w13)
    have e13' : evS P (callN P k) (.asg (.nm 13) (.lc (.lst [(.ix (.ix (.v 12) (.i 0)) (.v 14)), (.ix (.ix (.v 12) (.i 1)) (.v 14))]) (.nm 14) [14] .rng1 [(.blt .len [(.ix (.v 12) (.i 0))])] [])) ⟨[.dat (.lst (ns.map .int)), v1, .dat h.d, .dat (lsI ds), .dat (.int n), .dat (.int i), .own (lsI l), .dat (.int p), .dat (lsI pp), .dat (.int d), .dat (lsI bs), .dat (.tup [lsI a, lsI b]), .own (.lst [llL A, llL B]), w13, .no], s⟩ = .ok .nx ⟨[.dat (.lst (ns.map .int)), v1, .dat h.d, .dat (lsI ds), .dat (.int n), .dat (.int i), .own (lsI l), .dat (.int p), .dat (lsI pp), .dat (.int d), .dat (lsI bs), .dat (.tup [lsI a, lsI b]), .own (.lst [llL A, llL B]), .own (.lst ((rngL 0 A.length).map (pairD A B))), .no], s⟩ := by
      rw [es_asg, e13]
      rfl
    generalize (rngL 0 A.length).map (pairD A B) = prs at *
    have e14 : evS P (callN P k) (.ife (.or (.not (.call 81 [(.v 2), (.v 11)])) (.cmp .nin (.lst [(.blt .list [(.ix (.v 11) (.i 0))]), (.blt .list [(.ix (.v 11) (.i 1))])]) (.v 13))) [.ret (.b false)] []) ⟨[.dat (.lst (ns.map .int)), v1, .dat h.d, .dat (lsI ds), .dat (.int n), .dat (.int i), .own (lsI l), .dat (.int p), .dat (lsI pp), .dat (.int d), .dat (lsI bs), .dat (.tup [lsI a, lsI b]), .own (.lst [llL A, llL B]), .own (.lst prs), .no], s⟩ = .ok .nx ⟨[.dat (.lst (ns.map .int)), v1, .dat h.d, .dat (lsI ds), .dat (.int n), .dat (.int i), .own (lsI l), .dat (.int p), .dat (lsI pp), .dat (.int d), .dat (lsI bs), .dat (.tup [lsI a, lsI b]), .own (.lst [llL A, llL B]), .own (.lst prs), .no], s⟩ := by
      generalize lsI a = La at *
      generalize lsI b = Lb2 at *
      generalize llL A = LA at *
      generalize llL B = LB at *
      generalize lsI l = Ll at *
      generalize lsI ds = Ld at *
      generalize lsI pp = Lp at *
      generalize lsI bs = Lb at *
      generalize h.d = hd at *
      simp [e81, frb, la, lb, pin]
    have e15 : evSs P (callN P k) [.asg (.nm 12) (.lst [(.call 80 [(.v 2), (.v 4), (.v 7), (.ix (.v 3) (.v 7)), (.v 8)]), (.call 80 [(.v 2), (.v 4), (.v 7), (.v 9), (.v 10)])]),
          .asg (.nm 13) (.lc (.lst [(.ix (.ix (.v 12) (.i 0)) (.v 14)), (.ix (.ix (.v 12) (.i 1)) (.v 14))]) (.nm 14) [14] .rng1 [(.blt .len [(.ix (.v 12) (.i 0))])] []),
          .ife (.or (.not (.call 81 [(.v 2), (.v 11)])) (.cmp .nin (.lst [(.blt .list [(.ix (.v 11) (.i 0))]), (.blt .list [(.ix (.v 11) (.i 1))])]) (.v 13))) [.ret (.b false)] []] ⟨[.dat (.lst (ns.map .int)), v1, .dat h.d, .dat (lsI ds), .dat (.int n), .dat (.int i), .own (lsI l), .dat (.int p), .own (lsI pp), .dat (.int d), .dat (lsI bs), .dat (.tup [lsI a, lsI b]), w12, w13, .no], s⟩ = .ok .nx ⟨[.dat (.lst (ns.map .int)), v1, .dat h.d, .dat (lsI ds), .dat (.int n), .dat (.int i), .own (lsI l), .dat (.int p), .dat (lsI pp), .dat (.int d), .dat (lsI bs), .dat (.tup [lsI a, lsI b]), .own (.lst [llL A, llL B]), .own (.lst prs), .no], s⟩ := by
      rw [step e12, step e13', step e14]
      simp
    have eT : evT P (callN P k) (.cmp .ne (.call 78 [(.v 2), (.v 4), (.v 7), (.v 9), (.v 10)]) (.call 79 [(.v 2), (.v 3)])) ⟨[.dat (.lst (ns.map .int)), v1, .dat h.d, .dat (lsI ds), .dat (.int n), .dat (.int i), .own (lsI l), .dat (.int p), .own (lsI pp), .dat (.int d), .dat (lsI bs), .dat (.tup [lsI a, lsI b]), w12, w13, .no], s⟩ = .ok false ⟨[.dat (.lst (ns.map .int)), v1, .dat h.d, .dat (lsI ds), .dat (.int n), .dat (.int i), .own (lsI l), .dat (.int p), .own (lsI pp), .dat (.int d), .dat (lsI bs), .dat (.tup [lsI a, lsI b]), w12, w13, .no], s⟩ := by
      generalize lsI l = Ll at *
      generalize lsI ds = Ld at *
      generalize lsI pp = Lp at *
      generalize lsI bs = Lb at *
      generalize h.d = hd at *
      generalize lsI a = La at *
      generalize lsI b = Lb2 at *
      simp [e78b, e79, fri, q]
    have eT2 : evT P (callN P k) (.and (.cmp .ne (.v 9) (.ix (.v 3) (.v 7))) (.cmp .is (.v 11) .n)) ⟨[.dat (.lst (ns.map .int)), v1, .dat h.d, .dat (lsI ds), .dat (.int n), .dat (.int i), .own (lsI l), .dat (.int p), .own (lsI pp), .dat (.int d), .dat (lsI bs), .dat (.tup [lsI a, lsI b]), w12, w13, .no], s⟩ = .ok false ⟨[.dat (.lst (ns.map .int)), v1, .dat h.d, .dat (lsI ds), .dat (.int n), .dat (.int i), .own (lsI l), .dat (.int p), .own (lsI pp), .dat (.int d), .dat (lsI bs), .dat (.tup [lsI a, lsI b]), w12, w13, .no], s⟩ := by
      generalize lsI ds = Ld at *
      by_cases qd : d = dp
      · simp [gp, qd]
      · simp [gp, qd]
    have eT3 : evT P (callN P k) (.cmp .isnot (.v 11) .n) ⟨[.dat (.lst (ns.map .int)), v1, .dat h.d, .dat (lsI ds), .dat (.int n), .dat (.int i), .own (lsI l), .dat (.int p), .own (lsI pp), .dat (.int d), .dat (lsI bs), .dat (.tup [lsI a, lsI b]), w12, w13, .no], s⟩ = .ok true ⟨[.dat (.lst (ns.map .int)), v1, .dat h.d, .dat (lsI ds), .dat (.int n), .dat (.int i), .own (lsI l), .dat (.int p), .own (lsI pp), .dat (.int d), .dat (lsI bs), .dat (.tup [lsI a, lsI b]), w12, w13, .no], s⟩ := by simp
    rw [step (c' := ⟨[.dat (.lst (ns.map .int)), v1, .dat h.d, .dat (lsI ds), .dat (.int n), .dat (.int i), .own (lsI l), .dat (.int p), .dat (lsI pp), .dat (.int d), .dat (lsI bs), .dat (.tup [lsI a, lsI b]), .own (.lst [llL A, llL B]), .own (.lst prs), .no], s⟩) (by
      rw [es_ife, eT, bind_ok, if_neg (by decide), lss_cons, es_ife, eT2]
      simp only [bind_ok]
      rw [if_neg (by decide), lss_cons, es_ife, eT3]
      simp only [bind_ok, if_true]
      rw [e15]
      simp)]
    simp
end
end Ev
end
section
set_option maxRecDepth 100000
set_option maxHeartbeats 1000000
/-! Ext1: extension papers, their turns. -/
namespace Ev
def extF (h : Hs) : Nat → List Int → Nat → List Int
  | 0, ds, _ => [partD h 0 ds]
  | f + 1, ds, m => if m = ds.length then [partD h (f + 1) ds] else
    if m ≤ lsz ds.length then extF h f (ds.take (lsz ds.length)) m ++ [partD h f (ds.drop (lsz ds.length))]
    else extF h f (ds.drop (lsz ds.length)) (m - lsz ds.length) ++ [partD h f (ds.take (lsz ds.length))]
def eturnF : Nat → Nat → Nat → List Bool
  | 0, _, _ => []
  | f + 1, m, n => if m < n then (if lsz n < m then true :: eturnF f (m - lsz n) (n - lsz n) else false :: eturnF f m (lsz n)) else []
theorem eturn_len : ∀ (f m n : Nat), (eturnF f m n).length ≤ f
  | 0, _, _ => Nat.le_refl _
  | f + 1, m, n => by
    unfold eturnF
    split
    · split
      · have := eturn_len f (m - lsz n) (n - lsz n); simp only [List.length_cons]; omega
      · have := eturn_len f m (lsz n); simp only [List.length_cons]; omega
    · simp
theorem ext_len (h : Hs) : ∀ (f : Nat) (ds : List Int) (m : Nat), 1 ≤ m → m ≤ ds.length → ds.length ≤ 2 ^ f → f ≤ 6 → (extF h f ds m).length = (eturnF f m ds.length).length + 1
  | 0, ds, m, _, _, _, _ => rfl
  | f + 1, ds, m, h0, h1, h2, h3 => by
    unfold extF eturnF
    by_cases q : m = ds.length
    · have q' : ¬ m < ds.length := by omega
      rw [if_pos q, if_neg q']; rfl
    · have hn : ds.length < 65 := by
        have : 2 ^ (f + 1) ≤ 2 ^ 6 := Nat.pow_le_pow_right (by decide) h3
        omega
      have q2 : m < ds.length := by omega
      have lf := lsz_facts ds.length hn (by omega)
      have lp := lsz_pow f (by omega) ds.length hn (by omega) h2
      rw [if_neg q, if_pos q2]
      by_cases q3 : m ≤ lsz ds.length
      · have q4 : ¬ lsz ds.length < m := by omega
        have lt : (ds.take (lsz ds.length)).length = lsz ds.length := by rw [List.length_take]; omega
        rw [if_pos q3, if_neg q4, List.length_append, ext_len h f _ m h0 (by omega) (by omega) (by omega), lt]
        simp
      · have q4 : lsz ds.length < m := by omega
        have lt : (ds.drop (lsz ds.length)).length = ds.length - lsz ds.length := List.length_drop
        rw [if_neg q3, if_pos q4, List.length_append, ext_len h f _ _ (by omega) (by omega) (by omega) (by omega), lt]
        simp
/-- the older row's digest on the way -/
def climbO (h : Hs) : Int → List Bool → List Int → Int
  | v, true :: rs, b :: bs => climbO h (dig h [5, b, v]) rs bs
  | v, false :: rs, _ :: bs => climbO h v rs bs
  | v, _, _ => v
def aftF (h : Hs) : Int → List Bool → List Int → List (List Int)
  | v, r :: rs, b :: bs => stepIn v r b :: aftF h (dig h (stepIn v r b)) rs bs
  | _, _, _ => []
def befF (h : Hs) : Int → List Bool → List Int → List (List Int)
  | v, true :: rs, b :: bs => [5, b, v] :: befF h (dig h [5, b, v]) rs bs
  | v, false :: rs, _ :: bs => befF h v rs bs
  | _, _, _ => []
theorem aftF_len (h : Hs) : ∀ (rs : List Bool) (bs : List Int) (v : Int), (aftF h v rs bs).length ≤ rs.length
  | r :: rs, b :: bs, v => by simp only [aftF, List.length_cons]; have := aftF_len h rs bs (dig h (stepIn v r b)); omega
  | [], _, _ => by simp [aftF]
  | _ :: _, [], _ => by simp [aftF]
theorem befF_len (h : Hs) : ∀ (rs : List Bool) (bs : List Int) (v : Int), (befF h v rs bs).length ≤ rs.length
  | true :: rs, b :: bs, v => by simp only [befF, List.length_cons]; have := befF_len h rs bs (dig h [5, b, v]); omega
  | false :: rs, b :: bs, v => by simp only [befF, List.length_cons]; have := befF_len h rs bs v; omega
  | [], _, _ => by simp [befF]
  | true :: _, [], _ => by simp [befF]
  | false :: _, [], _ => by simp [befF]
def unlF : List (List Int) → List (List Int) → Option (List Int × List Int)
  | a :: as, b :: bs => if a = b then unlF as bs else some (a, b)
  | _, _ => none
structure HasE (P : Pg) : Prop where
  R : HasR P
  p83 : P.fns 83 = some f83
  p84 : P.fns 84 = some f84
  p85 : P.fns 85 = some f85
  p86 : P.fns 86 = some f86
  p87 : P.fns 87 = some f87
  p88 : P.fns 88 = some f88
  p89 : P.fns 89 = some f89
  p90 : P.fns 90 = some f90
  p91 : P.fns 91 = some f91
section
variable {P : Pg} {s : Sto}
theorem call83 (H : HasE P) {h : Hs} (ok : h.ok) : ∀ (f : Nat) (ds : List Int) (p m : Nat), 1 ≤ p → p ≤ ds.length → ds.length ≤ 2 ^ f → f ≤ 6 → f + 4 ≤ m → callN P m 83 [h.d, lsI ds, .int p] s = .ok (.own (lsI (extF h f ds p))) s
  | f, ds, p, 0, _, _, _, _, hm => by omega
  | f, ds, p, k + 1, h0, h1, h2, h3, hm => by
    rw [call_eq H.p83 rfl]
    have e0 : startL f83.nl [h.d, lsI ds, .int p] = [.dat h.d, .dat (lsI ds), .dat (.int p), .no] := rfl
    have eb : f83.body = b83 := rfl
    rw [e0, eb]
    unfold b83
    have fr : ∀ i, (Rv.d (.int i)).free = true := fun _ => rfl
    have ln := len_lI ds
    by_cases q : p = ds.length
    · have e1 := call73 (s := s) H.R ok f ds k (by omega) h2 h3 (by omega)
      have ep : extF h f ds p = [partD h f ds] := by cases f <;> simp [extF, q]
      rw [ep]
      have ew : lsI [partD h f ds] = .lst [.int (partD h f ds)] := rfl
      rw [ew]
      have q1 : ((p : Int) = (ds.length : Int)) := by omega
      generalize partD h f ds = v at *
      generalize lsI ds = L at *
      generalize h.d = hd at *
      generalize ds.length = n at *
      simp [ln, q, e1, fr]
    · cases f with
      | zero => simp at h2; omega
      | succ f =>
        have hn : ds.length < 65 := by
          have : 2 ^ (f + 1) ≤ 2 ^ 6 := Nat.pow_le_pow_right (by decide) h3
          omega
        have lf := lsz_facts ds.length hn (by omega)
        have lp := lsz_pow f (by omega) ds.length hn (by omega) h2
        have lt : (ds.take (lsz ds.length)).length = lsz ds.length := by rw [List.length_take]; omega
        have ld : (ds.drop (lsz ds.length)).length = ds.length - lsz ds.length := List.length_drop
        have e1 := call73 (s := s) H.R ok f (ds.take (lsz ds.length)) k (by omega) (by omega) (by omega) (by omega)
        have e2 := call73 (s := s) H.R ok f (ds.drop (lsz ds.length)) k (by omega) (by omega) (by omega) (by omega)
        have e4 := call70 (s := s) H.R.p70 (n := ds.length) (by omega) (m := k) (by omega)
        have s1 := cut_take ds (lsz ds.length)
        have s2 := cut_drop ds (lsz ds.length)
        have q' : ¬ ((p : Int) = (ds.length : Int)) := by omega
        simp only [extF, if_neg q]
        by_cases q3 : p ≤ lsz ds.length
        · rw [if_pos q3]
          have e5 := call83 H ok f (ds.take (lsz ds.length)) p k h0 (by omega) (by omega) (by omega) (by omega)
          have fr5 := free_lI (extF h f (ds.take (lsz ds.length)) p)
          have ad := add_lI (extF h f (ds.take (lsz ds.length)) p) (partD h f (ds.drop (lsz ds.length))) (by
            rw [ext_len h f _ p h0 (by omega) (by omega) (by omega)]
            have := eturn_len f p (ds.take (lsz ds.length)).length; omega)
          generalize partD h f (ds.take (lsz ds.length)) = a at *
          generalize partD h f (ds.drop (lsz ds.length)) = b at *
          generalize lsI (extF h f (ds.take (lsz ds.length)) p ++ [b]) = L5 at *
          generalize lsI (extF h f (ds.take (lsz ds.length)) p) = L4 at *
          generalize lsI (ds.take (lsz ds.length)) = L1 at *
          generalize lsI (ds.drop (lsz ds.length)) = L2 at *
          generalize lsI ds = L at *
          generalize h.d = hd at *
          generalize ds.length = n at *
          rw [step (c' := ⟨[.dat hd, .dat L, .dat (.int p), .no], s⟩) (by simp [ln, q, q'])]
          rw [step (c' := ⟨[.dat hd, .dat L, .dat (.int p), .dat (.int (lsz n))], s⟩) (by simp [ln, e4, fr])]
          have q4 : (p : Int) ≤ (lsz n : Int) := by omega
          have q5 : ¬ lsz n < p := by omega
          simp [q3, q4, q5, s1, s2, e1, e2, e5, fr, fr5, ad]
        · rw [if_neg q3]
          have e5 := call83 H ok f (ds.drop (lsz ds.length)) (p - lsz ds.length) k (by omega) (by omega) (by omega) (by omega) (by omega)
          have fr5 := free_lI (extF h f (ds.drop (lsz ds.length)) (p - lsz ds.length))
          have ad := add_lI (extF h f (ds.drop (lsz ds.length)) (p - lsz ds.length)) (partD h f (ds.take (lsz ds.length))) (by
            rw [ext_len h f _ _ (by omega) (by omega) (by omega) (by omega)]
            have := eturn_len f (p - lsz ds.length) (ds.drop (lsz ds.length)).length; omega)
          have es : ((p - lsz ds.length : Nat) : Int) = (p : Int) - (lsz ds.length : Int) := by omega
          rw [es] at e5
          generalize partD h f (ds.take (lsz ds.length)) = a at *
          generalize partD h f (ds.drop (lsz ds.length)) = b at *
          generalize lsI (extF h f (ds.drop (lsz ds.length)) (p - lsz ds.length) ++ [a]) = L5 at *
          generalize lsI (extF h f (ds.drop (lsz ds.length)) (p - lsz ds.length)) = L4 at *
          generalize lsI (ds.take (lsz ds.length)) = L1 at *
          generalize lsI (ds.drop (lsz ds.length)) = L2 at *
          generalize lsI ds = L at *
          generalize h.d = hd at *
          generalize ds.length = n at *
          rw [step (c' := ⟨[.dat hd, .dat L, .dat (.int p), .no], s⟩) (by simp [ln, q, q'])]
          rw [step (c' := ⟨[.dat hd, .dat L, .dat (.int p), .dat (.int (lsz n))], s⟩) (by simp [ln, e4, fr])]
          have q4 : ¬ ((p : Int) ≤ (lsz n : Int)) := by omega
          have q5 : lsz n < p := by omega
          simp [q3, q4, q5, s1, s2, e1, e2, e5, fr, fr5, ad]
theorem loop84 (H : HasR P) {k : Nat} (hk : 1 ≤ k) : ∀ (f p n N : Nat) (acc : List Bool) (w : Sl), 1 ≤ p → p ≤ n → n ≤ 2 ^ f → f ≤ 6 → f < N → acc.length + f ≤ 100 →
    ∃ a b w', whlL (evT P (callN P k) (.cmp .lt (.v 0) (.v 1))) (evSs P (callN P k) l84_0) N ⟨[.dat (.int p), .dat (.int n), .own (blL acc), w], s⟩ = .ok .nx ⟨[a, b, .own (blL (acc ++ eturnF f p n)), w'], s⟩
  | f, p, n, 0, acc, w, _, _, _, _, h, _ => by omega
  | f, p, n, N + 1, acc, w, h0, h1, h2, h3, hN, hl => by
    by_cases q : p < n
    · cases f with
      | zero => simp at h2; omega
      | succ f =>
        have hn : n < 65 := by
          have : 2 ^ (f + 1) ≤ 2 ^ 6 := Nat.pow_le_pow_right (by decide) h3
          omega
        have lf := lsz_facts n hn (by omega)
        have lp := lsz_pow f (by omega) n hn (by omega) h2
        have e4 := call70 (s := s) H.p70 (n := n) (by omega) (m := k) (by omega)
        have q0 : (p : Int) < (n : Int) := by omega
        have fr : ∀ i, (Rv.d (.int i)).free = true := fun _ => rfl
        have ll : acc.length < line := lnlt (by omega)
        simp only [eturnF, if_pos q]
        by_cases q3 : lsz n < p
        · have q4 : (lsz n : Int) < (p : Int) := by omega
          obtain ⟨a, b, w', e⟩ := loop84 H hk f (p - lsz n) (n - lsz n) N (acc ++ [true]) (.dat (.int (lsz n))) (by omega) (by omega) (by omega) (by omega) (by omega) (by simp only [List.length_append, List.length_cons, List.length_nil]; omega)
          have es : ((p - lsz n : Nat) : Int) = (p : Int) - (lsz n : Int) := by omega
          have es2 : ((n - lsz n : Nat) : Int) = (n : Int) - (lsz n : Int) := by omega
          rw [es, es2] at e
          refine ⟨a, b, w', ?_⟩
          rw [if_pos q3]
          rw [whl_nx (c1 := ⟨[.dat (.int p), .dat (.int n), .own (blL acc), w], s⟩) (c2 := ⟨[.dat (.int ((p : Int) - (lsz n : Int))), .dat (.int ((n : Int) - (lsz n : Int))), .own (blL (acc ++ [true])), .dat (.int (lsz n))], s⟩)]
          · rw [e]; simp
          · simp [q, q0]
          · simp [l84_0, doApp, e4, fr, blL, ll, q3, q4]
        · have q4 : ¬ ((lsz n : Int) < (p : Int)) := by omega
          obtain ⟨a, b, w', e⟩ := loop84 H hk f p (lsz n) N (acc ++ [false]) (.dat (.int (lsz n))) h0 (by omega) (by omega) (by omega) (by omega) (by simp only [List.length_append, List.length_cons, List.length_nil]; omega)
          refine ⟨a, b, w', ?_⟩
          rw [if_neg q3]
          rw [whl_nx (c1 := ⟨[.dat (.int p), .dat (.int n), .own (blL acc), w], s⟩) (c2 := ⟨[.dat (.int p), .dat (.int (lsz n)), .own (blL (acc ++ [false])), .dat (.int (lsz n))], s⟩)]
          · rw [e]; simp
          · simp [q, q0]
          · simp [l84_0, doApp, e4, fr, blL, ll, q3, q4]
    · have q0 : ¬ ((p : Int) < (n : Int)) := by omega
      have e : eturnF f p n = [] := by cases f <;> simp [eturnF, q]
      refine ⟨.dat (.int p), .dat (.int n), w, ?_⟩
      rw [e, List.append_nil]
      rw [whl_end (c1 := ⟨[.dat (.int p), .dat (.int n), .own (blL acc), w], s⟩)]
      simp [q, q0]
theorem call84 (H : HasE P) {p n : Nat} (h0 : 1 ≤ p) (h1 : p ≤ n) (h2 : n ≤ 2 ^ 6) {m : Nat} (hm : 2 ≤ m) : callN P m 84 [.int p, .int n] s = .ok (.own (blL (eturnF 6 p n))) s := by
  obtain ⟨k, rfl⟩ : ∃ k, m = k + 1 := ⟨m - 1, by omega⟩
  rw [call_eq H.p84 rfl]
  have e0 : startL f84.nl [.int p, .int n] = [.dat (.int p), .dat (.int n), .no, .no] := rfl
  have eb : f84.body = [.asg (.nm 2) (.lst []), .whl (.cmp .lt (.v 0) (.v 1)) l84_0, .ret (.v 2)] := rfl
  rw [e0, eb]
  obtain ⟨a, b, w', e⟩ := loop84 (s := s) H.R (k := k) (by omega) 6 p n fuel [] .no h0 h1 h2 (by omega) (fuel_big (by omega)) (by simp)
  rw [step (c' := ⟨[.dat (.int p), .dat (.int n), .own (blL []), .no], s⟩) (by simp [blL])]
  rw [step (c' := ⟨[a, b, .own (blL ([] ++ eturnF 6 p n)), w'], s⟩) (by rw [es_whl]; exact e)]
  simp [blL]
theorem free_bl (ts : List Bool) : (Rv.own (blL ts)).free = true := by
  simp only [blL, Rv.free]
  exact flatA_all fun x hx => by
    obtain ⟨b, _, rfl⟩ := List.mem_map.mp hx
    rfl
end
end Ev
end
section
set_option maxRecDepth 100000
set_option maxHeartbeats 1000000
/-! Ext2: where extension papers lead; their inputs. -/
namespace Ev
theorem drop1 (b : Int) (bs : List Int) : slD (lsI (b :: bs)) (some 1) none = some (.tmp (lsI bs)) := cut_drop (b :: bs) 1
section
variable {P : Pg} {s : Sto}
theorem loop85 (H : HasR P) {h : Hs} (ok : h.ok) {k : Nat} (hk : 2 ≤ k) {v1 v2 v3 v4 : Sl} : ∀ (rs : List Bool) (bs : List Int) (u v : Int) (w7 w8 : Sl),
    ∃ w7' w8', forL (.tp [7, 8]) (evSs P (callN P k) l85_0) (zipT (rs.map .bl) (bs.map .int)) ⟨[.dat h.d, v1, v2, v3, v4, .dat (.int u), .dat (.int v), w7, w8], s⟩ = .ok .nx ⟨[.dat h.d, v1, v2, v3, v4, .dat (.int (climbO h u rs bs)), .dat (.int (climb h v rs bs)), w7', w8'], s⟩
  | [], bs, u, v, w7, w8 => ⟨w7, w8, by simp [climb, climbO, zipT, forL]⟩
  | true :: rs, [], u, v, w7, w8 => ⟨w7, w8, by simp [climb, climbO, zipT, forL]⟩
  | false :: rs, [], u, v, w7, w8 => ⟨w7, w8, by simp [climb, climbO, zipT, forL]⟩
  | true :: rs, b :: bs, u, v, w7, w8 => by
    obtain ⟨w7', w8', e⟩ := loop85 H ok hk (v1 := v1) (v2 := v2) (v3 := v3) (v4 := v4) rs bs (dig h [5, b, u]) (dig h [5, b, v]) (.dat (.bl true)) (.dat (.int b))
    refine ⟨w7', w8', ?_⟩
    have es : climb h v (true :: rs) (b :: bs) = climb h (dig h [5, b, v]) rs bs := rfl
    rw [es]
    simp only [climbO]
    rw [← e]
    simp only [List.map_cons, zipT]
    rw [forL]
    have ht : tgt (.tp [7, 8]) (.tup [.bl true, .int b]) ⟨[.dat h.d, v1, v2, v3, v4, .dat (.int u), .dat (.int v), w7, w8], s⟩ = some ⟨[.dat h.d, v1, v2, v3, v4, .dat (.int u), .dat (.int v), .dat (.bl true), .dat (.int b)], s⟩ := rfl
    rw [ht]
    have e1 := call72 (s := s) H ok b u (m := k) (by omega)
    have e2 := call72 (s := s) H ok b v (m := k) (by omega)
    have fr : ∀ i, (Rv.d (.int i)).free = true := fun _ => rfl
    generalize h.d = hd at *
    simp [l85_0, e1, e2, fr]
  | false :: rs, b :: bs, u, v, w7, w8 => by
    obtain ⟨w7', w8', e⟩ := loop85 H ok hk (v1 := v1) (v2 := v2) (v3 := v3) (v4 := v4) rs bs u (dig h [5, v, b]) (.dat (.bl false)) (.dat (.int b))
    refine ⟨w7', w8', ?_⟩
    have es : climb h v (false :: rs) (b :: bs) = climb h (dig h [5, v, b]) rs bs := rfl
    rw [es]
    simp only [climbO]
    rw [← e]
    simp only [List.map_cons, zipT]
    rw [forL]
    have ht : tgt (.tp [7, 8]) (.tup [.bl false, .int b]) ⟨[.dat h.d, v1, v2, v3, v4, .dat (.int u), .dat (.int v), w7, w8], s⟩ = some ⟨[.dat h.d, v1, v2, v3, v4, .dat (.int u), .dat (.int v), .dat (.bl false), .dat (.int b)], s⟩ := rfl
    rw [ht]
    have e2 := call72 (s := s) H ok v b (m := k) (by omega)
    have fr : ∀ i, (Rv.d (.int i)).free = true := fun _ => rfl
    generalize h.d = hd at *
    simp [l85_0, e2, fr]
theorem call85 (H : HasE P) {h : Hs} (ok : h.ok) {p n : Nat} (h0 : 1 ≤ p) (h1 : p ≤ n) (h2 : n ≤ 2 ^ 6) (b0 : Int) {bs : List Int} (hb : bs.length = (eturnF 6 p n).length) {m : Nat} (hm : 4 ≤ m) :
    callN P m 85 [h.d, .int p, .int n, lsI (b0 :: bs)] s = .ok (.d (.tup [.int (dig h [6, p, climbO h b0 (eturnF 6 p n).reverse bs]), .int (dig h [6, n, climb h b0 (eturnF 6 p n).reverse bs])])) s := by
  obtain ⟨k, rfl⟩ : ∃ k, m = k + 1 := ⟨m - 1, by omega⟩
  rw [call_eq H.p85 rfl]
  have e0 : startL f85.nl [h.d, .int p, .int n, lsI (b0 :: bs)] = [.dat h.d, .dat (.int p), .dat (.int n), .dat (lsI (b0 :: bs)), .no, .no, .no, .no, .no] := rfl
  have eb : f85.body = [.asg (.nm 4) (.call 84 [(.v 1), (.v 2)]),
    .ife (.cmp .ne (.blt .len [(.v 3)]) (.bin .add (.blt .len [(.v 4)]) (.i 1))) [.ret .n] [],
    .asg (.nm 5) (.ix (.v 3) (.i 0)),
    .asg (.nm 6) (.ix (.v 3) (.i 0)),
    .forr (.tp [7, 8]) (.zipr false) [(.isl (.v 4)), (.sl (.v 3) (some (.i 1)) none)] l85_0,
    .ret (.tup [(.meth 0 42 (.v 0) [(.lst [(.i 6), (.v 1), (.v 5)])]), (.meth 0 42 (.v 0) [(.lst [(.i 6), (.v 2), (.v 6)])])])] := rfl
  rw [e0, eb]
  have e84 := call84 (s := s) H h0 h1 h2 (m := k) (by omega)
  have fr84 := free_bl (eturnF 6 p n)
  generalize eturnF 6 p n = ts at *
  obtain ⟨w7', w8', e⟩ := loop85 (s := s) H.R ok (k := k) (by omega) (v1 := .dat (.int p)) (v2 := .dat (.int n)) (v3 := .dat (lsI (b0 :: bs))) (v4 := .own (blL ts)) ts.reverse bs b0 b0 .no .no
  have e42 := call42 (s := s) H.R.p42 ok [6, p, climbO h b0 ts.reverse bs] (m := k) (by omega)
  have e42b := call42 (s := s) H.R.p42 ok [6, n, climb h b0 ts.reverse bs] (m := k) (by omega)
  have fr : ∀ i, (Rv.d (.int i)).free = true := fun _ => rfl
  have hw : wkD (.zipr false) [blL ts, lsI bs] = some (zipT (ts.reverse.map .bl) (bs.map .int)) := by simp [blL, lsI]
  have lb : blt1 .len (lsI (b0 :: bs)) = some (.d (.int (ts.length + 1))) := by simp [lsI, hb]
  have lt : blt1 .len (blL ts) = some (.d (.int ts.length)) := by simp [blL]
  have g0 : ixD (lsI (b0 :: bs)) (.int 0) = some (.int b0) := by simp [lsI]
  have sl := drop1 b0 bs
  rw [step (c' := ⟨[.dat h.d, .dat (.int p), .dat (.int n), .dat (lsI (b0 :: bs)), .own (blL ts), .no, .no, .no, .no], s⟩) (by
    generalize h.d = hd at *
    generalize lsI (b0 :: bs) = L at *
    generalize blL ts = T at *
    simp [e84, fr84])]
  rw [step (c' := ⟨[.dat h.d, .dat (.int p), .dat (.int n), .dat (lsI (b0 :: bs)), .own (blL ts), .no, .no, .no, .no], s⟩) (by
    generalize h.d = hd at *
    generalize lsI (b0 :: bs) = L at *
    generalize blL ts = T at *
    simp [lb, lt])]
  rw [step (c' := ⟨[.dat h.d, .dat (.int p), .dat (.int n), .dat (lsI (b0 :: bs)), .own (blL ts), .dat (.int b0), .no, .no, .no], s⟩) (by
    generalize h.d = hd at *
    generalize lsI (b0 :: bs) = L at *
    simp [g0])]
  rw [step (c' := ⟨[.dat h.d, .dat (.int p), .dat (.int n), .dat (lsI (b0 :: bs)), .own (blL ts), .dat (.int b0), .dat (.int b0), .no, .no], s⟩) (by
    generalize h.d = hd at *
    generalize lsI (b0 :: bs) = L at *
    simp [g0])]
  rw [step (c' := ⟨[.dat h.d, .dat (.int p), .dat (.int n), .dat (lsI (b0 :: bs)), .own (blL ts), .dat (.int (climbO h b0 ts.reverse bs)), .dat (.int (climb h b0 ts.reverse bs)), w7', w8'], s⟩) (by
    rw [← e, es_forr]
    have q : evEs P (callN P k) [.isl (.v 4), .sl (.v 3) (some (.i 1)) none] ⟨[.dat h.d, .dat (.int p), .dat (.int n), .dat (lsI (b0 :: bs)), .own (blL ts), .dat (.int b0), .dat (.int b0), .no, .no], s⟩ = .ok [.bor 4 (blL ts), .tmp (lsI bs)] ⟨[.dat h.d, .dat (.int p), .dat (.int n), .dat (lsI (b0 :: bs)), .own (blL ts), .dat (.int b0), .dat (.int b0), .no, .no], s⟩ := by
      generalize h.d = hd at *
      generalize lsI (b0 :: bs) = L at *
      generalize lsI bs = L2 at *
      simp [blL, sl]
    rw [q, bind_ok]
    exact for_two hw (by simp only [keepsV, Bool.and_true]; decide))]
  rw [show lsI [6, (p : Int), climbO h b0 ts.reverse bs] = .lst [.int 6, .int p, .int (climbO h b0 ts.reverse bs)] from rfl] at e42
  rw [show lsI [6, (n : Int), climb h b0 ts.reverse bs] = .lst [.int 6, .int n, .int (climb h b0 ts.reverse bs)] from rfl] at e42b
  have hh : h.d = .obj 0 [.int h.m, .int h.k] := rfl
  generalize climbO h b0 ts.reverse bs = u at *
  generalize climb h b0 ts.reverse bs = v at *
  generalize lsI (b0 :: bs) = L at *
  simp only [hh] at *
  simp [e42, e42b, fr]
/-! paper_inputs -/
theorem loop86 (H : HasR P) {h : Hs} (ok : h.ok) {k : Nat} (hk : 2 ≤ k) {v1 v2 v3 : Sl} : ∀ (rs : List Bool) (bs : List Int) (X Y : List D) (u v : Int) (w8 w9 : Sl), X.length + rs.length ≤ 100 → Y.length + rs.length ≤ 100 →
    ∃ w8' w9', forL (.tp [8, 9]) (evSs P (callN P k) l86_0) (zipT (rs.map .bl) (bs.map .int)) ⟨[.dat h.d, v1, v2, v3, .own (.lst X), .own (.lst Y), .dat (.int u), .dat (.int v), w8, w9], s⟩ = .ok .nx ⟨[.dat h.d, v1, v2, v3, .own (.lst (X ++ (befF h u rs bs).map lsI)), .own (.lst (Y ++ (aftF h v rs bs).map lsI)), .dat (.int (climbO h u rs bs)), .dat (.int (climb h v rs bs)), w8', w9'], s⟩
  | [], bs, X, Y, u, v, w8, w9, _, _ => ⟨w8, w9, by simp [climb, climbO, befF, aftF, zipT, forL]⟩
  | true :: rs, [], X, Y, u, v, w8, w9, _, _ => ⟨w8, w9, by simp [climb, climbO, befF, aftF, zipT, forL]⟩
  | false :: rs, [], X, Y, u, v, w8, w9, _, _ => ⟨w8, w9, by simp [climb, climbO, befF, aftF, zipT, forL]⟩
  | true :: rs, b :: bs, X, Y, u, v, w8, w9, hX, hY => by
    simp only [List.length_cons] at hX hY
    obtain ⟨w8', w9', e⟩ := loop86 H ok hk (v1 := v1) (v2 := v2) (v3 := v3) rs bs (X ++ [lsI [5, b, u]]) (Y ++ [lsI [5, b, v]]) (dig h [5, b, u]) (dig h [5, b, v]) (.dat (.bl true)) (.dat (.int b)) (by simp only [List.length_append, List.length_cons, List.length_nil]; omega) (by simp only [List.length_append, List.length_cons, List.length_nil]; omega)
    refine ⟨w8', w9', ?_⟩
    have es : climb h v (true :: rs) (b :: bs) = climb h (dig h [5, b, v]) rs bs := rfl
    have ea : Y ++ (aftF h v (true :: rs) (b :: bs)).map lsI = Y ++ [lsI [5, b, v]] ++ (aftF h (dig h [5, b, v]) rs bs).map lsI := by
      have : aftF h v (true :: rs) (b :: bs) = [5, b, v] :: aftF h (dig h [5, b, v]) rs bs := rfl
      rw [this]; simp
    have eb : X ++ (befF h u (true :: rs) (b :: bs)).map lsI = X ++ [lsI [5, b, u]] ++ (befF h (dig h [5, b, u]) rs bs).map lsI := by simp [befF]
    rw [es, ea, eb]
    simp only [climbO]
    rw [← e]
    simp only [List.map_cons, zipT]
    rw [forL]
    have ht : tgt (.tp [8, 9]) (.tup [.bl true, .int b]) ⟨[.dat h.d, v1, v2, v3, .own (.lst X), .own (.lst Y), .dat (.int u), .dat (.int v), w8, w9], s⟩ = some ⟨[.dat h.d, v1, v2, v3, .own (.lst X), .own (.lst Y), .dat (.int u), .dat (.int v), .dat (.bl true), .dat (.int b)], s⟩ := rfl
    rw [ht]
    have e1 := call42 (s := s) H.p42 ok [5, b, u] (m := k) (by omega)
    have e2 := call42 (s := s) H.p42 ok [5, b, v] (m := k) (by omega)
    have fr : ∀ i, (Rv.d (.int i)).free = true := fun _ => rfl
    have lX := lnlt (n := X.length) (by omega)
    have lY := lnlt (n := Y.length) (by omega)
    have a1 := atI_last X (D.lst [.int 5, .int b, .int u])
    have a2 := atI_last Y (D.lst [.int 5, .int b, .int v])
    have hh : h.d = .obj 0 [.int h.m, .int h.k] := rfl
    simp only [lsI, List.map_cons, List.map_nil, hh] at *
    generalize dig h [5, b, u] = du at *
    generalize dig h [5, b, v] = dv at *
    simp [l86_0, doApp, e1, e2, fr, lX, lY, a1, a2]
  | false :: rs, b :: bs, X, Y, u, v, w8, w9, hX, hY => by
    simp only [List.length_cons] at hX hY
    obtain ⟨w8', w9', e⟩ := loop86 H ok hk (v1 := v1) (v2 := v2) (v3 := v3) rs bs X (Y ++ [lsI [5, v, b]]) u (dig h [5, v, b]) (.dat (.bl false)) (.dat (.int b)) (by omega) (by simp only [List.length_append, List.length_cons, List.length_nil]; omega)
    refine ⟨w8', w9', ?_⟩
    have es : climb h v (false :: rs) (b :: bs) = climb h (dig h [5, v, b]) rs bs := rfl
    have ea : Y ++ (aftF h v (false :: rs) (b :: bs)).map lsI = Y ++ [lsI [5, v, b]] ++ (aftF h (dig h [5, v, b]) rs bs).map lsI := by
      have : aftF h v (false :: rs) (b :: bs) = [5, v, b] :: aftF h (dig h [5, v, b]) rs bs := rfl
      rw [this]; simp
    rw [es, ea]
    simp only [climbO, befF]
    rw [← e]
    simp only [List.map_cons, zipT]
    rw [forL]
    have ht : tgt (.tp [8, 9]) (.tup [.bl false, .int b]) ⟨[.dat h.d, v1, v2, v3, .own (.lst X), .own (.lst Y), .dat (.int u), .dat (.int v), w8, w9], s⟩ = some ⟨[.dat h.d, v1, v2, v3, .own (.lst X), .own (.lst Y), .dat (.int u), .dat (.int v), .dat (.bl false), .dat (.int b)], s⟩ := rfl
    rw [ht]
    have e2 := call42 (s := s) H.p42 ok [5, v, b] (m := k) (by omega)
    have fr : ∀ i, (Rv.d (.int i)).free = true := fun _ => rfl
    have lY := lnlt (n := Y.length) (by omega)
    have a2 := atI_last Y (D.lst [.int 5, .int v, .int b])
    have hh : h.d = .obj 0 [.int h.m, .int h.k] := rfl
    simp only [lsI, List.map_cons, List.map_nil, hh] at *
    generalize dig h [5, v, b] = dv at *
    simp [l86_0, doApp, e2, fr, lY, a2]
end
end Ev
end
section
set_option maxRecDepth 100000
set_option maxHeartbeats 1000000
/-! Ext3: the paper's inputs, the row's own inputs. -/
namespace Ev
def befT (h : Hs) (p : Nat) (b0 : Int) (rs : List Bool) (bs : List Int) : List (List Int) := (befF h b0 rs bs ++ [[6, (p : Int), climbO h b0 rs bs]]).reverse
def aftT (h : Hs) (n : Nat) (b0 : Int) (rs : List Bool) (bs : List Int) : List (List Int) := (aftF h b0 rs bs ++ [[6, (n : Int), climb h b0 rs bs]]).reverse
def partIn (h : Hs) : Nat → List Int → List Int
  | 0, ds => [4, ds.getD 0 0]
  | f + 1, ds => if ds.length = 1 then [4, ds.getD 0 0] else [5, partD h f (ds.take (lsz ds.length)), partD h f (ds.drop (lsz ds.length))]
theorem dig_partIn (h : Hs) : ∀ (f : Nat) (ds : List Int), dig h (partIn h f ds) = partD h f ds
  | 0, ds => rfl
  | f + 1, ds => by
    rw [partD_s]
    by_cases q : ds.length = 1 <;> simp [partIn, q]
def wayF (h : Hs) : Nat → List Int → List Bool → List (List Int)
  | 0, _, _ => []
  | f + 1, ds, r :: ts => partIn h (f + 1) ds :: wayF h f (if r then ds.drop (lsz ds.length) else ds.take (lsz ds.length)) ts
  | _ + 1, _, [] => []
section
variable {P : Pg} {s : Sto}
theorem call86 (H : HasE P) {h : Hs} (ok : h.ok) {p n : Nat} (h0 : 1 ≤ p) (h1 : p ≤ n) (h2 : n ≤ 2 ^ 6) (b0 : Int) (bs : List Int) {m : Nat} (hm : 4 ≤ m) :
    callN P m 86 [h.d, .int p, .int n, lsI (b0 :: bs)] s = .ok (.d (.tup [llL (befT h p b0 (eturnF 6 p n).reverse bs), llL (aftT h n b0 (eturnF 6 p n).reverse bs)])) s := by
  obtain ⟨k, rfl⟩ : ∃ k, m = k + 1 := ⟨m - 1, by omega⟩
  rw [call_eq H.p86 rfl]
  have e0 : startL f86.nl [h.d, .int p, .int n, lsI (b0 :: bs)] = [.dat h.d, .dat (.int p), .dat (.int n), .dat (lsI (b0 :: bs)), .no, .no, .no, .no, .no, .no] := rfl
  have eb : f86.body = [.asg (.nm 4) (.lst []),
    .asg (.nm 5) (.lst []),
    .asg (.nm 6) (.ix (.v 3) (.i 0)),
    .asg (.nm 7) (.ix (.v 3) (.i 0)),
    .forr (.tp [8, 9]) (.zipr false) [(.isl (.call 84 [(.v 1), (.v 2)])), (.sl (.v 3) (some (.i 1)) none)] l86_0,
    .app 4 (.lst [(.i 6), (.v 1), (.v 6)]),
    .app 5 (.lst [(.i 6), (.v 2), (.v 7)]),
    .ret (.tup [(.rev (.v 4)), (.rev (.v 5))])] := rfl
  rw [e0, eb]
  have e84 := call84 (s := s) H h0 h1 h2 (m := k) (by omega)
  have fr84 := free_bl (eturnF 6 p n)
  have tl := eturn_len 6 p n
  generalize eturnF 6 p n = ts at *
  obtain ⟨w8, w9, e⟩ := loop86 (s := s) H.R ok (k := k) (by omega) (v1 := .dat (.int p)) (v2 := .dat (.int n)) (v3 := .dat (lsI (b0 :: bs))) ts.reverse bs [] [] b0 b0 .no .no (by simp; omega) (by simp; omega)
  have hw : wkD (.zipr false) [blL ts, lsI bs] = some (zipT (ts.reverse.map .bl) (bs.map .int)) := by simp [blL, lsI]
  have g0 : ixD (lsI (b0 :: bs)) (.int 0) = some (.int b0) := by simp [lsI]
  have sl := drop1 b0 bs
  have l1 := befF_len h ts.reverse bs b0
  have l2 := aftF_len h ts.reverse bs b0
  rw [List.length_reverse] at l1 l2
  rw [step (c' := ⟨[.dat h.d, .dat (.int p), .dat (.int n), .dat (lsI (b0 :: bs)), .own (.lst []), .no, .no, .no, .no, .no], s⟩) (by simp)]
  rw [step (c' := ⟨[.dat h.d, .dat (.int p), .dat (.int n), .dat (lsI (b0 :: bs)), .own (.lst []), .own (.lst []), .no, .no, .no, .no], s⟩) (by simp)]
  rw [step (c' := ⟨[.dat h.d, .dat (.int p), .dat (.int n), .dat (lsI (b0 :: bs)), .own (.lst []), .own (.lst []), .dat (.int b0), .no, .no, .no], s⟩) (by
    generalize h.d = hd at *
    generalize lsI (b0 :: bs) = L at *
    simp [g0])]
  rw [step (c' := ⟨[.dat h.d, .dat (.int p), .dat (.int n), .dat (lsI (b0 :: bs)), .own (.lst []), .own (.lst []), .dat (.int b0), .dat (.int b0), .no, .no], s⟩) (by
    generalize h.d = hd at *
    generalize lsI (b0 :: bs) = L at *
    simp [g0])]
  rw [step (c' := ⟨[.dat h.d, .dat (.int p), .dat (.int n), .dat (lsI (b0 :: bs)), .own (.lst ((befF h b0 ts.reverse bs).map lsI)), .own (.lst ((aftF h b0 ts.reverse bs).map lsI)), .dat (.int (climbO h b0 ts.reverse bs)), .dat (.int (climb h b0 ts.reverse bs)), w8, w9], s⟩) (by
    rw [List.nil_append, List.nil_append] at e
    rw [← e, es_forr]
    have q : evEs P (callN P k) [.isl (.call 84 [(.v 1), (.v 2)]), .sl (.v 3) (some (.i 1)) none] ⟨[.dat h.d, .dat (.int p), .dat (.int n), .dat (lsI (b0 :: bs)), .own (.lst []), .own (.lst []), .dat (.int b0), .dat (.int b0), .no, .no], s⟩ = .ok [.tmp (blL ts), .tmp (lsI bs)] ⟨[.dat h.d, .dat (.int p), .dat (.int n), .dat (lsI (b0 :: bs)), .own (.lst []), .own (.lst []), .dat (.int b0), .dat (.int b0), .no, .no], s⟩ := by
      generalize h.d = hd at *
      generalize lsI (b0 :: bs) = L at *
      generalize lsI bs = L2 at *
      simp only [blL] at *
      simp [e84, fr84, sl]
    rw [q, bind_ok]
    exact for_two hw rfl)]
  have ew1 : llL (befT h p b0 ts.reverse bs) = .lst (((befF h b0 ts.reverse bs).map lsI ++ [D.lst [.int 6, .int p, .int (climbO h b0 ts.reverse bs)]]).reverse) := by
    simp [llL, befT, lsI]
  have ew2 : llL (aftT h n b0 ts.reverse bs) = .lst (((aftF h b0 ts.reverse bs).map lsI ++ [D.lst [.int 6, .int n, .int (climb h b0 ts.reverse bs)]]).reverse) := by
    simp [llL, aftT, lsI]
  rw [ew1, ew2]
  have k1 := lnlt (n := ((befF h b0 ts.reverse bs).map lsI).length) (by rw [List.length_map]; omega)
  have k2 := lnlt (n := ((aftF h b0 ts.reverse bs).map lsI).length) (by rw [List.length_map]; omega)
  generalize (befF h b0 ts.reverse bs).map lsI = X at *
  generalize (aftF h b0 ts.reverse bs).map lsI = Y at *
  generalize climbO h b0 ts.reverse bs = u at *
  generalize climb h b0 ts.reverse bs = v at *
  generalize lsI (b0 :: bs) = L at *
  generalize h.d = hd at *
  simp [doApp, k1, k2]
/-! unlike_inputs -/
theorem loop87 {call : CallT} {v0 v1 v2 : Sl} : ∀ (as bs : List (List Int)) (w3 w4 : Sl),
    ∃ c', c'.sto = s ∧ ((forL (.tp [3, 4]) (evSs P call l87_0) (zipT (as.map lsI) (bs.map lsI)) ⟨[v0, v1, v2, w3, w4], s⟩ = .ok .nx c' ∧ unlF as bs = none) ∨
      forL (.tp [3, 4]) (evSs P call l87_0) (zipT (as.map lsI) (bs.map lsI)) ⟨[v0, v1, v2, w3, w4], s⟩ = .ok (.rt (.d (clD (unlF as bs)))) c')
  | [], bs, w3, w4 => ⟨_, rfl, .inl ⟨by simp [zipT, forL]; rfl, rfl⟩⟩
  | a :: as, [], w3, w4 => ⟨_, rfl, .inl ⟨by simp [zipT, forL]; rfl, rfl⟩⟩
  | a :: as, b :: bs, w3, w4 => by
    simp only [List.map_cons, zipT]
    rw [forL]
    have ht : tgt (.tp [3, 4]) (.tup [lsI a, lsI b]) ⟨[v0, v1, v2, w3, w4], s⟩ = some ⟨[v0, v1, v2, .dat (lsI a), .dat (lsI b)], s⟩ := rfl
    rw [ht]
    have dq := deq_lI a b
    have s1 := shp_lI a
    have s2 := shp_lI b
    by_cases q2 : a = b
    · obtain ⟨c', hc, e⟩ := loop87 (call := call) (v0 := v0) (v1 := v1) (v2 := v2) as bs (.dat (lsI a)) (.dat (lsI b))
      have ec : unlF (a :: as) (b :: bs) = unlF as bs := by simp [unlF, q2]
      rw [ec]
      have dt : deq (lsI a) (lsI b) = true := by rw [dq]; simp [q2]
      have eb : evSs P call l87_0 ⟨[v0, v1, v2, .dat (lsI a), .dat (lsI b)], s⟩ = .ok .nx ⟨[v0, v1, v2, .dat (lsI a), .dat (lsI b)], s⟩ := by
        generalize lsI a = A at *
        generalize lsI b = B at *
        simp [l87_0, dt, s1, s2]
      refine ⟨c', hc, ?_⟩
      simp only [eb, bind_ok]
      exact e
    · have ec : unlF (a :: as) (b :: bs) = some (a, b) := by simp [unlF, q2]
      rw [ec]
      have dt : deq (lsI a) (lsI b) = false := by rw [dq]; simp [q2]
      have eb : evSs P call l87_0 ⟨[v0, v1, v2, .dat (lsI a), .dat (lsI b)], s⟩ = .ok (.rt (.d (.tup [lsI a, lsI b]))) ⟨[v0, v1, v2, .dat (lsI a), .dat (lsI b)], s⟩ := by
        generalize lsI a = A at *
        generalize lsI b = B at *
        simp [l87_0, dt, s1, s2]
      exact ⟨_, rfl, .inr (by simp only [eb, bind_ok]; rfl)⟩
theorem call87 (H : HasE P) (hd : D) (as bs : List (List Int)) {m : Nat} (hm : 1 ≤ m) : callN P m 87 [hd, llL as, llL bs] s = .ok (.d (clD (unlF as bs))) s := by
  obtain ⟨k, rfl⟩ : ∃ k, m = k + 1 := ⟨m - 1, by omega⟩
  rw [call_eq H.p87 rfl]
  have e0 : startL f87.nl [hd, llL as, llL bs] = [.dat hd, .dat (llL as), .dat (llL bs), .no, .no] := rfl
  have eb : f87.body = [.forr (.tp [3, 4]) .zip [(.v 1), (.v 2)] l87_0, .ret .n] := rfl
  rw [e0, eb]
  obtain ⟨c', hc, e⟩ := loop87 (P := P) (s := s) (call := callN P k) (v0 := .dat hd) (v1 := .dat (llL as)) (v2 := .dat (llL bs)) as bs .no .no
  have es : evS P (callN P k) (.forr (.tp [3, 4]) .zip [(.v 1), (.v 2)] l87_0) ⟨[.dat hd, .dat (llL as), .dat (llL bs), .no, .no], s⟩ = forL (.tp [3, 4]) (evSs P (callN P k) l87_0) (zipT (as.map lsI) (bs.map lsI)) ⟨[.dat hd, .dat (llL as), .dat (llL bs), .no, .no], s⟩ := by
    rw [es_forr]
    have q : evEs P (callN P k) [.v 1, .v 2] ⟨[.dat hd, .dat (llL as), .dat (llL bs), .no, .no], s⟩ = .ok [.d (llL as), .d (llL bs)] ⟨[.dat hd, .dat (llL as), .dat (llL bs), .no, .no], s⟩ := by simp
    rw [q, bind_ok]
    exact for_two rfl rfl
  generalize unlF as bs = cl at *
  obtain ⟨env, st⟩ := c'
  have hc : st = s := hc
  subst hc
  rcases e with ⟨e, hn⟩ | e
  · rw [step (c' := ⟨env, st⟩) (by rw [es, e])]
    rw [hn]
    simp [clD]
  · simp only [lss_cons, es, e]
    simp
/-! part_input, way_inputs -/
theorem call88 (H : HasE P) {h : Hs} (ok : h.ok) (f : Nat) {ds : List Int} (h1 : 1 ≤ ds.length) (h2 : ds.length ≤ 2 ^ f) (h3 : f ≤ 6) {m : Nat} (hm : f + 3 ≤ m) : callN P m 88 [h.d, lsI ds] s = .ok (.own (lsI (partIn h f ds))) s := by
  obtain ⟨k, rfl⟩ : ∃ k, m = k + 1 := ⟨m - 1, by omega⟩
  rw [call_eq H.p88 rfl]
  have e0 : startL f88.nl [h.d, lsI ds] = [.dat h.d, .dat (lsI ds), .no] := rfl
  have eb : f88.body = b88 := rfl
  rw [e0, eb]
  unfold b88
  have fr : ∀ i, (Rv.d (.int i)).free = true := fun _ => rfl
  have ln := len_lI ds
  by_cases q : ds.length = 1
  · have g : ixD (lsI ds) (.int 0) = some (.int (ds.getD 0 0)) := by
      have := atI_lI (l := ds) (i := 0) (by omega) (by omega)
      simpa [lsI] using this
    have ep : lsI (partIn h f ds) = .lst [.int 4, .int (ds.getD 0 0)] := by cases f <;> simp [partIn, q, lsI]
    rw [ep]
    generalize ds.getD 0 0 = d at *
    generalize lsI ds = L at *
    generalize h.d = hd at *
    simp [ln, q, g]
  · cases f with
    | zero => simp at h2; omega
    | succ f =>
      have hn : ds.length < 65 := by
        have : 2 ^ (f + 1) ≤ 2 ^ 6 := Nat.pow_le_pow_right (by decide) h3
        omega
      have lf := lsz_facts ds.length hn (by omega)
      have lp := lsz_pow f (by omega) ds.length hn (by omega) h2
      have lt : (ds.take (lsz ds.length)).length = lsz ds.length := by rw [List.length_take]; omega
      have ld : (ds.drop (lsz ds.length)).length = ds.length - lsz ds.length := List.length_drop
      have e1 := call73 (s := s) H.R ok f (ds.take (lsz ds.length)) k (by omega) (by omega) (by omega) (by omega)
      have e2 := call73 (s := s) H.R ok f (ds.drop (lsz ds.length)) k (by omega) (by omega) (by omega) (by omega)
      have e4 := call70 (s := s) H.R.p70 (n := ds.length) (by omega) (m := k) (by omega)
      have s1 := cut_take ds (lsz ds.length)
      have s2 := cut_drop ds (lsz ds.length)
      have ep : lsI (partIn h (f + 1) ds) = .lst [.int 5, .int (partD h f (ds.take (lsz ds.length))), .int (partD h f (ds.drop (lsz ds.length)))] := by simp [partIn, q, lsI]
      rw [ep]
      generalize partD h f (ds.take (lsz ds.length)) = a at *
      generalize partD h f (ds.drop (lsz ds.length)) = b at *
      generalize lsI (ds.take (lsz ds.length)) = L1 at *
      generalize lsI (ds.drop (lsz ds.length)) = L2 at *
      generalize lsI ds = L at *
      generalize h.d = hd at *
      have q' : ¬ ((ds.length : Int) = 1) := by omega
      generalize ds.length = n at *
      rw [step (c' := ⟨[.dat hd, .dat L, .no], s⟩) (by simp [ln, q, q'])]
      rw [step (c' := ⟨[.dat hd, .dat L, .dat (.int (lsz n))], s⟩) (by simp [ln, e4, fr])]
      simp [s1, s2, e1, e2, fr]
end
end Ev
end
section
set_option maxRecDepth 100000
set_option maxHeartbeats 1000000
/-! Ext4: the row's own way, the clash in a part. -/
namespace Ev
/-- the turns fit a row of n -/
def fitT : Nat → Nat → List Bool → Prop
  | _, _, [] => True
  | 0, _, _ :: _ => False
  | f + 1, n, r :: ts => 2 ≤ n ∧ fitT f (if r then n - lsz n else lsz n) ts
def fpc (h : Hs) : Nat → List Int → List Int → Option (List Int × List Int)
  | 0, a, b => if a = b ∨ partD h 0 a ≠ partD h 0 b then none else some ([4, a.getD 0 0], [4, b.getD 0 0])
  | f + 1, a, b => if a = b ∨ partD h (f + 1) a ≠ partD h (f + 1) b then none else if a.length = 1 then some ([4, a.getD 0 0], [4, b.getD 0 0]) else
    if partIn h (f + 1) a = partIn h (f + 1) b then (match fpc h f (a.take (lsz a.length)) (b.take (lsz a.length)) with
      | some p => some p
      | none => fpc h f (a.drop (lsz a.length)) (b.drop (lsz a.length)))
    else some (partIn h (f + 1) a, partIn h (f + 1) b)
section
variable {P : Pg} {s : Sto}
theorem loop89 (H : HasE P) {h : Hs} (ok : h.ok) {k : Nat} (hk : 9 ≤ k) {v2 : Sl} : ∀ (f : Nat) (ds : List Int) (ts : List Bool) (X : List D) (v1 w4 w5 : Sl), Lv (lsI ds) v1 → fitT f ds.length ts → 1 ≤ ds.length → ds.length ≤ 2 ^ f → f ≤ 6 → X.length + ts.length ≤ 100 →
    ∃ v1' w4' w5', forL (.nm 4) (evSs P (callN P k) l89_0) (ts.map .bl) ⟨[.dat h.d, v1, v2, .own (.lst X), w4, w5], s⟩ = .ok .nx ⟨[.dat h.d, v1', v2, .own (.lst (X ++ (wayF h f ds ts).map lsI)), w4', w5'], s⟩
  | f, ds, [], X, v1, w4, w5, _, _, _, _, _, _ => ⟨v1, w4, w5, by cases f <;> simp [wayF, forL]⟩
  | 0, ds, _ :: _, X, v1, w4, w5, _, hf, _, _, _, _ => False.elim hf
  | f + 1, ds, r :: ts, X, v1, w4, w5, h1v, hf, h1, h2, h3, hX => by
    simp only [List.length_cons] at hX
    obtain ⟨hf1, hf2⟩ := hf
    have hn : ds.length < 65 := by
      have : 2 ^ (f + 1) ≤ 2 ^ 6 := Nat.pow_le_pow_right (by decide) h3
      omega
    have lf := lsz_facts ds.length hn (by omega)
    have lp := lsz_pow f (by omega) ds.length hn (by omega) h2
    have lt : (ds.take (lsz ds.length)).length = lsz ds.length := by rw [List.length_take]; omega
    have ld : (ds.drop (lsz ds.length)).length = ds.length - lsz ds.length := List.length_drop
    have e88 := call88 (s := s) H ok (f + 1) h1 h2 h3 (m := k) (by omega)
    have e70 := call70 (s := s) H.R.p70 (n := ds.length) (by omega) (m := k) (by omega)
    have fr := free_lI (partIn h (f + 1) ds)
    have fri : ∀ i, (Rv.d (.int i)).free = true := fun _ => rfl
    have s1 := cut_take ds (lsz ds.length)
    have s2 := cut_drop ds (lsz ds.length)
    have ln := len_lI ds
    have ll := lnlt (n := X.length) (by omega)
    have eX : X ++ (wayF h (f + 1) ds (r :: ts)).map lsI = X ++ [lsI (partIn h (f + 1) ds)] ++ (wayF h f (if r then ds.drop (lsz ds.length) else ds.take (lsz ds.length)) ts).map lsI := by simp [wayF]
    rw [eX]
    have ht : tgt (.nm 4) (.bl r) ⟨[.dat h.d, v1, v2, .own (.lst X), w4, w5], s⟩ = some ⟨[.dat h.d, v1, v2, .own (.lst X), .dat (.bl r), w5], s⟩ := rfl
    cases r with
    | true =>
      rw [if_pos rfl] at hf2
      obtain ⟨v1', w4', w5', e⟩ := loop89 H ok hk (v2 := v2) f (ds.drop (lsz ds.length)) ts (X ++ [lsI (partIn h (f + 1) ds)]) (.own (lsI (ds.drop (lsz ds.length)))) (.dat (.bl true)) (.dat (.int (lsz ds.length))) (.inl rfl) (by rw [ld]; exact hf2) (by omega) (by omega) (by omega) (by simp only [List.length_append, List.length_cons, List.length_nil]; omega)
      refine ⟨v1', w4', w5', ?_⟩
      rw [if_pos rfl, ← e]
      simp only [List.map_cons]
      rw [forL, ht]
      generalize lsI (partIn h (f + 1) ds) = LP at *
      generalize lsI (ds.take (lsz ds.length)) = L1 at *
      generalize lsI (ds.drop (lsz ds.length)) = L2 at *
      generalize lsI ds = L at *
      generalize h.d = hd at *
      rcases h1v with rfl | rfl <;> simp [l89_0, doApp, e88, fr, ll, ln, e70, fri, s1, s2]
    | false =>
      rw [if_neg (by decide)] at hf2
      obtain ⟨v1', w4', w5', e⟩ := loop89 H ok hk (v2 := v2) f (ds.take (lsz ds.length)) ts (X ++ [lsI (partIn h (f + 1) ds)]) (.own (lsI (ds.take (lsz ds.length)))) (.dat (.bl false)) (.dat (.int (lsz ds.length))) (.inl rfl) (by rw [lt]; exact hf2) (by omega) (by omega) (by omega) (by simp only [List.length_append, List.length_cons, List.length_nil]; omega)
      refine ⟨v1', w4', w5', ?_⟩
      rw [if_neg (by decide), ← e]
      simp only [List.map_cons]
      rw [forL, ht]
      generalize lsI (partIn h (f + 1) ds) = LP at *
      generalize lsI (ds.take (lsz ds.length)) = L1 at *
      generalize lsI (ds.drop (lsz ds.length)) = L2 at *
      generalize lsI ds = L at *
      generalize h.d = hd at *
      rcases h1v with rfl | rfl <;> simp [l89_0, doApp, e88, fr, ll, ln, e70, fri, s1, s2]
theorem call89 (H : HasE P) {h : Hs} (ok : h.ok) {ds : List Int} (h1 : 1 ≤ ds.length) (h2 : ds.length ≤ 2 ^ 6) {ts : List Bool} (hf : fitT 6 ds.length ts) (hl : ts.length ≤ 6) {m : Nat} (hm : 11 ≤ m) :
    callN P m 89 [h.d, lsI ds, blL ts] s = .ok (.own (llL ([6, (ds.length : Int), partD h 6 ds] :: wayF h 6 ds ts))) s := by
  obtain ⟨k, rfl⟩ : ∃ k, m = k + 1 := ⟨m - 1, by omega⟩
  rw [call_eq H.p89 rfl]
  have e0 : startL f89.nl [h.d, lsI ds, blL ts] = [.dat h.d, .dat (lsI ds), .dat (blL ts), .no, .no, .no] := rfl
  have eb : f89.body = [.asg (.nm 3) (.lst [(.lst [(.i 6), (.blt .len [(.v 1)]), (.call 73 [(.v 0), (.v 1)])])]), .forr (.nm 4) .seq [(.v 2)] l89_0, .ret (.v 3)] := rfl
  rw [e0, eb]
  have e1 := call73 (s := s) H.R ok 6 ds k h1 h2 (by omega) (by omega)
  have ln := len_lI ds
  have fri : ∀ i, (Rv.d (.int i)).free = true := fun _ => rfl
  obtain ⟨v1', w4', w5', e⟩ := loop89 (s := s) H ok (k := k) (by omega) (v2 := .dat (blL ts)) 6 ds ts [lsI [6, (ds.length : Int), partD h 6 ds]] (.dat (lsI ds)) .no .no (.inr rfl) hf h1 h2 (by omega) (by simp; omega)
  have hw : wkD .seq [blL ts] = some (ts.map .bl) := rfl
  have ew : lsI [6, (ds.length : Int), partD h 6 ds] = .lst [.int 6, .int ds.length, .int (partD h 6 ds)] := rfl
  rw [step (c' := ⟨[.dat h.d, .dat (lsI ds), .dat (blL ts), .own (.lst [lsI [6, (ds.length : Int), partD h 6 ds]]), .no, .no], s⟩) (by
    rw [ew]
    generalize partD h 6 ds = v at *
    generalize lsI ds = L at *
    generalize h.d = hd at *
    generalize blL ts = T at *
    simp [ln, e1, fri])]
  rw [step (c' := ⟨[.dat h.d, v1', .dat (blL ts), .own (.lst ([lsI [6, (ds.length : Int), partD h 6 ds]] ++ (wayF h 6 ds ts).map lsI)), w4', w5'], s⟩) (by
    rw [es_forr]
    simp only [lvs_cons, evs_nil, ev_v, get_mk, getS_succ, getS_zero, bind_ok, kq_es, kq_es2]
    rw [forL_d hw]
    exact e)]
  have ew2 : llL ([6, (ds.length : Int), partD h 6 ds] :: wayF h 6 ds ts) = .lst ([lsI [6, (ds.length : Int), partD h 6 ds]] ++ (wayF h 6 ds ts).map lsI) := by simp [llL]
  rw [ew2]
  simp
theorem call90 (H : HasE P) {h : Hs} (ok : h.ok) : ∀ (f : Nat) (a b : List Int) (m : Nat), a.length = b.length → 1 ≤ a.length → a.length ≤ 2 ^ f → f ≤ 6 → f + 4 ≤ m → callN P m 90 [h.d, lsI a, lsI b] s = .ok (.d (clD (fpc h f a b))) s
  | f, a, b, 0, _, _, _, _, hm => by omega
  | f, a, b, k + 1, hab, h1, h2, h3, hm => by
    rw [call_eq H.p90 rfl]
    have e0 : startL f90.nl [h.d, lsI a, lsI b] = [.dat h.d, .dat (lsI a), .dat (lsI b), .no, .no, .no, .no] := rfl
    have eb : f90.body = b90 := rfl
    rw [e0, eb]
    unfold b90
    have ea := call73 (s := s) H.R ok f a k h1 h2 h3 (by omega)
    have eb := call73 (s := s) H.R ok f b k (by omega) (by omega) h3 (by omega)
    have ln := len_lI a
    have dq := deq_lI a b
    have s1 := shp_lI a
    have s2 := shp_lI b
    have fri : ∀ i, (Rv.d (.int i)).free = true := fun _ => rfl
    by_cases q : a = b
    · have ef : fpc h f a b = none := by cases f <;> simp [fpc, q]
      have dt : deq (lsI a) (lsI b) = true := by rw [dq]; simp [q]
      rw [ef]
      generalize lsI a = A at *
      generalize lsI b = B at *
      generalize h.d = hd at *
      simp [dt, s1, s2, clD]
    · have dt : deq (lsI a) (lsI b) = false := by rw [dq]; simp [q]
      by_cases q2 : partD h f a = partD h f b
      · by_cases q3 : a.length = 1
        · have ga : ixD (lsI a) (.int 0) = some (.int (a.getD 0 0)) := by
            have := atI_lI (l := a) (i := 0) (by omega) (by omega)
            simpa [lsI] using this
          have gb : ixD (lsI b) (.int 0) = some (.int (b.getD 0 0)) := by
            have := atI_lI (l := b) (i := 0) (by omega) (by omega)
            simpa [lsI] using this
          have ef : fpc h f a b = some ([4, a.getD 0 0], [4, b.getD 0 0]) := by
            cases f with
            | zero => simp only [fpc]; rw [if_neg (by rintro (z | z); exact q z; exact z q2)]
            | succ f => simp only [fpc]; rw [if_neg (by rintro (z | z); exact q z; exact z q2), if_pos q3]
          rw [ef]
          have ec : clD (some ([4, a.getD 0 0], [4, b.getD 0 0])) = .tup [.lst [.int 4, .int (a.getD 0 0)], .lst [.int 4, .int (b.getD 0 0)]] := rfl
          rw [ec]
          generalize a.getD 0 0 = a0 at *
          generalize b.getD 0 0 = b0 at *
          generalize partD h f a = pa at *
          generalize partD h f b = pb at *
          generalize lsI a = A at *
          generalize lsI b = B at *
          generalize h.d = hd at *
          simp [dt, s1, s2, ea, eb, fri, q2, ln, q3, ga, gb]
        · cases f with
          | zero => simp at h2; omega
          | succ f =>
            have hn : a.length < 65 := by
              have : 2 ^ (f + 1) ≤ 2 ^ 6 := Nat.pow_le_pow_right (by decide) h3
              omega
            have lf := lsz_facts a.length hn (by omega)
            have lp := lsz_pow f (by omega) a.length hn (by omega) h2
            have lt : (a.take (lsz a.length)).length = lsz a.length := by rw [List.length_take]; omega
            have ld : (a.drop (lsz a.length)).length = a.length - lsz a.length := List.length_drop
            have lt2 : (b.take (lsz a.length)).length = lsz a.length := by rw [List.length_take]; omega
            have ld2 : (b.drop (lsz a.length)).length = b.length - lsz a.length := List.length_drop
            have e70 := call70 (s := s) H.R.p70 (n := a.length) (by omega) (m := k) (by omega)
            have e88a := call88 (s := s) H ok (f + 1) (ds := a) h1 h2 h3 (m := k) (by omega)
            have e88b := call88 (s := s) H ok (f + 1) (ds := b) (by omega) (by omega) h3 (m := k) (by omega)
            have fa := free_lI (partIn h (f + 1) a)
            have fb := free_lI (partIn h (f + 1) b)
            have dq2 := deq_lI (partIn h (f + 1) a) (partIn h (f + 1) b)
            have s3 := shp_lI (partIn h (f + 1) a)
            have s4 := shp_lI (partIn h (f + 1) b)
            have c1 := cut_take a (lsz a.length)
            have c2 := cut_drop a (lsz a.length)
            have c3 := cut_take b (lsz a.length)
            have c4 := cut_drop b (lsz a.length)
            have e1 := call90 H ok f (a.take (lsz a.length)) (b.take (lsz a.length)) k (by omega) (by omega) (by omega) (by omega) (by omega)
            have e2 := call90 H ok f (a.drop (lsz a.length)) (b.drop (lsz a.length)) k (by omega) (by omega) (by omega) (by omega) (by omega)
            have q3' : ¬ ((a.length : Int) = 1) := by omega
            have hN : fpc h (f + 1) a b = if partIn h (f + 1) a = partIn h (f + 1) b then (match fpc h f (a.take (lsz a.length)) (b.take (lsz a.length)) with
              | some p => some p
              | none => fpc h f (a.drop (lsz a.length)) (b.drop (lsz a.length))) else some (partIn h (f + 1) a, partIn h (f + 1) b) := by
              conv => lhs; unfold fpc
              rw [if_neg (by rintro (z | z); exact q z; exact z q2), if_neg q3]
            rw [hN]
            generalize partD h (f + 1) a = pa at *
            generalize partD h (f + 1) b = pb at *
            generalize lsI (a.take (lsz a.length)) = A1 at *
            generalize lsI (a.drop (lsz a.length)) = A2 at *
            generalize lsI (b.take (lsz a.length)) = B1 at *
            generalize lsI (b.drop (lsz a.length)) = B2 at *
            generalize hA : lsI a = A at *
            generalize hB : lsI b = B at *
            generalize h.d = hd at *
            generalize a.length = n at *
            rw [step (c' := ⟨[.dat hd, .dat A, .dat B, .no, .no, .no, .no], s⟩) (by simp [dt, s1, s2, ea, eb, fri, q2])]
            rw [step (c' := ⟨[.dat hd, .dat A, .dat B, .no, .no, .no, .no], s⟩) (by simp [ln, q3, q3'])]
            rw [step (c' := ⟨[.dat hd, .dat A, .dat B, .dat (.int (lsz n)), .no, .no, .no], s⟩) (by simp [ln, e70, fri])]
            by_cases q4 : partIn h (f + 1) a = partIn h (f + 1) b
            · rw [if_pos q4]
              have dt2 : deq (lsI (partIn h (f + 1) a)) (lsI (partIn h (f + 1) b)) = true := by rw [dq2]; simp [q4]
              generalize lsI (partIn h (f + 1) a) = PA at *
              generalize lsI (partIn h (f + 1) b) = PB at *
              rw [step (c' := ⟨[.dat hd, .dat A, .dat B, .dat (.int (lsz n)), .own PA, .no, .no], s⟩) (by simp [e88a, fa])]
              rw [step (c' := ⟨[.dat hd, .dat A, .dat B, .dat (.int (lsz n)), .own PA, .own PB, .no], s⟩) (by simp [e88b, fb])]
              rw [step (c' := ⟨[.dat hd, .dat A, .dat B, .dat (.int (lsz n)), .own PA, .own PB, .no], s⟩) (by simp [dt2, s3, s4])]
              rw [step (c' := ⟨[.dat hd, .dat A, .dat B, .dat (.int (lsz n)), .own PA, .own PB, .dat (clD (fpc h f (a.take (lsz n)) (b.take (lsz n))))], s⟩) (by
                generalize clD (fpc h f (a.take (lsz n)) (b.take (lsz n))) = C1 at *
                simp [c1, c3, e1])]
              cases fpc h f (a.take (lsz n)) (b.take (lsz n)) with
              | none =>
                have : clD none = .non := rfl
                rw [this]
                generalize clD (fpc h f (a.drop (lsz n)) (b.drop (lsz n))) = C2 at *
                simp [c2, c4, e2]
              | some p => simp [clD]
            · rw [if_neg q4]
              have dt2 : deq (lsI (partIn h (f + 1) a)) (lsI (partIn h (f + 1) b)) = false := by rw [dq2]; simp [q4]
              have ec : clD (some (partIn h (f + 1) a, partIn h (f + 1) b)) = .tup [lsI (partIn h (f + 1) a), lsI (partIn h (f + 1) b)] := rfl
              rw [ec]
              generalize lsI (partIn h (f + 1) a) = PA at *
              generalize lsI (partIn h (f + 1) b) = PB at *
              rw [step (c' := ⟨[.dat hd, .dat A, .dat B, .dat (.int (lsz n)), .own PA, .no, .no], s⟩) (by simp [e88a, fa])]
              rw [step (c' := ⟨[.dat hd, .dat A, .dat B, .dat (.int (lsz n)), .own PA, .own PB, .no], s⟩) (by simp [e88b, fb])]
              simp [dt2, s3, s4]
      · have ef : fpc h f a b = none := by cases f <;> simp [fpc, q2]
        rw [ef]
        have q2' : ¬ partD h f b = partD h f a := fun z => q2 z.symm
        generalize partD h f a = pa at *
        generalize partD h f b = pb at *
        generalize lsI a = A at *
        generalize lsI b = B at *
        generalize h.d = hd at *
        simp [dt, s1, s2, ea, eb, fri, q2, q2', clD]
end
end Ev
end
section
set_option maxRecDepth 100000
set_option maxHeartbeats 1000000
/-! Ext5: the law's own inputs. -/
namespace Ev
def lawIn (h : Hs) : Nat → List Int → List (List Int)
  | 0, ds => [[4, ds.getD 0 0]]
  | f + 1, ds => if ds.length = 1 then [[4, ds.getD 0 0]] else lawIn h f (ds.take (lsz ds.length)) ++ lawIn h f (ds.drop (lsz ds.length)) ++ [partIn h (f + 1) ds]
theorem lawIn_len (h : Hs) : ∀ (f : Nat) (ds : List Int), (lawIn h f ds).length + 1 ≤ 2 ^ (f + 1)
  | 0, ds => by simp [lawIn]
  | f + 1, ds => by
    have e : 2 ^ (f + 1 + 1) = 2 ^ (f + 1) + 2 ^ (f + 1) := by rw [Nat.pow_succ]; omega
    unfold lawIn
    split
    · have := Nat.one_le_two_pow (n := f + 1); simp; omega
    · have h1 := lawIn_len h f (ds.take (lsz ds.length))
      have h2 := lawIn_len h f (ds.drop (lsz ds.length))
      simp only [List.length_append, List.length_cons, List.length_nil]
      omega
def toldIn (h : Hs) : Int → Int → List Bool → List Int → List (List Int)
  | u, v, true :: rs, b :: bs => [5, b, u] :: [5, b, v] :: toldIn h (dig h [5, b, u]) (dig h [5, b, v]) rs bs
  | u, v, false :: rs, b :: bs => [5, v, b] :: toldIn h u (dig h [5, v, b]) rs bs
  | _, _, _, _ => []
theorem eturn_stable : ∀ (f g m n : Nat), 1 ≤ m → m ≤ n → n ≤ 2 ^ f → f ≤ 6 → f ≤ g → eturnF g m n = eturnF f m n
  | 0, g, m, n, h0, h1, h, _, _ => by
    have q : ¬ m < n := by simp at h; omega
    cases g <;> simp [eturnF, q]
  | f + 1, 0, m, n, _, _, _, _, h => by omega
  | f + 1, g + 1, m, n, h0, h1, h, h3, hg => by
    by_cases q : m < n
    · have hn : n < 65 := by
        have : 2 ^ (f + 1) ≤ 2 ^ 6 := Nat.pow_le_pow_right (by decide) h3
        omega
      have lf := lsz_facts n hn (by omega)
      have lp := lsz_pow f (by omega) n hn (by omega) h
      simp only [eturnF, if_pos q]
      by_cases q3 : lsz n < m
      · rw [if_pos q3, if_pos q3, eturn_stable f g (m - lsz n) (n - lsz n) (by omega) (by omega) (by omega) (by omega) (by omega)]
      · rw [if_neg q3, if_neg q3, eturn_stable f g m (lsz n) h0 (by omega) (by omega) (by omega) (by omega)]
    · simp [eturnF, q]
structure HasL (P : Pg) : Prop where
  E : HasE P
  p92 : P.fns 92 = some f92
  p93 : P.fns 93 = some f93
  p94 : P.fns 94 = some f94
section
variable {P : Pg} {s : Sto}
theorem loop92 {call : CallT} (n : Nat) : ∀ (m p : Nat) (i : Int) (w : Sl),
    ∃ w', forL (.nm 2) (evSs P call l92_0) (rngL i m) ⟨[.dat (.int n), .dat (.int p), w], s⟩ = .ok .nx ⟨[.dat (.int n), .dat (.int (lszF m p n : Nat)), w'], s⟩
  | 0, p, i, w => ⟨w, rfl⟩
  | m + 1, p, i, w => by
    simp only [rngL]
    rw [forL]
    have ht : tgt (.nm 2) (.int i) ⟨[.dat (.int n), .dat (.int p), w], s⟩ = some ⟨[.dat (.int n), .dat (.int p), .dat (.int i)], s⟩ := rfl
    rw [ht]
    have mk : okMul 2 (p : Int) = true := rfl
    by_cases q : 2 * p < n
    · obtain ⟨w', e⟩ := loop92 (call := call) n m (2 * p) (i + 1) (.dat (.int i))
      refine ⟨w', ?_⟩
      have q' : 2 * (p : Int) < (n : Int) := by omega
      have ee : ((2 * p : Nat) : Int) = 2 * (p : Int) := by omega
      rw [ee] at e
      simp only [lszF, if_pos q]
      rw [← e]
      simp [l92_0, mk, q, q']
    · obtain ⟨w', e⟩ := loop92 (call := call) n m p (i + 1) (.dat (.int i))
      refine ⟨w', ?_⟩
      have q' : ¬ 2 * (p : Int) < (n : Int) := by omega
      rw [lszF_stop q] at e ⊢
      rw [← e]
      simp [l92_0, mk, q, q']
theorem call92 (H : HasL P) {n : Nat} (hn : n ≤ 64) {m : Nat} (hm : 1 ≤ m) : callN P m 92 [.int n] s = .ok (.d (.int (lsz n))) s := by
  obtain ⟨k, rfl⟩ : ∃ k, m = k + 1 := ⟨m - 1, by omega⟩
  rw [call_eq H.p92 rfl]
  have e0 : startL f92.nl [.int n] = [.dat (.int n), .no, .no] := rfl
  have eb : f92.body = [.asg (.nm 1) (.i 1), .forr (.nm 2) .rng1 [(.i 12)] l92_0, .ret (.v 1)] := rfl
  rw [e0, eb]
  obtain ⟨w', e⟩ := loop92 (P := P) (s := s) (call := callN P k) n 12 1 0 .no
  rw [lsz12 n (by omega)] at e
  have hw : wkD .rng1 [.int 12] = some (rngL 0 12) := rfl
  rw [step (c' := ⟨[.dat (.int n), .dat (.int (1 : Nat)), .no], s⟩) (by simp)]
  rw [step (c' := ⟨[.dat (.int n), .dat (.int (lsz n)), w'], s⟩) (by
    rw [es_forr]
    simp only [lvs_cons, evs_nil, ev_i, bind_ok, kq_es, kq_es2]
    rw [forL_d hw]
    exact e)]
  simp
theorem addLL (X Y : List D) (h : X.length + Y.length ≤ 2000) : binD .add (.lst X) (.lst Y) = some (.tmp (.lst (X ++ Y))) := by
  have l1 : X.length + Y.length ≤ line := Nat.le_trans h (by unfold line; decide)
  simp [binD, l1]
theorem call93 (H : HasL P) {h : Hs} (ok : h.ok) : ∀ (f : Nat) (ds : List Int) (m : Nat), 1 ≤ ds.length → ds.length ≤ 2 ^ f → f ≤ 6 → f + 3 ≤ m → callN P m 93 [h.d, lsI ds] s = .ok (.own (.lst [llL (lawIn h f ds), .int (partD h f ds)])) s
  | f, ds, 0, _, _, _, hm => by omega
  | f, ds, k + 1, h1, h2, h3, hm => by
    rw [call_eq H.p93 rfl]
    have e0 : startL f93.nl [h.d, lsI ds] = [.dat h.d, .dat (lsI ds), .no, .no, .no, .no] := rfl
    have eb : f93.body = b93 := rfl
    rw [e0, eb]
    unfold b93
    have fr : ∀ i, (Rv.d (.int i)).free = true := fun _ => rfl
    have ln := len_lI ds
    have hh : h.d = .obj 0 [.int h.m, .int h.k] := rfl
    by_cases q : ds.length = 1
    · have g : ixD (lsI ds) (.int 0) = some (.int (ds.getD 0 0)) := by
        have := atI_lI (l := ds) (i := 0) (by omega) (by omega)
        simpa [lsI] using this
      have e := call42 (s := s) H.E.R.p42 ok [4, ds.getD 0 0] (m := k) (by omega)
      have ep : partD h f ds = dig h [4, ds.getD 0 0] := by cases f <;> simp [partD, q]
      have el : llL (lawIn h f ds) = .lst [.lst [.int 4, .int (ds.getD 0 0)]] := by cases f <;> simp [lawIn, q, llL, lsI]
      rw [ep, el]
      rw [show lsI [4, ds.getD 0 0] = .lst [.int 4, .int (ds.getD 0 0)] from rfl] at e
      generalize dig h [4, ds.getD 0 0] = v at *
      generalize ds.getD 0 0 = d at *
      generalize lsI ds = L at *
      simp only [hh] at *
      simp [ln, q, g, e, fr]
    · cases f with
      | zero => simp at h2; omega
      | succ f =>
        have hn : ds.length < 65 := by
          have : 2 ^ (f + 1) ≤ 2 ^ 6 := Nat.pow_le_pow_right (by decide) h3
          omega
        have lf := lsz_facts ds.length hn (by omega)
        have lp := lsz_pow f (by omega) ds.length hn (by omega) h2
        have lt : (ds.take (lsz ds.length)).length = lsz ds.length := by rw [List.length_take]; omega
        have ld : (ds.drop (lsz ds.length)).length = ds.length - lsz ds.length := List.length_drop
        have e1 := call93 H ok f (ds.take (lsz ds.length)) k (by omega) (by omega) (by omega) (by omega)
        have e2 := call93 H ok f (ds.drop (lsz ds.length)) k (by omega) (by omega) (by omega) (by omega)
        have e3 := call42 (s := s) H.E.R.p42 ok (partIn h (f + 1) ds) (m := k) (by omega)
        rw [dig_partIn] at e3
        have e4 := call92 (s := s) H (n := ds.length) (by omega) (m := k) (by omega)
        have s1 := cut_take ds (lsz ds.length)
        have s2 := cut_drop ds (lsz ds.length)
        have ep : lsI (partIn h (f + 1) ds) = .lst [.int 5, .int (partD h f (ds.take (lsz ds.length))), .int (partD h f (ds.drop (lsz ds.length)))] := by simp [partIn, q, lsI]
        rw [ep] at e3
        have el : llL (lawIn h (f + 1) ds) = .lst ((lawIn h f (ds.take (lsz ds.length))).map lsI ++ (lawIn h f (ds.drop (lsz ds.length))).map lsI ++ [D.lst [.int 5, .int (partD h f (ds.take (lsz ds.length))), .int (partD h f (ds.drop (lsz ds.length)))]]) := by
          rw [← ep]
          simp [lawIn, q, llL]
        rw [el]
        have l1 := lawIn_len h f (ds.take (lsz ds.length))
        have l2 := lawIn_len h f (ds.drop (lsz ds.length))
        have l3 : 2 ^ (f + 1) ≤ 2 ^ 6 := Nat.pow_le_pow_right (by decide) h3
        have a1 := addLL ((lawIn h f (ds.take (lsz ds.length))).map lsI) ((lawIn h f (ds.drop (lsz ds.length))).map lsI) (by rw [List.length_map, List.length_map]; omega)
        have a2 := addLL ((lawIn h f (ds.take (lsz ds.length))).map lsI ++ (lawIn h f (ds.drop (lsz ds.length))).map lsI) [D.lst [.int 5, .int (partD h f (ds.take (lsz ds.length))), .int (partD h f (ds.drop (lsz ds.length)))]] (by simp only [List.length_append, List.length_map, List.length_cons, List.length_nil]; omega)
        simp only [llL] at e1 e2
        generalize partD h (f + 1) ds = v at *
        generalize partD h f (ds.take (lsz ds.length)) = a at *
        generalize partD h f (ds.drop (lsz ds.length)) = b at *
        generalize (lawIn h f (ds.take (lsz ds.length))).map lsI = X at *
        generalize (lawIn h f (ds.drop (lsz ds.length))).map lsI = Y at *
        generalize lsI (ds.take (lsz ds.length)) = L1 at *
        generalize lsI (ds.drop (lsz ds.length)) = L2 at *
        generalize lsI ds = L at *
        simp only [hh] at *
        have q' : ¬ ((ds.length : Int) = 1) := by omega
        generalize ds.length = n at *
        rw [step (c' := ⟨[.dat (.obj 0 [.int h.m, .int h.k]), .dat L, .no, .no, .no, .no], s⟩) (by simp [ln, q, q'])]
        rw [step (c' := ⟨[.dat (.obj 0 [.int h.m, .int h.k]), .dat L, .dat (.int (lsz n)), .no, .no, .no], s⟩) (by simp [ln, e4, fr])]
        rw [step (c' := ⟨[.dat (.obj 0 [.int h.m, .int h.k]), .dat L, .dat (.int (lsz n)), .own (.lst [.lst X, .int a]), .no, .no], s⟩) (by simp [s1, e1])]
        rw [step (c' := ⟨[.dat (.obj 0 [.int h.m, .int h.k]), .dat L, .dat (.int (lsz n)), .own (.lst [.lst X, .int a]), .own (.lst [.lst Y, .int b]), .no], s⟩) (by simp [s2, e2])]
        rw [step (c' := ⟨[.dat (.obj 0 [.int h.m, .int h.k]), .dat L, .dat (.int (lsz n)), .own (.lst [.lst X, .int a]), .own (.lst [.lst Y, .int b]), .own (.lst [.int 5, .int a, .int b])], s⟩) (by simp)]
        generalize hZ : X ++ Y = Z at *
        rw [lss_cons, ls_ret]
        simp [a1, a2, e3, fr]
end
end Ev
end
section
set_option maxRecDepth 100000
set_option maxHeartbeats 1000000
/-! Ext6: the law's own reading of an extension paper. -/
namespace Ev
theorem toldIn_len (h : Hs) : ∀ (rs : List Bool) (bs : List Int) (u v : Int), (toldIn h u v rs bs).length ≤ 2 * rs.length
  | true :: rs, b :: bs, u, v => by simp only [toldIn, List.length_cons]; have := toldIn_len h rs bs (dig h [5, b, u]) (dig h [5, b, v]); omega
  | false :: rs, b :: bs, u, v => by simp only [toldIn, List.length_cons]; have := toldIn_len h rs bs u (dig h [5, v, b]); omega
  | [], _, _, _ => by simp [toldIn]
  | true :: _, [], _, _ => by simp [toldIn]
  | false :: _, [], _, _ => by simp [toldIn]
section
variable {P : Pg} {s : Sto}
theorem loop94 (H : HasL P) {k : Nat} (hk : 1 ≤ k) {v0 v1 v2 v3 u1 u2 u3 u4 u5 : Sl} : ∀ (m p n : Nat) (i : Int) (acc : List Bool) (w7 w8 : Sl), 1 ≤ p → p ≤ n → n ≤ 64 → acc.length + m ≤ 100 →
    ∃ a b w7' w8', forL (.nm 7) (evSs P (callN P k) l94_0) (rngL i m) ⟨[v0, v1, v2, v3, .own (blL acc), .dat (.int p), .dat (.int n), w7, w8, u1, u2, u3, u4, u5], s⟩ = .ok .nx ⟨[v0, v1, v2, v3, .own (blL (acc ++ eturnF m p n)), a, b, w7', w8', u1, u2, u3, u4, u5], s⟩
  | 0, p, n, i, acc, w7, w8, _, _, _, _ => ⟨.dat (.int p), .dat (.int n), w7, w8, by simp [rngL, forL, eturnF]⟩
  | m + 1, p, n, i, acc, w7, w8, h0, h1, h2, hl => by
    simp only [rngL]
    rw [forL]
    have ht : tgt (.nm 7) (.int i) ⟨[v0, v1, v2, v3, .own (blL acc), .dat (.int p), .dat (.int n), w7, w8, u1, u2, u3, u4, u5], s⟩ = some ⟨[v0, v1, v2, v3, .own (blL acc), .dat (.int p), .dat (.int n), .dat (.int i), w8, u1, u2, u3, u4, u5], s⟩ := rfl
    rw [ht]
    by_cases q : p < n
    · have lf := lsz_facts n (by omega) (by omega)
      have e92 := call92 (s := s) H (n := n) (by omega) (m := k) (by omega)
      have q0 : (p : Int) < (n : Int) := by omega
      have fr : ∀ i, (Rv.d (.int i)).free = true := fun _ => rfl
      have ll : acc.length < line := lnlt (by omega)
      simp only [eturnF, if_pos q]
      by_cases q3 : lsz n < p
      · have q4 : (lsz n : Int) < (p : Int) := by omega
        obtain ⟨a, b, w7', w8', e⟩ := loop94 H hk (v0 := v0) (v1 := v1) (v2 := v2) (v3 := v3) (u1 := u1) (u2 := u2) (u3 := u3) (u4 := u4) (u5 := u5) m (p - lsz n) (n - lsz n) (i + 1) (acc ++ [true]) (.dat (.int i)) (.dat (.int (lsz n))) (by omega) (by omega) (by omega) (by simp only [List.length_append, List.length_cons, List.length_nil]; omega)
        have es : ((p - lsz n : Nat) : Int) = (p : Int) - (lsz n : Int) := by omega
        have es2 : ((n - lsz n : Nat) : Int) = (n : Int) - (lsz n : Int) := by omega
        rw [es, es2] at e
        refine ⟨a, b, w7', w8', ?_⟩
        rw [if_pos q3]
        rw [show acc ++ true :: eturnF m (p - lsz n) (n - lsz n) = acc ++ [true] ++ eturnF m (p - lsz n) (n - lsz n) by simp, ← e]
        simp only [blL] at *
        simp [l94_0, doApp, q, q0, e92, fr, ll, q3, q4]
      · have q4 : ¬ ((lsz n : Int) < (p : Int)) := by omega
        obtain ⟨a, b, w7', w8', e⟩ := loop94 H hk (v0 := v0) (v1 := v1) (v2 := v2) (v3 := v3) (u1 := u1) (u2 := u2) (u3 := u3) (u4 := u4) (u5 := u5) m p (lsz n) (i + 1) (acc ++ [false]) (.dat (.int i)) (.dat (.int (lsz n))) h0 (by omega) (by omega) (by simp only [List.length_append, List.length_cons, List.length_nil]; omega)
        refine ⟨a, b, w7', w8', ?_⟩
        rw [if_neg q3]
        rw [show acc ++ false :: eturnF m p (lsz n) = acc ++ [false] ++ eturnF m p (lsz n) by simp, ← e]
        simp only [blL] at *
        simp [l94_0, doApp, q, q0, e92, fr, ll, q3, q4]
    · have q0 : ¬ ((p : Int) < (n : Int)) := by omega
      obtain ⟨a, b, w7', w8', e⟩ := loop94 H hk (v0 := v0) (v1 := v1) (v2 := v2) (v3 := v3) (u1 := u1) (u2 := u2) (u3 := u3) (u4 := u4) (u5 := u5) m p n (i + 1) acc (.dat (.int i)) w8 h0 h1 h2 (by omega)
      refine ⟨a, b, w7', w8', ?_⟩
      have et : eturnF (m + 1) p n = eturnF m p n := by cases m <;> simp [eturnF, q]
      rw [et, ← e]
      simp [l94_0, q, q0]
theorem loop94b (H : HasL P) {h : Hs} (ok : h.ok) {k : Nat} (hk : 1 ≤ k) {b0 : Int} {B : List Int} {v1 v2 v4 v5 v6 v7 v8 : Sl} : ∀ (rs : List Bool) (j : Nat) (X : List D) (u v : Int) (w12 w13 : Sl), X.length + 2 * rs.length ≤ 100 → j + rs.length = B.length →
    ∃ w12' w13', forL (.tp [12, 13]) (evSs P (callN P k) l94_1) (enumF j (rs.map .bl)) ⟨[.dat h.d, v1, v2, .dat (lsI (b0 :: B)), v4, v5, v6, v7, v8, .dat (.int u), .dat (.int v), .own (.lst X), w12, w13], s⟩ = .ok .nx ⟨[.dat h.d, v1, v2, .dat (lsI (b0 :: B)), v4, v5, v6, v7, v8, .dat (.int (climbO h u rs (B.drop j))), .dat (.int (climb h v rs (B.drop j))), .own (.lst (X ++ (toldIn h u v rs (B.drop j)).map lsI)), w12', w13'], s⟩
  | [], j, X, u, v, w12, w13, _, _ => ⟨w12, w13, by simp [toldIn, climb, climbO, enumF, forL]⟩
  | r :: rs, j, X, u, v, w12, w13, hl, hB => by
    simp only [List.length_cons] at hl hB
    have hj : j < B.length := by omega
    have hd : B.drop j = B[j] :: B.drop (j + 1) := List.drop_eq_getElem_cons hj
    have gj : ixD (lsI (b0 :: B)) (.int (1 + (j : Nat))) = some (.int B[j]) := by
      have := atI_nat (xs := (b0 :: B).map D.int) (k := 1 + j) (by simp; omega)
      show atI ((b0 :: B).map D.int) (1 + (j : Int)) = _
      have e : ((1 + j : Nat) : Int) = 1 + (j : Int) := by omega
      rw [← e, this, List.getElem?_map, show 1 + j = j + 1 from by omega, List.getElem?_cons_succ, List.getElem?_eq_getElem hj]; rfl
    rw [hd]
    generalize B[j] = b at *
    have fr : ∀ i, (Rv.d (.int i)).free = true := fun _ => rfl
    have hh : h.d = .obj 0 [.int h.m, .int h.k] := rfl
    simp only [List.map_cons, enumF]
    rw [forL]
    have ht : tgt (.tp [12, 13]) (.tup [.int (j : Nat), .bl r]) ⟨[.dat h.d, v1, v2, .dat (lsI (b0 :: B)), v4, v5, v6, v7, v8, .dat (.int u), .dat (.int v), .own (.lst X), w12, w13], s⟩ = some ⟨[.dat h.d, v1, v2, .dat (lsI (b0 :: B)), v4, v5, v6, v7, v8, .dat (.int u), .dat (.int v), .own (.lst X), .dat (.int (j : Nat)), .dat (.bl r)], s⟩ := rfl
    rw [ht]
    cases r with
    | true =>
      obtain ⟨w12', w13', e⟩ := loop94b H ok hk (b0 := b0) (B := B) (v1 := v1) (v2 := v2) (v4 := v4) (v5 := v5) (v6 := v6) (v7 := v7) (v8 := v8) rs (j + 1) (X ++ [lsI [5, b, u], lsI [5, b, v]]) (dig h [5, b, u]) (dig h [5, b, v]) (.dat (.int (j : Nat))) (.dat (.bl true)) (by simp only [List.length_append, List.length_cons, List.length_nil]; omega) (by omega)
      refine ⟨w12', w13', ?_⟩
      have es : climb h v (true :: rs) (b :: B.drop (j + 1)) = climb h (dig h [5, b, v]) rs (B.drop (j + 1)) := rfl
      have ea : X ++ (toldIn h u v (true :: rs) (b :: B.drop (j + 1))).map lsI = X ++ [lsI [5, b, u], lsI [5, b, v]] ++ (toldIn h (dig h [5, b, u]) (dig h [5, b, v]) rs (B.drop (j + 1))).map lsI := by simp [toldIn]
      rw [es, ea]
      simp only [climbO]
      rw [← e]
      have e1 := call42 (s := s) H.E.R.p42 ok [5, b, u] (m := k) (by omega)
      have e2 := call42 (s := s) H.E.R.p42 ok [5, b, v] (m := k) (by omega)
      have a1 := addLL X [lsI [5, b, u], lsI [5, b, v]] (by simp only [List.length_cons, List.length_nil]; omega)
      generalize lsI (b0 :: B) = LB at *
      simp only [lsI, List.map_cons, List.map_nil, hh] at *
      generalize dig h [5, b, u] = du at *
      generalize dig h [5, b, v] = dv at *
      generalize hZ : X ++ [D.lst [.int 5, .int b, .int u], D.lst [.int 5, .int b, .int v]] = Z at *
      simp [l94_1, e1, e2, fr, gj, a1]
    | false =>
      obtain ⟨w12', w13', e⟩ := loop94b H ok hk (b0 := b0) (B := B) (v1 := v1) (v2 := v2) (v4 := v4) (v5 := v5) (v6 := v6) (v7 := v7) (v8 := v8) rs (j + 1) (X ++ [lsI [5, v, b]]) u (dig h [5, v, b]) (.dat (.int (j : Nat))) (.dat (.bl false)) (by simp only [List.length_append, List.length_cons, List.length_nil]; omega) (by omega)
      refine ⟨w12', w13', ?_⟩
      have es : climb h v (false :: rs) (b :: B.drop (j + 1)) = climb h (dig h [5, v, b]) rs (B.drop (j + 1)) := rfl
      have ea : X ++ (toldIn h u v (false :: rs) (b :: B.drop (j + 1))).map lsI = X ++ [lsI [5, v, b]] ++ (toldIn h u (dig h [5, v, b]) rs (B.drop (j + 1))).map lsI := by simp [toldIn]
      rw [es, ea]
      simp only [climbO]
      rw [← e]
      have e2 := call42 (s := s) H.E.R.p42 ok [5, v, b] (m := k) (by omega)
      have ll := lnlt (n := X.length) (by omega)
      generalize lsI (b0 :: B) = LB at *
      simp only [lsI, List.map_cons, List.map_nil, hh] at *
      generalize dig h [5, v, b] = dv at *
      simp [l94_1, doApp, e2, fr, gj, ll]
def toldAll (h : Hs) (p n : Nat) (b0 : Int) (rs : List Bool) (bs : List Int) : List (List Int) := toldIn h b0 b0 rs bs ++ [[6, (p : Int), climbO h b0 rs bs], [6, (n : Int), climb h b0 rs bs]]
theorem call94 (H : HasL P) {h : Hs} (ok : h.ok) {p n : Nat} (h0 : 1 ≤ p) (h1 : p ≤ n) (h2 : n ≤ 2 ^ 6) (b0 : Int) {bs : List Int} (hb : bs.length = (eturnF 6 p n).length) {m : Nat} (hm : 2 ≤ m) :
    callN P m 94 [h.d, .int p, .int n, lsI (b0 :: bs)] s = .ok (.own (llL (toldAll h p n b0 (eturnF 6 p n).reverse bs))) s := by
  obtain ⟨k, rfl⟩ : ∃ k, m = k + 1 := ⟨m - 1, by omega⟩
  rw [call_eq H.p94 rfl]
  have e0 : startL f94.nl [h.d, .int p, .int n, lsI (b0 :: bs)] = [.dat h.d, .dat (.int p), .dat (.int n), .dat (lsI (b0 :: bs)), .no, .no, .no, .no, .no, .no, .no, .no, .no, .no] := rfl
  have eb : f94.body = [.asg (.nm 4) (.lst []),
    .asg (.nm 5) (.v 1),
    .asg (.nm 6) (.v 2),
    .forr (.nm 7) .rng1 [(.i 12)] l94_0,
    .asg (.nm 9) (.ix (.v 3) (.i 0)),
    .asg (.nm 10) (.ix (.v 3) (.i 0)),
    .asg (.nm 11) (.lst []),
    .forr (.tp [12, 13]) .enum [(.rev (.v 4))] l94_1,
    .ret (.bin .add (.v 11) (.lst [(.lst [(.i 6), (.v 1), (.v 9)]), (.lst [(.i 6), (.v 2), (.v 10)])]))] := rfl
  rw [e0, eb]
  obtain ⟨a5, a6, a7, a8, e1⟩ := loop94 (P := P) (s := s) H (k := k) (by omega) (v0 := .dat h.d) (v1 := .dat (.int p)) (v2 := .dat (.int n)) (v3 := .dat (lsI (b0 :: bs))) (u1 := .no) (u2 := .no) (u3 := .no) (u4 := .no) (u5 := .no) 12 p n 0 [] .no .no h0 h1 (by simpa using h2) (by simp)
  rw [eturn_stable 6 12 p n h0 h1 h2 (by omega) (by omega), List.nil_append] at e1
  have tl := eturn_len 6 p n
  generalize eturnF 6 p n = ts at *
  obtain ⟨w12, w13, e2⟩ := loop94b (s := s) H ok (k := k) (by omega) (b0 := b0) (B := bs) (v1 := .dat (.int p)) (v2 := .dat (.int n)) (v4 := .own (blL ts)) (v5 := a5) (v6 := a6) (v7 := a7) (v8 := a8) ts.reverse 0 [] b0 b0 .no .no (by simp; omega) (by simp; omega)
  rw [List.drop_zero, List.nil_append] at e2
  have hw : wkD .rng1 [.int 12] = some (rngL 0 12) := rfl
  have g0 : ixD (lsI (b0 :: bs)) (.int 0) = some (.int b0) := by simp [lsI]
  rw [step (c' := ⟨[.dat h.d, .dat (.int p), .dat (.int n), .dat (lsI (b0 :: bs)), .own (blL []), .no, .no, .no, .no, .no, .no, .no, .no, .no], s⟩) (by simp [blL])]
  rw [step (c' := ⟨[.dat h.d, .dat (.int p), .dat (.int n), .dat (lsI (b0 :: bs)), .own (blL []), .dat (.int p), .no, .no, .no, .no, .no, .no, .no, .no], s⟩) (by simp)]
  rw [step (c' := ⟨[.dat h.d, .dat (.int p), .dat (.int n), .dat (lsI (b0 :: bs)), .own (blL []), .dat (.int p), .dat (.int n), .no, .no, .no, .no, .no, .no, .no], s⟩) (by simp)]
  rw [step (c' := ⟨[.dat h.d, .dat (.int p), .dat (.int n), .dat (lsI (b0 :: bs)), .own (blL ts), a5, a6, a7, a8, .no, .no, .no, .no, .no], s⟩) (by
    rw [es_forr]
    simp only [lvs_cons, evs_nil, ev_i, bind_ok, kq_es, kq_es2]
    rw [forL_d hw]
    exact e1)]
  rw [step (c' := ⟨[.dat h.d, .dat (.int p), .dat (.int n), .dat (lsI (b0 :: bs)), .own (blL ts), a5, a6, a7, a8, .dat (.int b0), .no, .no, .no, .no], s⟩) (by
    generalize h.d = hd at *
    generalize lsI (b0 :: bs) = L at *
    simp [g0])]
  rw [step (c' := ⟨[.dat h.d, .dat (.int p), .dat (.int n), .dat (lsI (b0 :: bs)), .own (blL ts), a5, a6, a7, a8, .dat (.int b0), .dat (.int b0), .no, .no, .no], s⟩) (by
    generalize h.d = hd at *
    generalize lsI (b0 :: bs) = L at *
    simp [g0])]
  rw [step (c' := ⟨[.dat h.d, .dat (.int p), .dat (.int n), .dat (lsI (b0 :: bs)), .own (blL ts), a5, a6, a7, a8, .dat (.int b0), .dat (.int b0), .own (.lst []), .no, .no], s⟩) (by simp)]
  rw [step (c' := ⟨[.dat h.d, .dat (.int p), .dat (.int n), .dat (lsI (b0 :: bs)), .own (blL ts), a5, a6, a7, a8, .dat (.int (climbO h b0 ts.reverse bs)), .dat (.int (climb h b0 ts.reverse bs)), .own (.lst ((toldIn h b0 b0 ts.reverse bs).map lsI)), w12, w13], s⟩) (by
    rw [← e2, es_forr]
    have q : evEs P (callN P k) [.rev (.v 4)] ⟨[.dat h.d, .dat (.int p), .dat (.int n), .dat (lsI (b0 :: bs)), .own (blL ts), a5, a6, a7, a8, .dat (.int b0), .dat (.int b0), .own (.lst []), .no, .no], s⟩ = .ok [.tmp (.lst (ts.reverse.map .bl))] ⟨[.dat h.d, .dat (.int p), .dat (.int n), .dat (lsI (b0 :: bs)), .own (blL ts), a5, a6, a7, a8, .dat (.int b0), .dat (.int b0), .own (.lst []), .no, .no], s⟩ := by
      simp [blL]
    rw [q, bind_ok]
    simp only [doFor, List.map_cons, List.map_nil]
    have : wkD .enum [(Vl.tmp (.lst (ts.reverse.map .bl))).rd] = some (enumF 0 (ts.reverse.map .bl)) := rfl
    rw [this, ofO_some, bind_ok]
    exact if_pos rfl)]
  have ew : llL (toldAll h p n b0 ts.reverse bs) = .lst ((toldIn h b0 b0 ts.reverse bs).map lsI ++ [D.lst [.int 6, .int p, .int (climbO h b0 ts.reverse bs)], D.lst [.int 6, .int n, .int (climb h b0 ts.reverse bs)]]) := by
    simp [llL, toldAll, lsI]
  rw [ew]
  have l1 := toldIn_len h ts.reverse bs b0 b0
  rw [List.length_reverse] at l1
  have a1 := addLL ((toldIn h b0 b0 ts.reverse bs).map lsI) [D.lst [.int 6, .int p, .int (climbO h b0 ts.reverse bs)], D.lst [.int 6, .int n, .int (climb h b0 ts.reverse bs)]] (by rw [List.length_map]; simp only [List.length_cons, List.length_nil]; omega)
  generalize (toldIn h b0 b0 ts.reverse bs).map lsI = X at *
  generalize climbO h b0 ts.reverse bs = u at *
  generalize climb h b0 ts.reverse bs = v at *
  generalize lsI (b0 :: bs) = L at *
  generalize h.d = hd at *
  generalize hZ : X ++ [D.lst [.int 6, .int p, .int u], D.lst [.int 6, .int n, .int v]] = Z at *
  simp [a1]
end
end Ev
end
section
set_option maxRecDepth 100000
set_option maxHeartbeats 1000000
/-! Ext7: find_extension_clash, what it computes. -/
namespace Ev
/-- the parts, from the top down: older rest, newer rest -/
def loopF (h : Hs) : Nat → List Int → List Int → List Bool → Option (List Int × List Int) → Option (List Int × List Int)
  | f + 1, o, w, true :: ts, none => loopF h f (o.drop (lsz w.length)) (w.drop (lsz w.length)) ts (fpc h f (o.take (lsz w.length)) (w.take (lsz w.length)))
  | f + 1, o, w, true :: ts, some x => loopF h f (o.drop (lsz w.length)) (w.drop (lsz w.length)) ts (some x)
  | f + 1, o, w, false :: ts, c => loopF h f o (w.take (lsz w.length)) ts c
  | f, o, w, [], none => fpc h f o w
  | _, _, _, [], some x => some x
  | 0, _, _, _ :: _, c => c
def orE (c d : Option (List Int × List Int)) : Option (List Int × List Int) := match c with
  | some x => some x
  | none => d
def fecF (h : Hs) (old new : List Int) (b0 : Int) (bs : List Int) : Option (List Int × List Int) :=
  if dig h [6, (old.length : Int), climbO h b0 (eturnF 6 old.length new.length).reverse bs] = dig h [6, (old.length : Int), partD h 6 old] ∧
    dig h [6, (new.length : Int), climb h b0 (eturnF 6 old.length new.length).reverse bs] = dig h [6, (new.length : Int), partD h 6 new] then
    loopF h 6 old new (eturnF 6 old.length new.length) (orE (unlF ([6, (old.length : Int), partD h 6 old] :: wayF h 6 old ((eturnF 6 old.length new.length).filter id)) (befT h old.length b0 (eturnF 6 old.length new.length).reverse bs))
      (unlF ([6, (new.length : Int), partD h 6 new] :: wayF h 6 new (eturnF 6 old.length new.length)) (aftT h new.length b0 (eturnF 6 old.length new.length).reverse bs)))
  else none
theorem lsz_old : ∀ n < 65, ∀ m < 65, lsz n < m → m ≤ n → lsz m = lsz n := by decide +kernel
theorem fit_new : ∀ (f m n : Nat), 1 ≤ m → m ≤ n → n ≤ 2 ^ f → f ≤ 6 → fitT f n (eturnF f m n)
  | 0, m, n, _, _, _, _ => trivial
  | f + 1, m, n, h0, h1, h2, h3 => by
    unfold eturnF
    by_cases q : m < n
    · have hn : n < 65 := by
        have : 2 ^ (f + 1) ≤ 2 ^ 6 := Nat.pow_le_pow_right (by decide) h3
        omega
      have lf := lsz_facts n hn (by omega)
      have lp := lsz_pow f (by omega) n hn (by omega) h2
      rw [if_pos q]
      by_cases q3 : lsz n < m
      · rw [if_pos q3]
        exact ⟨by omega, by rw [if_pos rfl]; exact fit_new f (m - lsz n) (n - lsz n) (by omega) (by omega) (by omega) (by omega)⟩
      · rw [if_neg q3]
        exact ⟨by omega, by rw [if_neg (by decide)]; exact fit_new f m (lsz n) h0 (by omega) (by omega) (by omega)⟩
    · rw [if_neg q]; trivial
theorem fitT_mono : ∀ (f g n : Nat) (ts : List Bool), f ≤ g → fitT f n ts → fitT g n ts
  | _, g, _, [], _, _ => by cases g <;> trivial
  | 0, _, _, _ :: _, _, h => False.elim h
  | f + 1, 0, _, _ :: _, h, _ => by omega
  | f + 1, g + 1, n, r :: ts, h, ⟨h1, h2⟩ => ⟨h1, fitT_mono f g _ ts (by omega) h2⟩
theorem fit_old : ∀ (f m n : Nat), 1 ≤ m → m ≤ n → n ≤ 2 ^ f → f ≤ 6 → fitT f m ((eturnF f m n).filter id)
  | 0, m, n, _, _, _, _ => trivial
  | f + 1, m, n, h0, h1, h2, h3 => by
    unfold eturnF
    by_cases q : m < n
    · have hn : n < 65 := by
        have : 2 ^ (f + 1) ≤ 2 ^ 6 := Nat.pow_le_pow_right (by decide) h3
        omega
      have lf := lsz_facts n hn (by omega)
      have lp := lsz_pow f (by omega) n hn (by omega) h2
      rw [if_pos q]
      by_cases q3 : lsz n < m
      · rw [if_pos q3]
        have e := lsz_old n hn m (by omega) q3 h1
        have ih := fit_old f (m - lsz n) (n - lsz n) (by omega) (by omega) (by omega) (by omega)
        show fitT (f + 1) m (true :: (eturnF f (m - lsz n) (n - lsz n)).filter id)
        exact ⟨by omega, by rw [if_pos rfl, e]; exact ih⟩
      · rw [if_neg q3]
        show fitT (f + 1) m ((eturnF f m (lsz n)).filter id)
        exact fitT_mono f (f + 1) _ _ (by omega) (fit_old f m (lsz n) h0 (by omega) (by omega) (by omega))
    · rw [if_neg q]; trivial
section
variable {P : Pg} {s : Sto}
theorem cut_part (ds : List Int) (i j : Nat) : slD (lsI ds) (some (i : Int)) (some ((i : Int) + (j : Int))) = some (.tmp (lsI ((ds.drop i).take j))) := by
  have := cut_seg (ds.map D.int) i (i + j)
  rw [show i + j - i = j by omega, ← List.map_drop, ← List.map_take] at this
  have e : ((i + j : Nat) : Int) = (i : Int) + (j : Int) := by omega
  rw [e] at this
  simp only [lsI, slD, this]
theorem fr_cl (c : Option (List Int × List Int)) (vs : List Vl) (cc : C) : True := trivial
/-- the loop over the turns -/
theorem loop91 (H : HasL P) {h : Hs} (ok : h.ok) {k : Nat} (hk : 10 ≤ k) {old new : List Int} {v3 v4 v5 v6 : Sl} : ∀ (f st sz : Nat) (c : Option (List Int × List Int)) (w8 w11 : Sl), 1 ≤ old.length - st → old.length - st ≤ sz → st + sz ≤ new.length → sz ≤ 2 ^ f → f ≤ 6 → st ≤ old.length →
    ∃ (f' st' sz' : Nat) (c' : Option (List Int × List Int)) (w8' w11' : Sl), old.length - st' = sz' ∧ 1 ≤ sz' ∧ st' + sz' ≤ new.length ∧ sz' ≤ 2 ^ f' ∧ f' ≤ 6 ∧
      (match c' with
        | none => fpc h f' (old.drop st') ((new.drop st').take sz')
        | some x => some x) = loopF h f (old.drop st) ((new.drop st).take sz) (eturnF f (old.length - st) sz) c ∧
      forL (.nm 8) (evSs P (callN P k) l91_0) ((eturnF f (old.length - st) sz).map .bl) ⟨[.dat h.d, .dat (lsI old), .dat (lsI new), v3, v4, v5, v6, .dat (clD c), w8, .dat (.int st), .dat (.int sz), w11], s⟩
        = .ok .nx ⟨[.dat h.d, .dat (lsI old), .dat (lsI new), v3, v4, v5, v6, .dat (clD c'), w8', .dat (.int st'), .dat (.int sz'), w11'], s⟩
  | 0, st, sz, c, w8, w11, h0, h1, h2, h3, h4, h5 => by
    refine ⟨0, st, sz, c, w8, w11, by simp at h3; omega, by omega, h2, h3, h4, ?_, rfl⟩
    cases c <;> simp [loopF, eturnF]
  | f + 1, st, sz, c, w8, w11, h0, h1, h2, h3, h4, h5 => by
    by_cases q : old.length - st < sz
    · have hn : sz < 65 := by
        have : 2 ^ (f + 1) ≤ 2 ^ 6 := Nat.pow_le_pow_right (by decide) h4
        omega
      have lf := lsz_facts sz hn (by omega)
      have lp := lsz_pow f (by omega) sz hn (by omega) h3
      have e70 := call70 (s := s) H.E.R.p70 (n := sz) (by omega) (m := k) (by omega)
      have fri : ∀ i, (Rv.d (.int i)).free = true := fun _ => rfl
      have hw : ((new.drop st).take sz).length = sz := by rw [List.length_take, List.length_drop]; omega
      by_cases q3 : lsz sz < old.length - st
      · have et : eturnF (f + 1) (old.length - st) sz = true :: eturnF f (old.length - (st + lsz sz)) (sz - lsz sz) := by
          simp only [eturnF, if_pos q, if_pos q3]
          rw [show old.length - st - lsz sz = old.length - (st + lsz sz) by omega]
        have eo : (old.drop st).drop (lsz sz) = old.drop (st + lsz sz) := by rw [List.drop_drop]
        have en : ((new.drop st).take sz).drop (lsz sz) = (new.drop (st + lsz sz)).take (sz - lsz sz) := by rw [List.drop_take, List.drop_drop]
        have en2 : ((new.drop st).take sz).take (lsz sz) = (new.drop st).take (lsz sz) := by rw [List.take_take]; congr 1; omega
        have c1 := cut_part old st (lsz sz)
        have c2 := cut_part new st (lsz sz)
        have ht : tgt (.nm 8) (.bl true) ⟨[.dat h.d, .dat (lsI old), .dat (lsI new), v3, v4, v5, v6, .dat (clD c), w8, .dat (.int st), .dat (.int sz), w11], s⟩ = some ⟨[.dat h.d, .dat (lsI old), .dat (lsI new), v3, v4, v5, v6, .dat (clD c), .dat (.bl true), .dat (.int st), .dat (.int sz), w11], s⟩ := rfl
        have es1 : ((st + lsz sz : Nat) : Int) = (st : Int) + (lsz sz : Int) := by omega
        have es2 : ((sz - lsz sz : Nat) : Int) = (sz : Int) - (lsz sz : Int) := by omega
        have e90 := call90 (s := s) H.E ok f ((old.drop st).take (lsz sz)) ((new.drop st).take (lsz sz)) k (by rw [List.length_take, List.length_take, List.length_drop, List.length_drop]; omega) (by rw [List.length_take, List.length_drop]; omega) (by rw [List.length_take, List.length_drop]; omega) (by omega) (by omega)
        cases c with
        | none =>
          obtain ⟨f', st', sz', c', w8', w11', g1, g2, g3, g4, g5, g6, e⟩ := loop91 H ok hk (old := old) (new := new) (v3 := v3) (v4 := v4) (v5 := v5) (v6 := v6) f (st + lsz sz) (sz - lsz sz) (fpc h f ((old.drop st).take (lsz sz)) ((new.drop st).take (lsz sz))) (.dat (.bl true)) (.dat (.int (lsz sz))) (by omega) (by omega) (by omega) (by omega) (by omega) (by omega)
          refine ⟨f', st', sz', c', w8', w11', g1, g2, g3, g4, g5, ?_, ?_⟩
          · rw [et]
            simp only [loopF]
            rw [hw, eo, en, en2]
            exact g6
          · rw [et, ← e, es1, es2]
            simp only [List.map_cons]
            rw [forL, ht]
            have cn : clD none = .non := rfl
            rw [cn]
            generalize clD (fpc h f ((old.drop st).take (lsz sz)) ((new.drop st).take (lsz sz))) = C1 at *
            generalize lsI ((old.drop st).take (lsz sz)) = L1 at *
            generalize lsI ((new.drop st).take (lsz sz)) = L2 at *
            generalize lsI old = Lo at *
            generalize lsI new = Ln at *
            generalize h.d = hd at *
            simp [l91_0, e70, fri, c1, c2, e90]
        | some x =>
          obtain ⟨f', st', sz', c', w8', w11', g1, g2, g3, g4, g5, g6, e⟩ := loop91 H ok hk (old := old) (new := new) (v3 := v3) (v4 := v4) (v5 := v5) (v6 := v6) f (st + lsz sz) (sz - lsz sz) (some x) (.dat (.bl true)) (.dat (.int (lsz sz))) (by omega) (by omega) (by omega) (by omega) (by omega) (by omega)
          refine ⟨f', st', sz', c', w8', w11', g1, g2, g3, g4, g5, ?_, ?_⟩
          · rw [et]
            simp only [loopF]
            rw [hw, eo, en]
            exact g6
          · rw [et, ← e, es1, es2]
            simp only [List.map_cons]
            rw [forL, ht]
            obtain ⟨xa, xb⟩ := x
            have cn : clD (some (xa, xb)) = .tup [lsI xa, lsI xb] := rfl
            rw [cn]
            generalize lsI xa = Xa at *
            generalize lsI xb = Xb at *
            generalize lsI old = Lo at *
            generalize lsI new = Ln at *
            generalize h.d = hd at *
            simp [l91_0, e70, fri]
      · have et : eturnF (f + 1) (old.length - st) sz = false :: eturnF f (old.length - st) (lsz sz) := by
          simp only [eturnF, if_pos q, if_neg q3]
        have en2 : ((new.drop st).take sz).take (lsz sz) = (new.drop st).take (lsz sz) := by rw [List.take_take]; congr 1; omega
        have ht : tgt (.nm 8) (.bl false) ⟨[.dat h.d, .dat (lsI old), .dat (lsI new), v3, v4, v5, v6, .dat (clD c), w8, .dat (.int st), .dat (.int sz), w11], s⟩ = some ⟨[.dat h.d, .dat (lsI old), .dat (lsI new), v3, v4, v5, v6, .dat (clD c), .dat (.bl false), .dat (.int st), .dat (.int sz), w11], s⟩ := rfl
        obtain ⟨f', st', sz', c', w8', w11', g1, g2, g3, g4, g5, g6, e⟩ := loop91 H ok hk (old := old) (new := new) (v3 := v3) (v4 := v4) (v5 := v5) (v6 := v6) f st (lsz sz) c (.dat (.bl false)) (.dat (.int (lsz sz))) h0 (by omega) (by omega) (by omega) (by omega) h5
        refine ⟨f', st', sz', c', w8', w11', g1, g2, g3, g4, g5, ?_, ?_⟩
        · rw [et]
          have : loopF h (f + 1) (old.drop st) ((new.drop st).take sz) (false :: eturnF f (old.length - st) (lsz sz)) c = loopF h f (old.drop st) (((new.drop st).take sz).take (lsz ((new.drop st).take sz).length)) (eturnF f (old.length - st) (lsz sz)) c := by cases c <;> rfl
          rw [this, hw, en2]
          exact g6
        · rw [et, ← e]
          simp only [List.map_cons]
          rw [forL, ht]
          generalize clD c = Cc at *
          generalize lsI old = Lo at *
          generalize lsI new = Ln at *
          generalize h.d = hd at *
          simp [l91_0, e70, fri]
    · have et : eturnF (f + 1) (old.length - st) sz = [] := by simp [eturnF, q]
      refine ⟨f + 1, st, sz, c, w8, w11, by omega, by omega, h2, h3, h4, ?_, by rw [et]; rfl⟩
      rw [et]
      cases c <;> simp [loopF]
end
end Ev
end
section
set_option maxRecDepth 100000
set_option maxHeartbeats 1000000
/-! Ext8: find_extension_clash, the whole. -/
namespace Ev
section
variable {P : Pg} {s : Sto}
def onlyT : D → Option D
  | .bl true => some (.bl true)
  | _ => none
theorem shp_ii (a b : Int) : shp (.tup [.int a, .int b]) = true := rfl
theorem deq_t2 (a b c d : Int) : deq (.tup [.int a, .int b]) (.tup [.int c, .int d]) = (a == c && b == d) := by simp [deq, deqs]
theorem lc91 {call : CallT} (ts : List Bool) (hl : ts.length ≤ 100) {v0 v1 v2 v3 v5 v6 v7 v9 v10 v11 : Sl} :
    evE P call (.lc (.v 8) (.nm 8) [8] .seq [(.v 4)] [(.v 8)]) ⟨[v0, v1, v2, v3, .own (blL ts), v5, v6, v7, .no, v9, v10, v11], s⟩ = .ok (.tmp (blL (ts.filter id))) ⟨[v0, v1, v2, v3, .own (blL ts), v5, v6, v7, .no, v9, v10, v11], s⟩ := by
  have q : evEs P call [.v 4] ⟨[v0, v1, v2, v3, .own (blL ts), v5, v6, v7, .no, v9, v10, v11], s⟩ = .ok [.bor 4 (blL ts)] ⟨[v0, v1, v2, v3, .own (blL ts), v5, v6, v7, .no, v9, v10, v11], s⟩ := by simp
  rw [ev_lc, q]
  simp only [bind_ok, List.map_cons, List.map_nil, rd_bor]
  have hw : wkD .seq [blL ts] = some (ts.map .bl) := rfl
  rw [hw, ofO_some, bind_ok]
  rw [doLc_fm onlyT (by rw [List.length_map]; exact Nat.le_trans hl (by unfold line; decide)) (by simp [isOwn]) ?_]
  · have : (ts.map D.bl).filterMap onlyT = (ts.filter id).map .bl := by
      clear q hw hl
      induction ts with
      | nil => rfl
      | cons t ts ih =>
        cases t
        · simp only [List.map_cons, List.filterMap_cons, onlyT]; simpa using ih
        · simp only [List.map_cons, List.filterMap_cons, onlyT]; simpa using ih
    rw [this]
    rfl
  · intro x hx
    obtain ⟨b, _, rfl⟩ := List.mem_map.mp hx
    cases b <;> simp [lcF, noex, onlyT]
theorem call91 (H : HasL P) {h : Hs} (ok : h.ok) {old new : List Int} (h0 : 1 ≤ old.length) (h1 : old.length ≤ new.length) (h2 : new.length ≤ 2 ^ 6) (b0 : Int) {bs : List Int} (hb : bs.length = (eturnF 6 old.length new.length).length) {m : Nat} (hm : 14 ≤ m) :
    callN P m 91 [h.d, lsI old, lsI new, lsI (b0 :: bs)] s = .ok (.d (clD (fecF h old new b0 bs))) s := by
  obtain ⟨k, rfl⟩ : ∃ k, m = k + 1 := ⟨m - 1, by omega⟩
  rw [call_eq H.E.p91 rfl]
  have e0 : startL f91.nl [h.d, lsI old, lsI new, lsI (b0 :: bs)] = [.dat h.d, .dat (lsI old), .dat (lsI new), .dat (lsI (b0 :: bs)), .no, .no, .no, .no, .no, .no, .no, .no] := rfl
  have eb : f91.body = b91 := rfl
  rw [e0, eb]
  unfold b91
  have e85 := call85 (s := s) H.E ok h0 h1 h2 b0 hb (m := k) (by omega)
  have e79a := call79 (s := s) H.E.R ok (ds := old) h0 (by omega) (m := k) (by omega)
  have e79b := call79 (s := s) H.E.R ok (ds := new) (by omega) h2 (m := k) (by omega)
  have e84 := call84 (s := s) H.E h0 h1 h2 (m := k) (by omega)
  have fr84 := free_bl (eturnF 6 old.length new.length)
  have e86 := call86 (s := s) H.E ok h0 h1 h2 b0 bs (m := k) (by omega)
  have tl := eturn_len 6 old.length new.length
  have ffl : ((eturnF 6 old.length new.length).filter id).length ≤ 6 := Nat.le_trans (List.length_filter_le _ _) tl
  have e89a := call89 (s := s) H.E ok (ds := old) h0 (by omega) (ts := (eturnF 6 old.length new.length).filter id) (fit_old 6 _ _ h0 h1 h2 (by omega)) ffl (m := k) (by omega)
  have e89b := call89 (s := s) H.E ok (ds := new) (by omega) h2 (ts := eturnF 6 old.length new.length) (fit_new 6 _ _ h0 h1 h2 (by omega)) tl (m := k) (by omega)
  have lp := fun (c : Option (List Int × List Int)) (v4 v5 v6 : Sl) => loop91 (s := s) H ok (k := k) (by omega) (old := old) (new := new) (v3 := .dat (lsI (b0 :: bs))) (v4 := v4) (v5 := v5) (v6 := v6) 6 0 new.length c .no .no (by omega) (by omega) (by omega) h2 (by omega) (by omega)
  simp only [Nat.sub_zero, List.drop_zero, List.take_length] at lp
  unfold fecF
  have ln1 := len_lI old
  have ln2 := len_lI new
  have fri : ∀ i, (Rv.d (.int i)).free = true := fun _ => rfl
  have frt : ∀ a b : Int, (Rv.d (.tup [.int a, .int b])).free = true := fun _ _ => rfl
  generalize hts : eturnF 6 old.length new.length = ts at *
  have e87a := fun (as bs : List (List Int)) => call87 (s := s) H.E h.d as bs (m := k) (by omega)
  generalize climbO h b0 ts.reverse bs = u at *
  generalize climb h b0 ts.reverse bs = v at *
  by_cases q : dig h [6, (old.length : Int), u] = dig h [6, (old.length : Int), partD h 6 old] ∧ dig h [6, (new.length : Int), v] = dig h [6, (new.length : Int), partD h 6 new]
  · rw [if_pos q]
    have qa := q.1
    have qb := q.2
    generalize dig h [6, (old.length : Int), u] = I1 at *
    generalize dig h [6, (new.length : Int), v] = I2 at *
    generalize [6, (old.length : Int), partD h 6 old] :: wayF h 6 old (ts.filter id) = Wo at *
    generalize hWn : [6, (new.length : Int), partD h 6 new] :: wayF h 6 new ts = Wn at *
    generalize dig h [6, (old.length : Int), partD h 6 old] = J1 at *
    generalize dig h [6, (new.length : Int), partD h 6 new] = J2 at *
    generalize befT h old.length b0 ts.reverse bs = Bf at *
    generalize aftT h new.length b0 ts.reverse bs = Af at *
    subst qa qb
    have lc := lc91 (P := P) (s := s) (call := callN P k) ts (by omega) (v0 := .dat h.d) (v1 := .dat (lsI old)) (v2 := .dat (lsI new)) (v3 := .dat (lsI (b0 :: bs))) (v5 := .dat (llL Bf)) (v6 := .dat (llL Af)) (v7 := .no) (v9 := .no) (v10 := .no) (v11 := .no)
    rw [step (c' := ⟨[.dat h.d, .dat (lsI old), .dat (lsI new), .dat (lsI (b0 :: bs)), .no, .no, .no, .no, .no, .no, .no, .no], s⟩) (by
      generalize lsI (b0 :: bs) = Lp at *
      generalize lsI old = Lo at *
      generalize lsI new = Ln at *
      generalize h.d = hd at *
      simp [ln1, ln2, e85, e79a, e79b, fri, frt, shp_ii, deq_t2])]
    rw [step (c' := ⟨[.dat h.d, .dat (lsI old), .dat (lsI new), .dat (lsI (b0 :: bs)), .own (blL ts), .no, .no, .no, .no, .no, .no, .no], s⟩) (by
      generalize lsI (b0 :: bs) = Lp at *
      generalize lsI old = Lo at *
      generalize lsI new = Ln at *
      generalize blL ts = T at *
      generalize h.d = hd at *
      simp [ln1, ln2, e84, fr84])]
    rw [step (c' := ⟨[.dat h.d, .dat (lsI old), .dat (lsI new), .dat (lsI (b0 :: bs)), .own (blL ts), .dat (llL Bf), .dat (llL Af), .no, .no, .no, .no, .no], s⟩) (by
      have la : ∀ (a b : D) (c : C), lay (.tp [5, 6]) (.d (.tup [a, b])) c = .ok .nx ((c.set 5 (.dat a)).set 6 (.dat b)) := fun _ _ _ => rfl
      generalize lsI (b0 :: bs) = Lp at *
      generalize lsI old = Lo at *
      generalize lsI new = Ln at *
      generalize blL ts = T at *
      generalize llL Bf = LB at *
      generalize llL Af = LA at *
      generalize h.d = hd at *
      simp [ln1, ln2, e86, la])]
    have e87 := e87a Wo Bf
    have e87b := e87a Wn Af
    rw [step (c' := ⟨[.dat h.d, .dat (lsI old), .dat (lsI new), .dat (lsI (b0 :: bs)), .own (blL ts), .dat (llL Bf), .dat (llL Af), .dat (clD (unlF Wo Bf)), .no, .no, .no, .no], s⟩) (by
      generalize clD (unlF Wo Bf) = C1 at *
      generalize lsI (b0 :: bs) = Lp at *
      generalize lsI old = Lo at *
      generalize lsI new = Ln at *
      generalize blL ts = T at *
      generalize blL (ts.filter id) = T2 at *
      generalize llL Bf = LB at *
      generalize llL Af = LA at *
      generalize llL Wo = LW at *
      generalize h.d = hd at *
      have lc' := lc
      rw [ev_lc] at lc'
      simp [lc, e89a, e87])]
    obtain ⟨c2, hc2⟩ : ∃ c2, c2 = orE (unlF Wo Bf) (unlF Wn Af) := ⟨_, rfl⟩
    rw [← hc2]
    obtain ⟨v4, hv4, e5⟩ : ∃ v4, Lv (blL ts) v4 ∧ evS P (callN P k) (.ife (.cmp .is (.v 7) .n) [.asg (.nm 7) (.call 87 [(.v 0), (.call 89 [(.v 0), (.v 2), (.v 4)]), (.v 6)])] [])
        ⟨[.dat h.d, .dat (lsI old), .dat (lsI new), .dat (lsI (b0 :: bs)), .own (blL ts), .dat (llL Bf), .dat (llL Af), .dat (clD (unlF Wo Bf)), .no, .no, .no, .no], s⟩ =
        .ok .nx ⟨[.dat h.d, .dat (lsI old), .dat (lsI new), .dat (lsI (b0 :: bs)), v4, .dat (llL Bf), .dat (llL Af), .dat (clD c2), .no, .no, .no, .no], s⟩ := by
      rw [hc2]
      cases unlF Wo Bf with
      | none =>
        refine ⟨.dat (blL ts), .inr rfl, ?_⟩
        have cn : clD none = .non := rfl
        have ce : orE none (unlF Wn Af) = unlF Wn Af := rfl
        rw [cn, ce]
        have nf : (Rv.own (llL Wn)).free = false := by
          rw [← hWn]; rfl
        generalize clD (unlF Wn Af) = C1 at *
        generalize lsI (b0 :: bs) = Lp at *
        generalize lsI old = Lo at *
        generalize lsI new = Ln at *
        generalize blL ts = T at *
        generalize llL Bf = LB at *
        generalize llL Af = LA at *
        generalize llL Wn = LW at *
        generalize h.d = hd at *
        simp [e89b, e87b, nf]
      | some x =>
        refine ⟨.own (blL ts), .inl rfl, ?_⟩
        obtain ⟨xa, xb⟩ := x
        have cn : clD (some (xa, xb)) = .tup [lsI xa, lsI xb] := rfl
        have ce : orE (some (xa, xb)) (unlF Wn Af) = some (xa, xb) := rfl
        simp only [ce, cn]
        generalize lsI xa = Xa at *
        generalize lsI xb = Xb at *
        generalize blL ts = T at *
        generalize h.d = hd at *
        simp
    rw [step e5]
    obtain ⟨f', st', sz', c', w8', w11', g1, g2, g3, g4, g5, g6, e⟩ := lp c2 v4 (.dat (llL Bf)) (.dat (llL Af))
    have hw : wkD .seq [blL ts] = some (ts.map .bl) := rfl
    rw [step (c' := ⟨[.dat h.d, .dat (lsI old), .dat (lsI new), .dat (lsI (b0 :: bs)), v4, .dat (llL Bf), .dat (llL Af), .dat (clD c2), .no, .dat (.int (0 : Nat)), .no, .no], s⟩) (by simp)]
    rw [step (c' := ⟨[.dat h.d, .dat (lsI old), .dat (lsI new), .dat (lsI (b0 :: bs)), v4, .dat (llL Bf), .dat (llL Af), .dat (clD c2), .no, .dat (.int (0 : Nat)), .dat (.int new.length), .no], s⟩) (by
      generalize lsI new = Ln at *
      generalize h.d = hd at *
      simp [ln2])]
    rw [step (c' := ⟨[.dat h.d, .dat (lsI old), .dat (lsI new), .dat (lsI (b0 :: bs)), v4, .dat (llL Bf), .dat (llL Af), .dat (clD c'), w8', .dat (.int st'), .dat (.int sz'), w11'], s⟩) (by
      rw [← e, es_forr]
      rcases hv4 with rfl | rfl
      · simp only [lvs_cons, evs_nil, ev_v, get_mk, getS_succ, getS_zero, bind_ok, kq_es, kq_es2]
        exact for_bor hw (by simp only [keepsV, Bool.and_true]; decide)
      · simp only [lvs_cons, evs_nil, ev_v, get_mk, getS_succ, getS_zero, bind_ok, kq_es, kq_es2]
        exact forL_d hw)]
    rw [← g6]
    have e90 := call90 (s := s) H.E ok f' (old.drop st') ((new.drop st').take sz') k (by rw [List.length_take, List.length_drop, List.length_drop]; omega) (by rw [List.length_drop]; omega) (by rw [List.length_drop]; omega) (by omega) (by omega)
    have c3 := cut_drop old st'
    have c4 := cut_part new st' sz'
    cases c' with
    | none =>
      have cn : clD none = .non := rfl
      rw [cn]
      simp only
      generalize clD (fpc h f' (old.drop st') ((new.drop st').take sz')) = C1 at *
      generalize lsI (old.drop st') = L1 at *
      generalize lsI ((new.drop st').take sz') = L2 at *
      generalize lsI (b0 :: bs) = Lp at *
      generalize lsI old = Lo at *
      generalize lsI new = Ln at *
      generalize h.d = hd at *
      simp [c3, c4, e90]
    | some x =>
      obtain ⟨xa, xb⟩ := x
      have cn : clD (some (xa, xb)) = .tup [lsI xa, lsI xb] := rfl
      simp only [cn]
      generalize lsI xa = Xa at *
      generalize lsI xb = Xb at *
      generalize h.d = hd at *
      simp
  · rw [if_neg q]
    generalize dig h [6, (old.length : Int), u] = I1 at *
    generalize dig h [6, (new.length : Int), v] = I2 at *
    generalize dig h [6, (old.length : Int), partD h 6 old] = J1 at *
    generalize dig h [6, (new.length : Int), partD h 6 new] = J2 at *
    have cn : clD none = .non := rfl
    rw [cn]
    generalize lsI (b0 :: bs) = Lp at *
    generalize lsI old = Lo at *
    generalize lsI new = Ln at *
    generalize h.d = hd at *
    have dq : deq (.tup [.int I1, .int I2]) (.tup [.int J1, .int J2]) = false := by
      rw [deq_t2]
      by_cases q1 : I1 = J1
      · have q2 : ¬ I2 = J2 := fun z => q ⟨q1, z⟩
        simp [q2]
      · simp [q1]
    simp [ln1, ln2, e85, e79a, e79b, fri, frt, shp_ii, dq]
end
end Ev
end
section
set_option maxRecDepth 100000
set_option maxHeartbeats 1000000
/-! Ext9: extension clashes, plainly. -/
namespace Ev
theorem partD_st (h : Hs) : ∀ (f g : Nat) (ds : List Int), 1 ≤ ds.length → ds.length ≤ 2 ^ f → f ≤ g → g ≤ 6 → partD h g ds = partD h f ds
  | 0, g, ds, h1, h2, _, _ => by
    have q : ds.length = 1 := by simp at h2; omega
    cases g <;> simp [partD, q]
  | f + 1, 0, ds, _, _, h, _ => by omega
  | f + 1, g + 1, ds, h1, h2, h3, h4 => by
    rw [partD_s, partD_s]
    by_cases q : ds.length = 1
    · rw [if_pos q, if_pos q]
    · have hn : ds.length < 65 := by
        have : 2 ^ (f + 1) ≤ 2 ^ 6 := Nat.pow_le_pow_right (by decide) (by omega)
        omega
      have lf := lsz_facts ds.length hn (by omega)
      have lp := lsz_pow f (by omega) ds.length hn (by omega) h2
      have lt : (ds.take (lsz ds.length)).length = lsz ds.length := by rw [List.length_take]; omega
      have ld : (ds.drop (lsz ds.length)).length = ds.length - lsz ds.length := List.length_drop
      rw [if_neg q, if_neg q, partD_st h f g _ (by omega) (by omega) (by omega) (by omega), partD_st h f g (ds.drop (lsz ds.length)) (by omega) (by omega) (by omega) (by omega)]
theorem partIn_s (h : Hs) (f : Nat) (ds : List Int) : partIn h (f + 1) ds = if ds.length = 1 then [4, ds.getD 0 0] else [5, partD h f (ds.take (lsz ds.length)), partD h f (ds.drop (lsz ds.length))] := rfl
theorem partIn_st (h : Hs) : ∀ (f g : Nat) (ds : List Int), 1 ≤ ds.length → ds.length ≤ 2 ^ f → f ≤ g → g ≤ 6 → partIn h g ds = partIn h f ds
  | 0, g, ds, h1, h2, _, _ => by
    have q : ds.length = 1 := by simp at h2; omega
    cases g <;> simp [partIn, q]
  | f + 1, 0, ds, _, _, h, _ => by omega
  | f + 1, g + 1, ds, h1, h2, h3, h4 => by
    rw [partIn_s, partIn_s]
    by_cases q : ds.length = 1
    · rw [if_pos q, if_pos q]
    · have hn : ds.length < 65 := by
        have : 2 ^ (f + 1) ≤ 2 ^ 6 := Nat.pow_le_pow_right (by decide) (by omega)
        omega
      have lf := lsz_facts ds.length hn (by omega)
      have lp := lsz_pow f (by omega) ds.length hn (by omega) h2
      have lt : (ds.take (lsz ds.length)).length = lsz ds.length := by rw [List.length_take]; omega
      have ld : (ds.drop (lsz ds.length)).length = ds.length - lsz ds.length := List.length_drop
      rw [if_neg q, if_neg q, partD_st h f g _ (by omega) (by omega) (by omega) (by omega), partD_st h f g (ds.drop (lsz ds.length)) (by omega) (by omega) (by omega) (by omega)]
theorem wayF_st (h : Hs) : ∀ (f g : Nat) (ds : List Int) (ts : List Bool), 1 ≤ ds.length → ds.length ≤ 2 ^ f → f ≤ g → g ≤ 6 → fitT f ds.length ts → wayF h g ds ts = wayF h f ds ts
  | f, g, ds, [], _, _, _, _, _ => by cases f <;> cases g <;> rfl
  | 0, g, ds, _ :: _, _, _, _, _, hf => False.elim hf
  | f + 1, 0, ds, _ :: _, _, _, h, _, _ => by omega
  | f + 1, g + 1, ds, r :: ts, h1, h2, h3, h4, ⟨hf1, hf2⟩ => by
    have hn : ds.length < 65 := by
      have : 2 ^ (f + 1) ≤ 2 ^ 6 := Nat.pow_le_pow_right (by decide) (by omega)
      omega
    have lf := lsz_facts ds.length hn (by omega)
    have lp := lsz_pow f (by omega) ds.length hn (by omega) h2
    have lt : (ds.take (lsz ds.length)).length = lsz ds.length := by rw [List.length_take]; omega
    have ld : (ds.drop (lsz ds.length)).length = ds.length - lsz ds.length := List.length_drop
    simp only [wayF]
    rw [partIn_st h (f + 1) (g + 1) ds h1 h2 h3 h4]
    cases r with
    | true =>
      rw [if_pos rfl, wayF_st h f g (ds.drop (lsz ds.length)) ts (by omega) (by omega) (by omega) (by omega) (by rw [ld]; rw [if_pos rfl] at hf2; exact hf2)]
    | false =>
      rw [if_neg (by decide), wayF_st h f g (ds.take (lsz ds.length)) ts (by omega) (by omega) (by omega) (by omega) (by rw [lt]; rw [if_neg (by decide)] at hf2; exact hf2)]
theorem climbO_app (h : Hs) : ∀ (rs : List Bool) (bs : List Int) (v : Int) (r : Bool) (b : Int), rs.length = bs.length → climbO h v (rs ++ [r]) (bs ++ [b]) = if r then dig h [5, b, climbO h v rs bs] else climbO h v rs bs
  | [], [], v, r, b, _ => by cases r <;> rfl
  | true :: rs, y :: bs, v, r, b, e => by
    simp only [List.cons_append, climbO]
    exact climbO_app h rs bs _ r b (by simpa using e)
  | false :: rs, y :: bs, v, r, b, e => by
    simp only [List.cons_append, climbO]
    exact climbO_app h rs bs _ r b (by simpa using e)
  | [], _ :: _, _, _, _, e => by simp at e
  | true :: _, [], _, _, _, e => by simp at e
  | false :: _, [], _, _, _, e => by simp at e
theorem befF_app (h : Hs) : ∀ (rs : List Bool) (bs : List Int) (v : Int) (r : Bool) (b : Int), rs.length = bs.length → befF h v (rs ++ [r]) (bs ++ [b]) = befF h v rs bs ++ if r then [[5, b, climbO h v rs bs]] else []
  | [], [], v, r, b, _ => by cases r <;> rfl
  | true :: rs, y :: bs, v, r, b, e => by
    simp only [List.cons_append, befF, climbO]
    rw [befF_app h rs bs _ r b (by simpa using e)]
  | false :: rs, y :: bs, v, r, b, e => by
    simp only [List.cons_append, befF, climbO]
    exact befF_app h rs bs _ r b (by simpa using e)
  | [], _ :: _, _, _, _, e => by simp at e
  | true :: _, [], _, _, _, e => by simp at e
  | false :: _, [], _, _, _, e => by simp at e
theorem aftF_app (h : Hs) : ∀ (rs : List Bool) (bs : List Int) (v : Int) (r : Bool) (b : Int), rs.length = bs.length → aftF h v (rs ++ [r]) (bs ++ [b]) = aftF h v rs bs ++ [stepIn (climb h v rs bs) r b]
  | [], [], v, r, b, _ => rfl
  | x :: rs, y :: bs, v, r, b, e => by
    simp only [List.cons_append, aftF, climb]
    rw [aftF_app h rs bs _ r b (by simpa using e)]
  | [], _ :: _, _, _, _, e => by simp at e
  | _ :: _, [], _, _, _, e => by simp at e
theorem fpc_none (h : Hs) : ∀ (f : Nat) (a b : List Int), a.length = b.length → 1 ≤ a.length → a.length ≤ 2 ^ f → f ≤ 6 → partD h f a = partD h f b → fpc h f a b = none → a = b
  | 0, a, b, _, _, _, _, e, hc => by
    by_cases q : a = b
    · exact q
    · exfalso
      simp only [fpc] at hc
      rw [if_neg (by rintro (z | z); exact q z; exact z e)] at hc
      cases hc
  | f + 1, a, b, hab, h1, h2, h3, e, hc => by
    by_cases q : a = b
    · exact q
    · exfalso
      unfold fpc at hc
      rw [if_neg (by rintro (z | z); exact q z; exact z e)] at hc
      by_cases q1 : a.length = 1
      · rw [if_pos q1] at hc; cases hc
      · rw [if_neg q1] at hc
        have hn : a.length < 65 := by
          have : 2 ^ (f + 1) ≤ 2 ^ 6 := Nat.pow_le_pow_right (by decide) h3
          omega
        have lf := lsz_facts a.length hn (by omega)
        have lp := lsz_pow f (by omega) a.length hn (by omega) h2
        have lt : (a.take (lsz a.length)).length = lsz a.length := by rw [List.length_take]; omega
        have ld : (a.drop (lsz a.length)).length = a.length - lsz a.length := List.length_drop
        have lt2 : (b.take (lsz a.length)).length = lsz a.length := by rw [List.length_take]; omega
        have ld2 : (b.drop (lsz a.length)).length = b.length - lsz a.length := List.length_drop
        by_cases q2 : partIn h (f + 1) a = partIn h (f + 1) b
        · rw [if_pos q2] at hc
          have ea : partIn h (f + 1) a = [5, partD h f (a.take (lsz a.length)), partD h f (a.drop (lsz a.length))] := by simp [partIn, q1]
          have eb : partIn h (f + 1) b = [5, partD h f (b.take (lsz a.length)), partD h f (b.drop (lsz a.length))] := by
            have q1' : ¬ b.length = 1 := by omega
            simp [partIn, q1', hab]
          rw [ea, eb] at q2
          simp only [List.cons.injEq, and_true, true_and] at q2
          split at hc
          · cases hc
          · rename_i hc1
            have t1 := fpc_none h f _ _ (by omega) (by omega) (by omega) (by omega) q2.1 hc1
            have t2 := fpc_none h f _ _ (by omega) (by omega) (by omega) (by omega) q2.2 hc
            exact q (by rw [← List.take_append_drop (lsz a.length) a, ← List.take_append_drop (lsz a.length) b, t1, t2])
        · rw [if_neg q2] at hc; cases hc
theorem loopF_some (h : Hs) (x : List Int × List Int) : ∀ (f : Nat) (o w : List Int) (ts : List Bool), loopF h f o w ts (some x) = some x
  | 0, o, w, [] => rfl
  | 0, o, w, _ :: _ => rfl
  | f + 1, o, w, [] => rfl
  | f + 1, o, w, true :: ts => loopF_some h x f _ _ ts
  | f + 1, o, w, false :: ts => loopF_some h x f _ _ ts
theorem unlF_cons {a b : List Int} {as bs : List (List Int)} (e : unlF (a :: as) (b :: bs) = none) : a = b ∧ unlF as bs = none := by
  unfold unlF at e
  split at e
  · exact ⟨by assumption, e⟩
  · cases e
/-- nothing found: the older row is the newer one's beginning -/
theorem ext_sound (h : Hs) : ∀ (f : Nat) (o w : List Int) (b0 : Int) (bs : List Int), 1 ≤ o.length → o.length ≤ w.length → w.length ≤ 2 ^ f → f ≤ 6 → bs.length = (eturnF f o.length w.length).length →
    partD h f o = climbO h b0 (eturnF f o.length w.length).reverse bs.reverse → partD h f w = climb h b0 (eturnF f o.length w.length).reverse bs.reverse →
    unlF (wayF h f o ((eturnF f o.length w.length).filter id)) (befF h b0 (eturnF f o.length w.length).reverse bs.reverse).reverse = none →
    unlF (wayF h f w (eturnF f o.length w.length)) (aftF h b0 (eturnF f o.length w.length).reverse bs.reverse).reverse = none →
    loopF h f o w (eturnF f o.length w.length) none = none → o = w.take o.length
  | 0, o, w, b0, bs, h1, h2, h3, h4, hb, e1, e2, u1, u2, lp => by
    have q : o.length = w.length := by simp at h3; omega
    simp only [eturnF, List.length_nil] at *
    have hbs : bs = [] := List.length_eq_zero_iff.mp hb
    subst hbs
    have e1 : partD h 0 o = b0 := e1
    have e2 : partD h 0 w = b0 := e2
    have := fpc_none h 0 o w q h1 (by omega) (by omega) (by rw [e1, e2]) (by simpa [loopF] using lp)
    rw [q, List.take_length]; exact this
  | f + 1, o, w, b0, bs, h1, h2, h3, h4, hb, e1, e2, u1, u2, lp => by
    by_cases q : o.length < w.length
    · have hn : w.length < 65 := by
        have : 2 ^ (f + 1) ≤ 2 ^ 6 := Nat.pow_le_pow_right (by decide) h4
        omega
      have lf := lsz_facts w.length hn (by omega)
      have lq := lsz_pow f (by omega) w.length hn (by omega) h3
      have ltw : (w.take (lsz w.length)).length = lsz w.length := by rw [List.length_take]; omega
      have ldw : (w.drop (lsz w.length)).length = w.length - lsz w.length := List.length_drop
      by_cases q3 : lsz w.length < o.length
      · have el := lsz_old w.length hn o.length (by omega) q3 h2
        have lto : (o.take (lsz w.length)).length = lsz w.length := by rw [List.length_take]; omega
        have ldo : (o.drop (lsz w.length)).length = o.length - lsz w.length := List.length_drop
        have et : eturnF (f + 1) o.length w.length = true :: eturnF f (o.drop (lsz w.length)).length (w.drop (lsz w.length)).length := by
          rw [ldo, ldw]; simp only [eturnF, if_pos q, if_pos q3]
        rw [et] at hb e1 e2 u1 u2 lp
        have ih := ext_sound h f (o.drop (lsz w.length)) (w.drop (lsz w.length)) b0
        generalize eturnF f (o.drop (lsz w.length)).length (w.drop (lsz w.length)).length = ts at *
        cases bs with
        | nil => simp at hb
        | cons b bs =>
          simp only [List.length_cons, Nat.add_right_cancel_iff] at hb
          rw [List.reverse_cons, List.reverse_cons, climbO_app _ _ _ _ _ _ (by simp; omega)] at e1
          rw [List.reverse_cons, List.reverse_cons, climb_app _ _ _ _ _ _ (by simp; omega)] at e2
          rw [List.reverse_cons, List.reverse_cons, befF_app _ _ _ _ _ _ (by simp; omega), if_pos rfl, List.reverse_append] at u1
          rw [List.reverse_cons, List.reverse_cons, aftF_app _ _ _ _ _ _ (by simp; omega), List.reverse_append] at u2
          have q1 : ¬ o.length = 1 := by omega
          have q2 : ¬ w.length = 1 := by omega
          have eo : wayF h (f + 1) o ((true :: ts).filter id) = [5, partD h f (o.take (lsz w.length)), partD h f (o.drop (lsz w.length))] :: wayF h f (o.drop (lsz w.length)) (ts.filter id) := by
            show wayF h (f + 1) o (true :: ts.filter id) = _
            simp [wayF, partIn, q1, el]
          have ew : wayF h (f + 1) w (true :: ts) = [5, partD h f (w.take (lsz w.length)), partD h f (w.drop (lsz w.length))] :: wayF h f (w.drop (lsz w.length)) ts := by
            simp [wayF, partIn, q2]
          rw [eo] at u1
          rw [ew] at u2
          obtain ⟨a1, a2⟩ := unlF_cons u1
          obtain ⟨c1, c2⟩ := unlF_cons u2
          have c1 : [5, partD h f (w.take (lsz w.length)), partD h f (w.drop (lsz w.length))] = [5, b, climb h b0 ts.reverse bs.reverse] := c1
          simp only [List.cons.injEq, and_true, true_and] at a1 c1
          have lp : loopF h f (o.drop (lsz w.length)) (w.drop (lsz w.length)) ts (fpc h f (o.take (lsz w.length)) (w.take (lsz w.length))) = none := lp
          cases hf : fpc h f (o.take (lsz w.length)) (w.take (lsz w.length)) with
          | some x => rw [hf, loopF_some] at lp; cases lp
          | none =>
            rw [hf] at lp
            have t1 := fpc_none h f _ _ (by omega) (by omega) (by omega) (by omega) (by rw [a1.1, c1.1]) hf
            have t2 := ih bs (by omega) (by omega) (by omega) (by omega) hb a1.2 c1.2 a2 c2 lp
            rw [ldo] at t2
            have : o.length = lsz w.length + (o.length - lsz w.length) := by omega
            rw [this, List.take_add, ← t1, ← t2, List.take_append_drop]
      · have et : eturnF (f + 1) o.length w.length = false :: eturnF f o.length (w.take (lsz w.length)).length := by
          rw [ltw]; simp only [eturnF, if_pos q, if_neg q3]
        have ff := fit_old f o.length (w.take (lsz w.length)).length h1 (by omega) (by omega) (by omega)
        rw [et] at hb e1 e2 u1 u2 lp
        have ih := ext_sound h f o (w.take (lsz w.length)) b0
        generalize eturnF f o.length (w.take (lsz w.length)).length = ts at *
        cases bs with
        | nil => simp at hb
        | cons b bs =>
          simp only [List.length_cons, Nat.add_right_cancel_iff] at hb
          rw [List.reverse_cons, List.reverse_cons, climbO_app _ _ _ _ _ _ (by simp; omega), if_neg (by decide), partD_st h f (f + 1) o h1 (by omega) (by omega) h4] at e1
          rw [List.reverse_cons, List.reverse_cons, climb_app _ _ _ _ _ _ (by simp; omega)] at e2
          rw [List.reverse_cons, List.reverse_cons, befF_app _ _ _ _ _ _ (by simp; omega), if_neg (by decide), List.append_nil] at u1
          rw [List.reverse_cons, List.reverse_cons, aftF_app _ _ _ _ _ _ (by simp; omega), List.reverse_append] at u2
          have q2 : ¬ w.length = 1 := by omega
          have eo : wayF h (f + 1) o ((false :: ts).filter id) = wayF h f o (ts.filter id) := wayF_st h f (f + 1) o (ts.filter id) h1 (by omega) (by omega) h4 ff
          have ew : wayF h (f + 1) w (false :: ts) = [5, partD h f (w.take (lsz w.length)), partD h f (w.drop (lsz w.length))] :: wayF h f (w.take (lsz w.length)) ts := by
            simp [wayF, partIn, q2]
          rw [eo] at u1
          rw [ew] at u2
          obtain ⟨c1, c2⟩ := unlF_cons u2
          have c1 : [5, partD h f (w.take (lsz w.length)), partD h f (w.drop (lsz w.length))] = [5, climb h b0 ts.reverse bs.reverse, b] := c1
          simp only [List.cons.injEq, and_true, true_and] at c1
          have lp : loopF h f o (w.take (lsz w.length)) ts none = none := lp
          have t2 := ih bs h1 (by omega) (by omega) (by omega) hb e1 c1.1 u1 c2 lp
          rw [List.take_take] at t2
          rw [show o.length = min o.length (lsz w.length) by omega]
          exact t2
    · have qe : o.length = w.length := by omega
      have et : eturnF (f + 1) o.length w.length = [] := by simp [eturnF, q]
      rw [et] at hb e1 e2 lp
      have hbs : bs = [] := List.length_eq_zero_iff.mp hb
      subst hbs
      have e1 : partD h (f + 1) o = b0 := e1
      have e2 : partD h (f + 1) w = b0 := e2
      have := fpc_none h (f + 1) o w qe h1 (by omega) h4 (by rw [e1, e2]) (by simpa [loopF] using lp)
      rw [qe, List.take_length]; exact this
end Ev
end
section
set_option maxRecDepth 100000
set_option maxHeartbeats 1000000
/-! Ext10: own papers show no clash; what a clash is. -/
namespace Ev
theorem fpc_self (h : Hs) (f : Nat) (a : List Int) : fpc h f a a = none := by cases f <;> simp [fpc]
theorem extF_s (h : Hs) (f : Nat) (ds : List Int) (m : Nat) : extF h (f + 1) ds m = if m = ds.length then [partD h (f + 1) ds] else
    if m ≤ lsz ds.length then extF h f (ds.take (lsz ds.length)) m ++ [partD h f (ds.drop (lsz ds.length))]
    else extF h f (ds.drop (lsz ds.length)) (m - lsz ds.length) ++ [partD h f (ds.take (lsz ds.length))] := rfl
theorem ext_complete (h : Hs) : ∀ (f : Nat) (ds : List Int) (m : Nat), 1 ≤ m → m ≤ ds.length → ds.length ≤ 2 ^ f → f ≤ 6 →
    ∃ b0 bs, extF h f ds m = b0 :: bs ∧ bs.length = (eturnF f m ds.length).length ∧ climbO h b0 (eturnF f m ds.length).reverse bs = partD h f (ds.take m) ∧ climb h b0 (eturnF f m ds.length).reverse bs = partD h f ds ∧
      (befF h b0 (eturnF f m ds.length).reverse bs).reverse = wayF h f (ds.take m) ((eturnF f m ds.length).filter id) ∧ (aftF h b0 (eturnF f m ds.length).reverse bs).reverse = wayF h f ds (eturnF f m ds.length) ∧
      loopF h f (ds.take m) ds (eturnF f m ds.length) none = none
  | 0, ds, m, h0, h1, h2, _ => by
    have q : m = ds.length := by simp at h2; omega
    have e : ds.take m = ds := by rw [q, List.take_length]
    rw [e]
    exact ⟨partD h 0 ds, [], rfl, rfl, rfl, rfl, rfl, rfl, by simp [eturnF, loopF, fpc_self]⟩
  | f + 1, ds, m, h0, h1, h2, h3 => by
    rw [extF_s]
    by_cases q : m = ds.length
    · have q' : ¬ m < ds.length := by omega
      have et : eturnF (f + 1) m ds.length = [] := by simp [eturnF, q']
      have e : ds.take m = ds := by rw [q, List.take_length]
      rw [if_pos q, et, e]
      exact ⟨partD h (f + 1) ds, [], rfl, rfl, rfl, rfl, rfl, rfl, by simp [loopF, fpc_self]⟩
    · have hn : ds.length < 65 := by
        have : 2 ^ (f + 1) ≤ 2 ^ 6 := Nat.pow_le_pow_right (by decide) h3
        omega
      have q2 : m < ds.length := by omega
      have q1 : ¬ ds.length = 1 := by omega
      have lf := lsz_facts ds.length hn (by omega)
      have lp := lsz_pow f (by omega) ds.length hn (by omega) h2
      have lt : (ds.take (lsz ds.length)).length = lsz ds.length := by rw [List.length_take]; omega
      have ld : (ds.drop (lsz ds.length)).length = ds.length - lsz ds.length := List.length_drop
      have lm : (ds.take m).length = m := by rw [List.length_take]; omega
      rw [if_neg q]
      by_cases q3 : m ≤ lsz ds.length
      · have q4 : ¬ lsz ds.length < m := by omega
        have et : eturnF (f + 1) m ds.length = false :: eturnF f m (ds.take (lsz ds.length)).length := by rw [lt]; simp only [eturnF, if_pos q2, if_neg q4]
        have ff := fit_old f m (ds.take (lsz ds.length)).length h0 (by omega) (by omega) (by omega)
        obtain ⟨b0, bs, i1, i2, i3, i4, i5, i6, i7⟩ := ext_complete h f (ds.take (lsz ds.length)) m h0 (by omega) (by omega) (by omega)
        have tt : (ds.take (lsz ds.length)).take m = ds.take m := by rw [List.take_take]; congr 1; omega
        rw [tt] at i3 i5 i7
        rw [if_pos q3, et, i1]
        generalize eturnF f m (ds.take (lsz ds.length)).length = ts at *
        have hl : ts.reverse.length = bs.length := by rw [List.length_reverse, i2]
        refine ⟨b0, bs ++ [partD h f (ds.drop (lsz ds.length))], rfl, by simp [i2], ?_, ?_, ?_, ?_, ?_⟩
        · rw [List.reverse_cons, climbO_app _ _ _ _ _ _ hl, if_neg (by decide), i3, partD_st h f (f + 1) (ds.take m) (by omega) (by omega) (by omega) h3]
        · rw [List.reverse_cons, climb_app _ _ _ _ _ _ hl, i4, partD_s, if_neg q1]; rfl
        · rw [List.reverse_cons, befF_app _ _ _ _ _ _ hl, if_neg (by decide), List.append_nil, i5]
          show _ = wayF h (f + 1) (ds.take m) (ts.filter id)
          rw [wayF_st h f (f + 1) (ds.take m) (ts.filter id) (by omega) (by omega) (by omega) h3 (by rw [lm]; exact ff)]
        · rw [List.reverse_cons, aftF_app _ _ _ _ _ _ hl, List.reverse_append, i6, i4]
          simp [wayF, partIn, q1, stepIn]
        · show loopF h f (ds.take m) (ds.take (lsz ds.length)) ts none = none
          exact i7
      · have q4 : lsz ds.length < m := by omega
        have el := lsz_old ds.length hn m (by omega) q4 h1
        have et : eturnF (f + 1) m ds.length = true :: eturnF f (m - lsz ds.length) (ds.drop (lsz ds.length)).length := by rw [ld]; simp only [eturnF, if_pos q2, if_pos q4]
        obtain ⟨b0, bs, i1, i2, i3, i4, i5, i6, i7⟩ := ext_complete h f (ds.drop (lsz ds.length)) (m - lsz ds.length) (by omega) (by omega) (by omega) (by omega)
        have tt : (ds.drop (lsz ds.length)).take (m - lsz ds.length) = (ds.take m).drop (lsz ds.length) := by rw [List.drop_take]
        have t2 : (ds.take m).take (lsz ds.length) = ds.take (lsz ds.length) := by rw [List.take_take]; congr 1; omega
        have q5 : ¬ m = 1 := by omega
        rw [tt] at i3 i5 i7
        rw [if_neg q3, et, i1]
        generalize eturnF f (m - lsz ds.length) (ds.drop (lsz ds.length)).length = ts at *
        have hl : ts.reverse.length = bs.length := by rw [List.length_reverse, i2]
        have ep : partIn h (f + 1) (ds.take m) = [5, partD h f (ds.take (lsz ds.length)), partD h f ((ds.take m).drop (lsz ds.length))] := by
          rw [partIn_s, lm, if_neg q5, el, t2]
        refine ⟨b0, bs ++ [partD h f (ds.take (lsz ds.length))], rfl, by simp [i2], ?_, ?_, ?_, ?_, ?_⟩
        · rw [List.reverse_cons, climbO_app _ _ _ _ _ _ hl, if_pos rfl, i3, ← ep, dig_partIn]
        · rw [List.reverse_cons, climb_app _ _ _ _ _ _ hl, i4, partD_s, if_neg q1]; rfl
        · rw [List.reverse_cons, befF_app _ _ _ _ _ _ hl, if_pos rfl, List.reverse_append, i5, i3]
          show _ = wayF h (f + 1) (ds.take m) (true :: ts.filter id)
          simp only [wayF, ep, lm, el, if_true]
          rfl
        · rw [List.reverse_cons, aftF_app _ _ _ _ _ _ hl, List.reverse_append, i6, i4]
          simp [wayF, partIn, q1, stepIn]
        · show loopF h f ((ds.take m).drop (lsz ds.length)) (ds.drop (lsz ds.length)) ts (fpc h f ((ds.take m).take (lsz ds.length)) (ds.take (lsz ds.length))) = none
          rw [t2, fpc_self]
          exact i7
/-! membership -/
theorem lawIn_s (h : Hs) (f : Nat) (ds : List Int) : lawIn h (f + 1) ds = if ds.length = 1 then [[4, ds.getD 0 0]] else lawIn h f (ds.take (lsz ds.length)) ++ lawIn h f (ds.drop (lsz ds.length)) ++ [partIn h (f + 1) ds] := rfl
theorem lawIn_st (h : Hs) : ∀ (f g : Nat) (ds : List Int), 1 ≤ ds.length → ds.length ≤ 2 ^ f → f ≤ g → g ≤ 6 → lawIn h g ds = lawIn h f ds
  | 0, g, ds, h1, h2, _, _ => by
    have q : ds.length = 1 := by simp at h2; omega
    cases g <;> simp [lawIn, q]
  | f + 1, 0, ds, _, _, h, _ => by omega
  | f + 1, g + 1, ds, h1, h2, h3, h4 => by
    rw [lawIn_s, lawIn_s]
    by_cases q : ds.length = 1
    · rw [if_pos q, if_pos q]
    · have hn : ds.length < 65 := by
        have : 2 ^ (f + 1) ≤ 2 ^ 6 := Nat.pow_le_pow_right (by decide) (by omega)
        omega
      have lf := lsz_facts ds.length hn (by omega)
      have lp := lsz_pow f (by omega) ds.length hn (by omega) h2
      have lt : (ds.take (lsz ds.length)).length = lsz ds.length := by rw [List.length_take]; omega
      have ld : (ds.drop (lsz ds.length)).length = ds.length - lsz ds.length := List.length_drop
      rw [if_neg q, if_neg q, lawIn_st h f g _ (by omega) (by omega) (by omega) (by omega), lawIn_st h f g (ds.drop (lsz ds.length)) (by omega) (by omega) (by omega) (by omega), partIn_st h (f + 1) (g + 1) ds h1 h2 h3 h4]
theorem part_mem (h : Hs) (f : Nat) (ds : List Int) : partIn h f ds ∈ lawIn h f ds := by
  cases f with
  | zero => simp [partIn, lawIn]
  | succ f =>
    rw [lawIn_s]
    by_cases q : ds.length = 1
    · simp [partIn, q]
    · rw [if_neg q]; simp
theorem bef_mem (h : Hs) : ∀ (rs : List Bool) (bs : List Int) (u v : Int) (x : List Int), x ∈ befF h u rs bs → x ∈ toldIn h u v rs bs
  | true :: rs, b :: bs, u, v, x, hx => by
    simp only [befF, List.mem_cons] at hx
    simp only [toldIn, List.mem_cons]
    rcases hx with rfl | hx
    · exact .inl rfl
    · exact .inr (.inr (bef_mem h rs bs _ _ x hx))
  | false :: rs, b :: bs, u, v, x, hx => by
    simp only [befF] at hx
    simp only [toldIn, List.mem_cons]
    exact .inr (bef_mem h rs bs _ _ x hx)
  | [], _, _, _, x, hx => by simp [befF] at hx
  | true :: _, [], _, _, x, hx => by simp [befF] at hx
  | false :: _, [], _, _, x, hx => by simp [befF] at hx
theorem aft_mem (h : Hs) : ∀ (rs : List Bool) (bs : List Int) (u v : Int) (x : List Int), x ∈ aftF h v rs bs → x ∈ toldIn h u v rs bs
  | true :: rs, b :: bs, u, v, x, hx => by
    simp only [aftF, List.mem_cons] at hx
    simp only [toldIn, List.mem_cons]
    rcases hx with rfl | hx
    · exact .inr (.inl rfl)
    · exact .inr (.inr (aft_mem h rs bs _ _ x hx))
  | false :: rs, b :: bs, u, v, x, hx => by
    simp only [aftF, List.mem_cons] at hx
    simp only [toldIn, List.mem_cons]
    rcases hx with rfl | hx
    · exact .inl rfl
    · exact .inr (aft_mem h rs bs _ _ x hx)
  | [], _, _, _, x, hx => by simp [aftF] at hx
  | true :: _, [], _, _, x, hx => by simp [aftF] at hx
  | false :: _, [], _, _, x, hx => by simp [aftF] at hx
theorem fpc_some (h : Hs) : ∀ (f : Nat) (a b : List Int) (x y : List Int), a.length = b.length → 1 ≤ a.length → a.length ≤ 2 ^ f → f ≤ 6 → fpc h f a b = some (x, y) → x ≠ y ∧ dig h x = dig h y ∧ x ∈ lawIn h f a ∧ y ∈ lawIn h f b := by
  have one : ∀ (f : Nat) (a b x y : List Int), a.length = b.length → a.length = 1 → ¬ (a = b) → partD h f a = partD h f b → some ([4, a.getD 0 0], [4, b.getD 0 0]) = some (x, y) → x ≠ y ∧ dig h x = dig h y ∧ x ∈ lawIn h f a ∧ y ∈ lawIn h f b := by
    intro f a b x y hab h1 q e hc
    cases hc
    obtain ⟨a0, rfl⟩ := List.length_eq_one_iff.mp h1
    obtain ⟨b0, rfl⟩ := List.length_eq_one_iff.mp (hab ▸ h1)
    refine ⟨fun z => q ?_, ?_, ?_, ?_⟩
    · simpa using z
    · have e1 : partD h f [a0] = dig h [4, ([a0] : List Int).getD 0 0] := by cases f <;> simp [partD]
      have e2 : partD h f [b0] = dig h [4, ([b0] : List Int).getD 0 0] := by cases f <;> simp [partD]
      rw [← e1, ← e2]; exact e
    · cases f <;> simp [lawIn]
    · cases f <;> simp [lawIn]
  intro f
  induction f with
  | zero =>
    intro a b x y hab h1 h2 _ hc
    simp only [fpc] at hc
    split at hc
    · cases hc
    · rename_i q
      have q1 : ¬ a = b := fun z => q (.inl z)
      have q2 : partD h 0 a = partD h 0 b := Classical.byContradiction fun z => q (.inr z)
      exact one 0 a b x y hab (by simp at h2; omega) q1 q2 hc
  | succ f ih =>
    intro a b x y hab h1 h2 h3 hc
    unfold fpc at hc
    split at hc
    · cases hc
    · rename_i q
      have q1 : ¬ a = b := fun z => q (.inl z)
      have q2 : partD h (f + 1) a = partD h (f + 1) b := Classical.byContradiction fun z => q (.inr z)
      split at hc
      · rename_i q3
        exact one (f + 1) a b x y hab q3 q1 q2 hc
      · rename_i q3
        have q3' : ¬ b.length = 1 := by omega
        have hn : a.length < 65 := by
          have : 2 ^ (f + 1) ≤ 2 ^ 6 := Nat.pow_le_pow_right (by decide) h3
          omega
        have lf := lsz_facts a.length hn (by omega)
        have lp := lsz_pow f (by omega) a.length hn (by omega) h2
        have lt : (a.take (lsz a.length)).length = lsz a.length := by rw [List.length_take]; omega
        have ld : (a.drop (lsz a.length)).length = a.length - lsz a.length := List.length_drop
        have lt2 : (b.take (lsz a.length)).length = lsz a.length := by rw [List.length_take]; omega
        have ld2 : (b.drop (lsz a.length)).length = b.length - lsz a.length := List.length_drop
        have ma : ∀ z, z ∈ lawIn h f (a.take (lsz a.length)) ∨ z ∈ lawIn h f (a.drop (lsz a.length)) → z ∈ lawIn h (f + 1) a := fun z hz => by
          rw [lawIn_s, if_neg q3]; simp only [List.mem_append]; exact .inl hz
        have mb : ∀ z, z ∈ lawIn h f (b.take (lsz a.length)) ∨ z ∈ lawIn h f (b.drop (lsz a.length)) → z ∈ lawIn h (f + 1) b := fun z hz => by
          rw [lawIn_s, if_neg q3', ← hab]; simp only [List.mem_append]; exact .inl hz
        split at hc
        · split at hc
          · rename_i p hp
            cases hc
            obtain ⟨r1, r2, r3, r4⟩ := ih _ _ x y (by omega) (by omega) (by omega) (by omega) hp
            exact ⟨r1, r2, ma _ (.inl r3), mb _ (.inl r4)⟩
          · obtain ⟨r1, r2, r3, r4⟩ := ih _ _ x y (by omega) (by omega) (by omega) (by omega) hc
            exact ⟨r1, r2, ma _ (.inr r3), mb _ (.inr r4)⟩
        · rename_i q4
          cases hc
          exact ⟨q4, by rw [dig_partIn, dig_partIn]; exact q2, part_mem h _ a, part_mem h _ b⟩
end Ev
end
section
set_option maxRecDepth 100000
set_option maxHeartbeats 1000000
/-! Ext11: a clash found is one, of the inputs. -/
namespace Ev
theorem unlF_some {a b x y : List Int} {as bs : List (List Int)} (e : unlF (a :: as) (b :: bs) = some (x, y)) : (a ≠ b ∧ x = a ∧ y = b) ∨ (a = b ∧ unlF as bs = some (x, y)) := by
  unfold unlF at e
  split at e
  · rename_i q; exact .inr ⟨q, e⟩
  · rename_i q; cases e; exact .inl ⟨q, rfl, rfl⟩
theorem unl_o (h : Hs) : ∀ (f : Nat) (o : List Int) (n : Nat) (b0 : Int) (bs : List Int) (x y : List Int), 1 ≤ o.length → o.length ≤ n → n ≤ 2 ^ f → f ≤ 6 → bs.length = (eturnF f o.length n).length →
    partD h f o = climbO h b0 (eturnF f o.length n).reverse bs.reverse →
    unlF (wayF h f o ((eturnF f o.length n).filter id)) (befF h b0 (eturnF f o.length n).reverse bs.reverse).reverse = some (x, y) →
    x ≠ y ∧ dig h x = dig h y ∧ x ∈ lawIn h f o ∧ y ∈ befF h b0 (eturnF f o.length n).reverse bs.reverse
  | 0, o, n, b0, bs, x, y, h1, h2, h3, h4, hb, e1, u1 => by simp [eturnF, wayF, unlF] at u1
  | f + 1, o, n, b0, bs, x, y, h1, h2, h3, h4, hb, e1, u1 => by
    by_cases q : o.length < n
    · have hn : n < 65 := by
        have : 2 ^ (f + 1) ≤ 2 ^ 6 := Nat.pow_le_pow_right (by decide) h4
        omega
      have lf := lsz_facts n hn (by omega)
      have lq := lsz_pow f (by omega) n hn (by omega) h3
      by_cases q3 : lsz n < o.length
      · have el := lsz_old n hn o.length (by omega) q3 h2
        have ldo : (o.drop (lsz n)).length = o.length - lsz n := List.length_drop
        have et : eturnF (f + 1) o.length n = true :: eturnF f (o.drop (lsz n)).length (n - lsz n) := by
          rw [ldo]; simp only [eturnF, if_pos q, if_pos q3]
        rw [et] at hb e1 u1 ⊢
        have ih := unl_o h f (o.drop (lsz n)) (n - lsz n) b0
        generalize eturnF f (o.drop (lsz n)).length (n - lsz n) = ts at *
        cases bs with
        | nil => simp at hb
        | cons b bs =>
          simp only [List.length_cons, Nat.add_right_cancel_iff] at hb
          rw [List.reverse_cons, List.reverse_cons, climbO_app _ _ _ _ _ _ (by simp; omega), if_pos rfl] at e1
          rw [List.reverse_cons, List.reverse_cons, befF_app _ _ _ _ _ _ (by simp; omega), if_pos rfl] at u1 ⊢
          rw [List.reverse_append] at u1
          have q1 : ¬ o.length = 1 := by omega
          have ep : partIn h (f + 1) o = [5, partD h f (o.take (lsz n)), partD h f (o.drop (lsz n))] := by rw [partIn_s, if_neg q1, el]
          have eo : wayF h (f + 1) o ((true :: ts).filter id) = partIn h (f + 1) o :: wayF h f (o.drop (lsz n)) (ts.filter id) := by
            show wayF h (f + 1) o (true :: ts.filter id) = _
            simp [wayF, el]
          rw [eo] at u1
          rcases unlF_some u1 with ⟨r1, rfl, rfl⟩ | ⟨r1, r2⟩
          · exact ⟨r1, by rw [dig_partIn, e1], part_mem h _ o, by simp⟩
          · rw [ep] at r1
            simp only [List.cons.injEq, and_true, true_and] at r1
            obtain ⟨s1, s2, s3, s4⟩ := ih bs x y (by omega) (by omega) (by omega) (by omega) hb r1.2 r2
            exact ⟨s1, s2, by rw [lawIn_s, if_neg q1, el]; simp [s3], List.mem_append_left _ s4⟩
      · have et : eturnF (f + 1) o.length n = false :: eturnF f o.length (lsz n) := by
          simp only [eturnF, if_pos q, if_neg q3]
        have ff := fit_old f o.length (lsz n) h1 (by omega) (by omega) (by omega)
        rw [et] at hb e1 u1 ⊢
        have ih := unl_o h f o (lsz n) b0
        generalize eturnF f o.length (lsz n) = ts at *
        cases bs with
        | nil => simp at hb
        | cons b bs =>
          simp only [List.length_cons, Nat.add_right_cancel_iff] at hb
          rw [List.reverse_cons, List.reverse_cons, climbO_app _ _ _ _ _ _ (by simp; omega), if_neg (by decide), partD_st h f (f + 1) o h1 (by omega) (by omega) h4] at e1
          rw [List.reverse_cons, List.reverse_cons, befF_app _ _ _ _ _ _ (by simp; omega), if_neg (by decide), List.append_nil] at u1 ⊢
          have eo : wayF h (f + 1) o ((false :: ts).filter id) = wayF h f o (ts.filter id) := wayF_st h f (f + 1) o (ts.filter id) h1 (by omega) (by omega) h4 ff
          rw [eo] at u1
          rw [lawIn_st h f (f + 1) o h1 (by omega) (by omega) h4]
          exact ih bs x y h1 (by omega) (by omega) (by omega) hb e1 u1
    · have et : eturnF (f + 1) o.length n = [] := by simp [eturnF, q]
      rw [et] at u1
      simp [wayF, unlF] at u1
theorem unl_w (h : Hs) : ∀ (f : Nat) (w : List Int) (m : Nat) (b0 : Int) (bs : List Int) (x y : List Int), 1 ≤ m → m ≤ w.length → w.length ≤ 2 ^ f → f ≤ 6 → bs.length = (eturnF f m w.length).length →
    partD h f w = climb h b0 (eturnF f m w.length).reverse bs.reverse →
    unlF (wayF h f w (eturnF f m w.length)) (aftF h b0 (eturnF f m w.length).reverse bs.reverse).reverse = some (x, y) →
    x ≠ y ∧ dig h x = dig h y ∧ x ∈ lawIn h f w ∧ y ∈ aftF h b0 (eturnF f m w.length).reverse bs.reverse
  | 0, w, m, b0, bs, x, y, h1, h2, h3, h4, hb, e1, u1 => by simp [eturnF, wayF, unlF] at u1
  | f + 1, w, m, b0, bs, x, y, h1, h2, h3, h4, hb, e1, u1 => by
    by_cases q : m < w.length
    · have hn : w.length < 65 := by
        have : 2 ^ (f + 1) ≤ 2 ^ 6 := Nat.pow_le_pow_right (by decide) h4
        omega
      have lf := lsz_facts w.length hn (by omega)
      have lq := lsz_pow f (by omega) w.length hn (by omega) h3
      have ltw : (w.take (lsz w.length)).length = lsz w.length := by rw [List.length_take]; omega
      have ldw : (w.drop (lsz w.length)).length = w.length - lsz w.length := List.length_drop
      have q1 : ¬ w.length = 1 := by omega
      have ep : partIn h (f + 1) w = [5, partD h f (w.take (lsz w.length)), partD h f (w.drop (lsz w.length))] := by rw [partIn_s, if_neg q1]
      by_cases q3 : lsz w.length < m
      · have et : eturnF (f + 1) m w.length = true :: eturnF f (m - lsz w.length) (w.drop (lsz w.length)).length := by
          rw [ldw]; simp only [eturnF, if_pos q, if_pos q3]
        rw [et] at hb e1 u1 ⊢
        have ih := unl_w h f (w.drop (lsz w.length)) (m - lsz w.length) b0
        generalize eturnF f (m - lsz w.length) (w.drop (lsz w.length)).length = ts at *
        cases bs with
        | nil => simp at hb
        | cons b bs =>
          simp only [List.length_cons, Nat.add_right_cancel_iff] at hb
          rw [List.reverse_cons, List.reverse_cons, climb_app _ _ _ _ _ _ (by simp; omega)] at e1
          rw [List.reverse_cons, List.reverse_cons, aftF_app _ _ _ _ _ _ (by simp; omega)] at u1 ⊢
          rw [List.reverse_append] at u1
          have eo : wayF h (f + 1) w (true :: ts) = partIn h (f + 1) w :: wayF h f (w.drop (lsz w.length)) ts := by simp [wayF]
          rw [eo] at u1
          rcases unlF_some u1 with ⟨r1, rfl, rfl⟩ | ⟨r1, r2⟩
          · exact ⟨r1, by rw [dig_partIn, e1], part_mem h _ w, by simp⟩
          · rw [ep] at r1
            have r1 : [5, partD h f (w.take (lsz w.length)), partD h f (w.drop (lsz w.length))] = [5, b, climb h b0 ts.reverse bs.reverse] := r1
            simp only [List.cons.injEq, and_true, true_and] at r1
            obtain ⟨s1, s2, s3, s4⟩ := ih bs x y (by omega) (by omega) (by omega) (by omega) hb r1.2 r2
            exact ⟨s1, s2, by rw [lawIn_s, if_neg q1]; simp [s3], List.mem_append_left _ s4⟩
      · have et : eturnF (f + 1) m w.length = false :: eturnF f m (w.take (lsz w.length)).length := by
          rw [ltw]; simp only [eturnF, if_pos q, if_neg q3]
        rw [et] at hb e1 u1 ⊢
        have ih := unl_w h f (w.take (lsz w.length)) m b0
        generalize eturnF f m (w.take (lsz w.length)).length = ts at *
        cases bs with
        | nil => simp at hb
        | cons b bs =>
          simp only [List.length_cons, Nat.add_right_cancel_iff] at hb
          rw [List.reverse_cons, List.reverse_cons, climb_app _ _ _ _ _ _ (by simp; omega)] at e1
          rw [List.reverse_cons, List.reverse_cons, aftF_app _ _ _ _ _ _ (by simp; omega)] at u1 ⊢
          rw [List.reverse_append] at u1
          have eo : wayF h (f + 1) w (false :: ts) = partIn h (f + 1) w :: wayF h f (w.take (lsz w.length)) ts := by simp [wayF]
          rw [eo] at u1
          rcases unlF_some u1 with ⟨r1, rfl, rfl⟩ | ⟨r1, r2⟩
          · exact ⟨r1, by rw [dig_partIn, e1], part_mem h _ w, by simp⟩
          · rw [ep] at r1
            have r1 : [5, partD h f (w.take (lsz w.length)), partD h f (w.drop (lsz w.length))] = [5, climb h b0 ts.reverse bs.reverse, b] := r1
            simp only [List.cons.injEq, and_true, true_and] at r1
            obtain ⟨s1, s2, s3, s4⟩ := ih bs x y h1 (by omega) (by omega) (by omega) hb r1.1 r2
            exact ⟨s1, s2, by rw [lawIn_s, if_neg q1]; simp [s3], List.mem_append_left _ s4⟩
    · have et : eturnF (f + 1) m w.length = [] := by simp [eturnF, q]
      rw [et] at u1
      simp [wayF, unlF] at u1
theorem loopF_mem (h : Hs) : ∀ (f : Nat) (o w : List Int) (x y : List Int), 1 ≤ o.length → o.length ≤ w.length → w.length ≤ 2 ^ f → f ≤ 6 → loopF h f o w (eturnF f o.length w.length) none = some (x, y) →
    x ≠ y ∧ dig h x = dig h y ∧ x ∈ lawIn h f o ∧ y ∈ lawIn h f w
  | 0, o, w, x, y, h1, h2, h3, h4, lp => by
    have q : o.length = w.length := by simp at h3; omega
    exact fpc_some h 0 o w x y q h1 (by omega) (by omega) (by simpa [loopF, eturnF] using lp)
  | f + 1, o, w, x, y, h1, h2, h3, h4, lp => by
    by_cases q : o.length < w.length
    · have hn : w.length < 65 := by
        have : 2 ^ (f + 1) ≤ 2 ^ 6 := Nat.pow_le_pow_right (by decide) h4
        omega
      have lf := lsz_facts w.length hn (by omega)
      have lq := lsz_pow f (by omega) w.length hn (by omega) h3
      have ltw : (w.take (lsz w.length)).length = lsz w.length := by rw [List.length_take]; omega
      have ldw : (w.drop (lsz w.length)).length = w.length - lsz w.length := List.length_drop
      have q1 : ¬ w.length = 1 := by omega
      have mw : ∀ z, z ∈ lawIn h f (w.take (lsz w.length)) ∨ z ∈ lawIn h f (w.drop (lsz w.length)) → z ∈ lawIn h (f + 1) w := fun z hz => by
        rw [lawIn_s, if_neg q1]; simp only [List.mem_append]; exact .inl hz
      by_cases q3 : lsz w.length < o.length
      · have el := lsz_old w.length hn o.length (by omega) q3 h2
        have lto : (o.take (lsz w.length)).length = lsz w.length := by rw [List.length_take]; omega
        have ldo : (o.drop (lsz w.length)).length = o.length - lsz w.length := List.length_drop
        have q2 : ¬ o.length = 1 := by omega
        have mo : ∀ z, z ∈ lawIn h f (o.take (lsz w.length)) ∨ z ∈ lawIn h f (o.drop (lsz w.length)) → z ∈ lawIn h (f + 1) o := fun z hz => by
          rw [lawIn_s, if_neg q2, el]; simp only [List.mem_append]; exact .inl hz
        have et : eturnF (f + 1) o.length w.length = true :: eturnF f (o.drop (lsz w.length)).length (w.drop (lsz w.length)).length := by
          rw [ldo, ldw]; simp only [eturnF, if_pos q, if_pos q3]
        rw [et] at lp
        have lp : loopF h f (o.drop (lsz w.length)) (w.drop (lsz w.length)) (eturnF f (o.drop (lsz w.length)).length (w.drop (lsz w.length)).length) (fpc h f (o.take (lsz w.length)) (w.take (lsz w.length))) = some (x, y) := lp
        cases hf : fpc h f (o.take (lsz w.length)) (w.take (lsz w.length)) with
        | some p =>
          rw [hf, loopF_some] at lp
          cases lp
          obtain ⟨s1, s2, s3, s4⟩ := fpc_some h f _ _ x y (by omega) (by omega) (by omega) (by omega) hf
          exact ⟨s1, s2, mo _ (.inl s3), mw _ (.inl s4)⟩
        | none =>
          rw [hf] at lp
          obtain ⟨s1, s2, s3, s4⟩ := loopF_mem h f _ _ x y (by omega) (by omega) (by omega) (by omega) lp
          exact ⟨s1, s2, mo _ (.inr s3), mw _ (.inr s4)⟩
      · have et : eturnF (f + 1) o.length w.length = false :: eturnF f o.length (w.take (lsz w.length)).length := by
          rw [ltw]; simp only [eturnF, if_pos q, if_neg q3]
        rw [et] at lp
        have lp : loopF h f o (w.take (lsz w.length)) (eturnF f o.length (w.take (lsz w.length)).length) none = some (x, y) := lp
        obtain ⟨s1, s2, s3, s4⟩ := loopF_mem h f o _ x y h1 (by omega) (by omega) (by omega) lp
        exact ⟨s1, s2, by rw [lawIn_st h f (f + 1) o h1 (by omega) (by omega) h4]; exact s3, mw _ (.inl s4)⟩
    · have qe : o.length = w.length := by omega
      have et : eturnF (f + 1) o.length w.length = [] := by simp [eturnF, q]
      rw [et] at lp
      exact fpc_some h (f + 1) o w x y qe h1 (by omega) h4 (by simpa [loopF] using lp)
/-- all inputs that the law knows -/
def allIn (h : Hs) (old new : List Int) (b0 : Int) (bs : List Int) : List (List Int) :=
  lawIn h 6 old ++ lawIn h 6 new ++ [[6, (old.length : Int), partD h 6 old], [6, (new.length : Int), partD h 6 new]] ++ toldAll h old.length new.length b0 (eturnF 6 old.length new.length).reverse bs
theorem fec_some (h : Hs) {old new : List Int} {b0 : Int} {bs x y : List Int} (h1 : 1 ≤ old.length) (h2 : old.length ≤ new.length) (h3 : new.length ≤ 2 ^ 6) (hb : bs.length = (eturnF 6 old.length new.length).length)
    (e : fecF h old new b0 bs = some (x, y)) : x ≠ y ∧ dig h x = dig h y ∧ x ∈ allIn h old new b0 bs ∧ y ∈ allIn h old new b0 bs := by
  unfold fecF at e
  split at e
  · rename_i q
    obtain ⟨q1, q2⟩ := q
    have uo := unl_o h 6 old new.length b0 bs.reverse x y h1 h2 h3 (by omega) (by simpa using hb)
    have uw := unl_w h 6 new old.length b0 bs.reverse x y h1 h2 h3 (by omega) (by simpa using hb)
    have lm := loopF_mem h 6 old new x y h1 h2 h3 (by omega)
    have bm := bef_mem h (eturnF 6 old.length new.length).reverse bs b0 b0
    have am := aft_mem h (eturnF 6 old.length new.length).reverse bs b0 b0
    rw [List.reverse_reverse] at uo uw
    unfold allIn toldAll
    generalize eturnF 6 old.length new.length = ts at *
    have mem1 : ∀ z, z ∈ lawIn h 6 old ∨ z ∈ lawIn h 6 new ∨ z = [6, (old.length : Int), partD h 6 old] ∨ z = [6, (new.length : Int), partD h 6 new] ∨ z ∈ toldIn h b0 b0 ts.reverse bs ∨ z = [6, (old.length : Int), climbO h b0 ts.reverse bs] ∨ z = [6, (new.length : Int), climb h b0 ts.reverse bs] →
        z ∈ lawIn h 6 old ++ lawIn h 6 new ++ [[6, (old.length : Int), partD h 6 old], [6, (new.length : Int), partD h 6 new]] ++ (toldIn h b0 b0 ts.reverse bs ++ [[6, (old.length : Int), climbO h b0 ts.reverse bs], [6, (new.length : Int), climb h b0 ts.reverse bs]]) := fun z hz => by
      simp only [List.mem_append, List.mem_cons, List.not_mem_nil, or_false]
      rcases hz with hz | hz | hz | hz | hz | hz | hz <;> simp [hz]
    have first : ∀ c, orE (unlF ([6, (old.length : Int), partD h 6 old] :: wayF h 6 old (ts.filter id)) (befT h old.length b0 ts.reverse bs)) (unlF ([6, (new.length : Int), partD h 6 new] :: wayF h 6 new ts) (aftT h new.length b0 ts.reverse bs)) = some c → c = (x, y) → x ≠ y ∧ dig h x = dig h y ∧ x ∈ lawIn h 6 old ++ lawIn h 6 new ++ [[6, (old.length : Int), partD h 6 old], [6, (new.length : Int), partD h 6 new]] ++ (toldIn h b0 b0 ts.reverse bs ++ [[6, (old.length : Int), climbO h b0 ts.reverse bs], [6, (new.length : Int), climb h b0 ts.reverse bs]]) ∧ y ∈ lawIn h 6 old ++ lawIn h 6 new ++ [[6, (old.length : Int), partD h 6 old], [6, (new.length : Int), partD h 6 new]] ++ (toldIn h b0 b0 ts.reverse bs ++ [[6, (old.length : Int), climbO h b0 ts.reverse bs], [6, (new.length : Int), climb h b0 ts.reverse bs]]) := fun c hc hxy => by
      subst hxy
      have t1 : befT h old.length b0 ts.reverse bs = [6, (old.length : Int), climbO h b0 ts.reverse bs] :: (befF h b0 ts.reverse bs).reverse := by simp [befT]
      have t2 : aftT h new.length b0 ts.reverse bs = [6, (new.length : Int), climb h b0 ts.reverse bs] :: (aftF h b0 ts.reverse bs).reverse := by simp [aftT]
      rw [t1, t2] at hc
      cases hu : unlF ([6, (old.length : Int), partD h 6 old] :: wayF h 6 old (ts.filter id)) ([6, (old.length : Int), climbO h b0 ts.reverse bs] :: (befF h b0 ts.reverse bs).reverse) with
      | some p =>
        rw [hu] at hc
        have hc : some p = some (x, y) := hc
        cases hc
        rcases unlF_some hu with ⟨r1, rfl, rfl⟩ | ⟨r1, r2⟩
        · exact ⟨r1, q1.symm, mem1 _ (.inr (.inr (.inl rfl))), mem1 _ (.inr (.inr (.inr (.inr (.inr (.inl rfl))))))⟩
        · simp only [List.cons.injEq, and_true, true_and] at r1
          obtain ⟨s1, s2, s3, s4⟩ := uo r1 r2
          exact ⟨s1, s2, mem1 _ (.inl s3), mem1 _ (.inr (.inr (.inr (.inr (.inl (bm _ s4))))))⟩
      | none =>
        rw [hu] at hc
        have hc : unlF ([6, (new.length : Int), partD h 6 new] :: wayF h 6 new ts) ([6, (new.length : Int), climb h b0 ts.reverse bs] :: (aftF h b0 ts.reverse bs).reverse) = some (x, y) := hc
        rcases unlF_some hc with ⟨r1, rfl, rfl⟩ | ⟨r1, r2⟩
        · exact ⟨r1, q2.symm, mem1 _ (.inr (.inr (.inr (.inl rfl)))), mem1 _ (.inr (.inr (.inr (.inr (.inr (.inr rfl))))))⟩
        · simp only [List.cons.injEq, and_true, true_and] at r1
          obtain ⟨s1, s2, s3, s4⟩ := uw r1 r2
          exact ⟨s1, s2, mem1 _ (.inr (.inl s3)), mem1 _ (.inr (.inr (.inr (.inr (.inl (am _ s4))))))⟩
    cases hc : orE (unlF ([6, (old.length : Int), partD h 6 old] :: wayF h 6 old (ts.filter id)) (befT h old.length b0 ts.reverse bs)) (unlF ([6, (new.length : Int), partD h 6 new] :: wayF h 6 new ts) (aftT h new.length b0 ts.reverse bs)) with
    | some c =>
      rw [hc, loopF_some] at e
      exact first c hc (by cases e; rfl)
    | none =>
      rw [hc] at e
      obtain ⟨s1, s2, s3, s4⟩ := lm e
      exact ⟨s1, s2, mem1 _ (.inl s3), mem1 _ (.inr (.inl s4))⟩
  · cases e
end Ev
end
section
set_option maxRecDepth 100000
set_option maxHeartbeats 1000000
/-! Ext12: law k20, its steps. -/
namespace Ev
theorem unlF_self : ∀ as : List (List Int), unlF as as = none
  | [] => rfl
  | a :: as => by simp [unlF, unlF_self as]
theorem fec_own (h : Hs) {ds : List Int} {p : Nat} (h1 : 1 ≤ p) (h2 : p ≤ ds.length) (h3 : ds.length ≤ 2 ^ 6) {b0 : Int} {bs : List Int} (e : extF h 6 ds p = b0 :: bs) : fecF h (ds.take p) ds b0 bs = none := by
  obtain ⟨c0, cs, i1, i2, i3, i4, i5, i6, i7⟩ := ext_complete h 6 ds p h1 h2 h3 (by omega)
  rw [e] at i1
  cases i1
  have lm : (ds.take p).length = p := by rw [List.length_take]; omega
  unfold fecF
  rw [lm, i3, i4, if_pos ⟨rfl, rfl⟩]
  have t1 : befT h p b0 (eturnF 6 p ds.length).reverse bs = [6, (p : Int), partD h 6 (ds.take p)] :: wayF h 6 (ds.take p) ((eturnF 6 p ds.length).filter id) := by
    rw [← i5, ← i3]; simp [befT]
  have t2 : aftT h ds.length b0 (eturnF 6 p ds.length).reverse bs = [6, (ds.length : Int), partD h 6 ds] :: wayF h 6 ds (eturnF 6 p ds.length) := by
    rw [← i6, ← i4]; simp [aftT]
  rw [t1, t2, unlF_self, unlF_self]
  exact i7
theorem fec_sound (h : Hs) {old new : List Int} {b0 : Int} {bs : List Int} (h1 : 1 ≤ old.length) (h2 : old.length ≤ new.length) (h3 : new.length ≤ 2 ^ 6) (hb : bs.length = (eturnF 6 old.length new.length).length)
    (q1 : dig h [6, (old.length : Int), climbO h b0 (eturnF 6 old.length new.length).reverse bs] = dig h [6, (old.length : Int), partD h 6 old])
    (q2 : dig h [6, (new.length : Int), climb h b0 (eturnF 6 old.length new.length).reverse bs] = dig h [6, (new.length : Int), partD h 6 new])
    (e : fecF h old new b0 bs = none) : old = new.take old.length := by
  unfold fecF at e
  rw [if_pos ⟨q1, q2⟩] at e
  have t1 : befT h old.length b0 (eturnF 6 old.length new.length).reverse bs = [6, (old.length : Int), climbO h b0 (eturnF 6 old.length new.length).reverse bs] :: (befF h b0 (eturnF 6 old.length new.length).reverse bs).reverse := by simp [befT]
  have t2 : aftT h new.length b0 (eturnF 6 old.length new.length).reverse bs = [6, (new.length : Int), climb h b0 (eturnF 6 old.length new.length).reverse bs] :: (aftF h b0 (eturnF 6 old.length new.length).reverse bs).reverse := by simp [aftT]
  rw [t1, t2] at e
  cases hu : unlF ([6, (old.length : Int), partD h 6 old] :: wayF h 6 old ((eturnF 6 old.length new.length).filter id)) ([6, (old.length : Int), climbO h b0 (eturnF 6 old.length new.length).reverse bs] :: (befF h b0 (eturnF 6 old.length new.length).reverse bs).reverse) with
  | some x =>
    rw [hu] at e
    have e : loopF h 6 old new (eturnF 6 old.length new.length) (some x) = none := e
    rw [loopF_some] at e; cases e
  | none =>
    rw [hu] at e
    have e : loopF h 6 old new (eturnF 6 old.length new.length) (unlF ([6, (new.length : Int), partD h 6 new] :: wayF h 6 new (eturnF 6 old.length new.length)) ([6, (new.length : Int), climb h b0 (eturnF 6 old.length new.length).reverse bs] :: (aftF h b0 (eturnF 6 old.length new.length).reverse bs).reverse)) = none := e
    cases hv : unlF ([6, (new.length : Int), partD h 6 new] :: wayF h 6 new (eturnF 6 old.length new.length)) ([6, (new.length : Int), climb h b0 (eturnF 6 old.length new.length).reverse bs] :: (aftF h b0 (eturnF 6 old.length new.length).reverse bs).reverse) with
    | some x => rw [hv, loopF_some] at e; cases e
    | none =>
      rw [hv] at e
      obtain ⟨a1, a2⟩ := unlF_cons hu
      obtain ⟨c1, c2⟩ := unlF_cons hv
      simp only [List.cons.injEq, and_true, true_and] at a1 c1
      exact ext_sound h 6 old new b0 bs.reverse h1 h2 h3 (by omega) (by simpa using hb) (by rw [List.reverse_reverse]; exact a1) (by rw [List.reverse_reverse]; exact c1) (by rw [List.reverse_reverse]; exact a2) (by rw [List.reverse_reverse]; exact c2) e
structure HasR20 (P : Pg) : Prop where
  L : HasL P
  p0 : P.fns 0 = some f0
  p39 : P.fns 39 = some f39
  p69 : P.fns 69 = some f69
  p81 : P.fns 81 = some f81
section
variable {P : Pg} {s : Sto}
/-- the older row, perhaps changed -/
theorem old7 {call : CallT} {h : Hs} (ok : h.ok) {l : List Int} (hl : l.length = 8) {o : List Int} {p : Nat} (hp : 1 ≤ p) (ho : o.length = p) (hb : p ≤ 64) {v0 v1 v3 v4 v8 v9 v10 v11 v12 : Sl} :
    ∃ o' : List Int, o'.length = p ∧ evS P call (.ife (.cmp .eq (.bin .mod (.ix (.v 5) (.i 1)) (.i 2)) (.i 0))
      [.asg (.nm 7) (.bin .add (.bin .add (.sl (.v 7) none (some (.bin .mod (.ix (.v 5) (.i 2)) (.v 6)))) (.lst [(.bin .mod (.ix (.v 5) (.i 3)) (.fld (.v 2) 0 0))])) (.sl (.v 7) (some (.bin .add (.bin .mod (.ix (.v 5) (.i 2)) (.v 6)) (.i 1))) none))] [])
      ⟨[v0, v1, .dat h.d, v3, v4, .own (lsI l), .dat (.int p), .own (lsI o), v8, v9, v10, v11, v12], s⟩ = .ok .nx ⟨[v0, v1, .dat h.d, v3, v4, .own (lsI l), .dat (.int p), .own (lsI o'), v8, v9, v10, v11, v12], s⟩ := by
  have g1 : ixD (lsI l) (.int 1) = some (.int (l.getD 1 0)) := atI_lI (by omega) (by omega)
  have g2 : ixD (lsI l) (.int 2) = some (.int (l.getD 2 0)) := atI_lI (by omega) (by omega)
  have g3 : ixD (lsI l) (.int 3) = some (.int (l.getD 3 0)) := atI_lI (by omega) (by omega)
  generalize l.getD 1 0 = a1 at *
  generalize l.getD 2 0 = a2 at *
  generalize l.getD 3 0 = a3 at *
  have hm : 0 < h.m := by have := ok.1; omega
  by_cases q : a1 % 2 = 0
  · obtain ⟨j, hj, hj2⟩ : ∃ j : Nat, a2 % (p : Int) = (j : Int) ∧ j < p := by
      have h0 := Int.emod_nonneg a2 (by omega : (p : Int) ≠ 0)
      have h1 := Int.emod_lt_of_pos a2 (by omega : (0 : Int) < (p : Int))
      exact ⟨(a2 % (p : Int)).toNat, by omega, by omega⟩
    refine ⟨o.take j ++ [a3 % h.m] ++ o.drop (j + 1), by simp only [List.length_append, List.length_take, List.length_drop, List.length_cons, List.length_nil]; omega, ?_⟩
    have c1 := cut_take o j
    have c2 := cut_drop o (j + 1)
    have ej : ((j + 1 : Nat) : Int) = (j : Int) + 1 := by omega
    rw [ej] at c2
    have ad1 := add_lI (o.take j) (a3 % h.m) (by rw [List.length_take]; omega)
    have ad2 : binD .add (lsI (o.take j ++ [a3 % h.m])) (lsI (o.drop (j + 1))) = some (.tmp (lsI (o.take j ++ [a3 % h.m] ++ o.drop (j + 1)))) := by
      have := addLL ((o.take j ++ [a3 % h.m]).map D.int) ((o.drop (j + 1)).map D.int) (by simp only [List.length_map, List.length_append, List.length_take, List.length_drop, List.length_cons, List.length_nil]; omega)
      simp only [lsI]
      rw [this, List.map_append, List.map_append, List.map_append]
    have hpN : 0 < p := hp
    generalize lsI (o.take j ++ [a3 % h.m] ++ o.drop (j + 1)) = L3 at *
    generalize lsI (o.take j ++ [a3 % h.m]) = L2 at *
    generalize lsI (o.take j) = L1 at *
    generalize lsI (o.drop (j + 1)) = L4 at *
    generalize lsI o = Lo at *
    generalize lsI l = Ll at *
    simp [Hs.d, g1, g2, g3, q, hpN, hj, c1, c2, ad1, ad2, hm]
  · refine ⟨o, ho, ?_⟩
    generalize lsI o = Lo at *
    generalize lsI l = Ll at *
    generalize h.d = hd at *
    simp [g1, q]
/-- the paper told, perhaps changed -/
theorem set9 {call : CallT} {h : Hs} (ok : h.ok) {l : List Int} (hl : l.length = 8) {v0 v1 v3 v4 v6 v7 v8 v10 v11 v12 : Sl} {pp : List Int} (hp : 1 ≤ pp.length) :
    ∃ c0 cs, (c0 :: cs : List Int).length = pp.length ∧ evS P call (.ife (.cmp .eq (.bin .mod (.ix (.v 5) (.i 5)) (.i 3)) (.i 0))
      [.setix 9 (.bin .mod (.ix (.v 5) (.i 6)) (.blt .len [(.v 9)])) (.bin .mod (.ix (.v 5) (.i 7)) (.fld (.v 2) 0 0))] [])
      ⟨[v0, v1, .dat h.d, v3, v4, .own (lsI l), v6, v7, v8, .own (lsI pp), v10, v11, v12], s⟩ = .ok .nx ⟨[v0, v1, .dat h.d, v3, v4, .own (lsI l), v6, v7, v8, .own (lsI (c0 :: cs)), v10, v11, v12], s⟩ := by
  have g3 : atI (l.map D.int) 5 = some (.int (l.getD 5 0)) := atI_lI (by omega) (by omega)
  have g4 : atI (l.map D.int) 6 = some (.int (l.getD 6 0)) := atI_lI (by omega) (by omega)
  have g5 : atI (l.map D.int) 7 = some (.int (l.getD 7 0)) := atI_lI (by omega) (by omega)
  generalize l.getD 5 0 = a3 at *
  generalize l.getD 6 0 = a4 at *
  generalize l.getD 7 0 = a5 at *
  have hm : 0 < h.m := by have := ok.1; omega
  suffices hs : ∃ bs : List Int, bs.length = pp.length ∧ evS P call (.ife (.cmp .eq (.bin .mod (.ix (.v 5) (.i 5)) (.i 3)) (.i 0))
      [.setix 9 (.bin .mod (.ix (.v 5) (.i 6)) (.blt .len [(.v 9)])) (.bin .mod (.ix (.v 5) (.i 7)) (.fld (.v 2) 0 0))] [])
      ⟨[v0, v1, .dat h.d, v3, v4, .own (lsI l), v6, v7, v8, .own (lsI pp), v10, v11, v12], s⟩ = .ok .nx ⟨[v0, v1, .dat h.d, v3, v4, .own (lsI l), v6, v7, v8, .own (lsI bs), v10, v11, v12], s⟩ by
    obtain ⟨bs, b1, b2⟩ := hs
    cases bs with
    | nil => simp at b1; omega
    | cons c0 cs => exact ⟨c0, cs, b1, b2⟩
  by_cases q3 : a3 % 3 = 0
  · obtain ⟨j, hj, hj2⟩ : ∃ j : Nat, a4 % (pp.length : Int) = (j : Int) ∧ j < pp.length := by
      have h0 := Int.emod_nonneg a4 (by omega : (pp.length : Int) ≠ 0)
      have h1 := Int.emod_lt_of_pos a4 (by omega : (0 : Int) < (pp.length : Int))
      exact ⟨(a4 % (pp.length : Int)).toNat, by omega, by omega⟩
    refine ⟨pp.set j (a5 % h.m), by simp, ?_⟩
    have hx : ixN pp.length (j : Int) = some j := by
      have : (j : Int) < (pp.length : Int) := by omega
      simp [ixN, this]
    have hpos : 0 < pp.length := hp
    simp only [lsI, List.map_set] at *
    simp [Hs.d, g3, g4, g5, q3, hm, hj, doSet, hx, hpos]
  · refine ⟨pp, rfl, ?_⟩
    simp only [lsI] at *
    simp [g3, q3]
end
end Ev
end
section
set_option maxRecDepth 100000
set_option maxHeartbeats 1000000
/-! Ext13: law k20, one turn. -/
namespace Ev
def l95_0 : List S :=
   [.asg (.nm 5) (.call 0 [(.bin .add (.call 39 [(.v 0), (.i 1)]) (.v 4)), (.i 8)]),
    .asg (.nm 6) (.bin .add (.i 1) (.bin .mod (.ix (.v 5) (.i 0)) (.blt .len [(.v 3)]))),
    .asg (.nm 7) (.sl (.v 3) none (some (.v 6))),
    .asg (.nm 8) (.call 83 [(.v 2), (.v 3), (.v 6)]),
    .ife (.cmp .isnot (.call 91 [(.v 2), (.v 7), (.v 3), (.v 8)]) .n)
      [.ret (.b false)]
      [],
    .ife (.cmp .eq (.bin .mod (.ix (.v 5) (.i 1)) (.i 2)) (.i 0))
      [.asg (.nm 7) (.bin .add (.bin .add (.sl (.v 7) none (some (.bin .mod (.ix (.v 5) (.i 2)) (.v 6)))) (.lst [(.bin .mod (.ix (.v 5) (.i 3)) (.fld (.v 2) 0 0))])) (.sl (.v 7) (some (.bin .add (.bin .mod (.ix (.v 5) (.i 2)) (.v 6)) (.i 1))) none))]
      [],
    .asg (.nm 9) (.ite (.cmp .eq (.bin .mod (.ix (.v 5) (.i 4)) (.i 2)) (.i 0)) (.call 83 [(.v 2), (.bin .add (.v 7) (.sl (.v 3) (some (.v 6)) none)), (.v 6)]) (.blt .list [(.v 8)])),
    .ife (.cmp .eq (.bin .mod (.ix (.v 5) (.i 5)) (.i 3)) (.i 0))
      [.setix 9 (.bin .mod (.ix (.v 5) (.i 6)) (.blt .len [(.v 9)])) (.bin .mod (.ix (.v 5) (.i 7)) (.fld (.v 2) 0 0))]
      [],
    .asg (.nm 10) (.call 91 [(.v 2), (.blt .list [(.v 7)]), (.blt .list [(.v 3)]), (.v 9)]),
    .asg (.nm 11) (.tup [(.call 79 [(.v 2), (.v 7)]), (.call 79 [(.v 2), (.v 3)])]),
    .ife (.cmp .ne (.call 85 [(.v 2), (.v 6), (.blt .len [(.v 3)]), (.v 9)]) (.v 11))
      [.ife (.cmp .isnot (.v 10) .n)
        [.ret (.b false)]
        []]
      [.ife (.and (.cmp .ne (.v 7) (.sl (.v 3) none (some (.v 6)))) (.cmp .is (.v 10) .n))
        [.ret (.b false)]
        [.ife (.cmp .isnot (.v 10) .n)
          [.asg (.nm 12) (.bin .add (.ix (.call 93 [(.v 2), (.v 7)]) (.i 0)) (.ix (.call 93 [(.v 2), (.v 3)]) (.i 0))),
          .asg (.nm 12) (.bin .add (.v 12) (.lst [(.lst [(.i 6), (.v 6), (.ix (.call 93 [(.v 2), (.v 7)]) (.i 1))]), (.lst [(.i 6), (.blt .len [(.v 3)]), (.ix (.call 93 [(.v 2), (.v 3)]) (.i 1))])])),
          .asg (.nm 12) (.bin .add (.v 12) (.call 94 [(.v 2), (.v 6), (.blt .len [(.v 3)]), (.v 9)])),
          .ife (.or (.not (.call 81 [(.v 2), (.v 10)])) (.or (.cmp .nin (.blt .list [(.ix (.v 10) (.i 0))]) (.v 12)) (.cmp .nin (.blt .list [(.ix (.v 10) (.i 1))]) (.v 12))))
            [.ret (.b false)]
            []]
          []]]]
section
variable {P : Pg} {s : Sto}
theorem mem_in {M : List (List Int)} {x : List Int} (hx : x ∈ M) : inD (lsI x) (llL M) = some true := by
  have p1 : plnA (M.map lsI) = true := plnA_all fun y hy => by
    obtain ⟨z, _, rfl⟩ := List.mem_map.mp hy
    simp [lsI, pln, pln_ints]
  have p2 : depA (M.map lsI) ≤ 64 := depA_all fun y hy => by
    obtain ⟨z, _, rfl⟩ := List.mem_map.mp hy
    simp [lsI, dep, dep_ints]
  have p3 : (M.map lsI).any (fun z => deq z (lsI x)) = true := by
    rw [List.any_eq_true]
    exact ⟨lsI x, List.mem_map.mpr ⟨x, hx, rfl⟩, by rw [deq_lI]; simp⟩
  simp only [llL, inD, shp_lI, p1, p3]
  simp [p2]
theorem cutN (ds : List Int) (p : Nat) : slD (lsI ds) none (some (p : Int)) = some (.tmp (lsI (ds.take p))) := cut_take ds p
theorem turn20 (H : HasR20 P) {h : Hs} (ok : h.ok) {ds : List Int} (h1 : 1 ≤ ds.length) (h2 : ds.length ≤ 2 ^ 6) {k : Nat} (hk : 15 ≤ k) (ns : List Int) (i : Int) {v1 v3 w5 w6 w7 w8 w9 w10 w11 w12 : Sl} (h3 : Lv (lsI ds) v3) :
    ∃ v3' w5' w6' w7' w8' w9' w10' w11' w12', Lv (lsI ds) v3' ∧
      evSs P (callN P k) l95_0 ⟨[.dat (.lst (ns.map .int)), v1, .dat h.d, v3, .dat (.int i), w5, w6, w7, w8, w9, w10, w11, w12], s⟩
        = .ok .nx ⟨[.dat (.lst (ns.map .int)), v1, .dat h.d, v3', .dat (.int i), w5', w6', w7', w8', w9', w10', w11', w12'], s⟩ := by
  obtain ⟨c, e39⟩ := call39 (s := s) H.p39 ns 1 (m := k) (by omega)
  have e39 : callN P k 39 [.lst (ns.map .int), .int 1] s = .ok (.d (.int c)) s := e39
  obtain ⟨l, hl, hr, e0⟩ := call0r (s := s) H.p0 (c + i) 8 (by decide) (m := k) (by omega)
  have e0 : callN P k 0 [.int (c + i), .int 8] s = .ok (.own (lsI l)) s := e0
  have frl := free_lI l
  have fri : ∀ i, (Rv.d (.int i)).free = true := fun _ => rfl
  have frb : ∀ i, (Rv.d (.bl i)).free = true := fun _ => rfl
  have frn : (Rv.d .non).free = true := rfl
  have frt : ∀ a b : Int, (Rv.d (.tup [.int a, .int b])).free = true := fun _ _ => rfl
  have g0 : ixD (lsI l) (.int 0) = some (.int (l.getD 0 0)) := atI_lI (by omega) (by omega)
  have g4 : ixD (lsI l) (.int 4) = some (.int (l.getD 4 0)) := atI_lI (by omega) (by omega)
  obtain ⟨p, hp, hp1, hp2⟩ : ∃ p : Nat, 1 + l.getD 0 0 % (ds.length : Int) = (p : Int) ∧ 1 ≤ p ∧ p ≤ ds.length := by
    have h0 := Int.emod_nonneg (l.getD 0 0) (by omega : (ds.length : Int) ≠ 0)
    have h1 := Int.emod_lt_of_pos (l.getD 0 0) (by omega : (0 : Int) < (ds.length : Int))
    exact ⟨(1 + l.getD 0 0 % (ds.length : Int)).toNat, by omega, by omega, by omega⟩
  generalize l.getD 0 0 = a0 at *
  generalize l.getD 4 0 = a4 at *
  have lm : (ds.take p).length = p := by rw [List.length_take]; omega
  have e83 := call83 (s := s) H.L.E ok 6 ds p k hp1 hp2 h2 (by omega) (by omega)
  have frp := free_lI (extF h 6 ds p)
  have hpl := ext_len h 6 ds p hp1 hp2 h2 (by omega)
  obtain ⟨b0, bs, hbs⟩ : ∃ b0 bs, extF h 6 ds p = b0 :: bs := by
    cases he : extF h 6 ds p with
    | nil => rw [he] at hpl; simp at hpl
    | cons b0 bs => exact ⟨b0, bs, rfl⟩
  have hown := fec_own h hp1 hp2 h2 hbs
  have e91 := call91 (s := s) H.L ok (old := ds.take p) (new := ds) (by omega) (by omega) h2 b0 (bs := bs) (by rw [lm]; rw [hbs] at hpl; simpa using hpl) (m := k) (by omega)
  rw [hown] at e91
  rw [← hbs] at e91
  have tl := eturn_len 6 p ds.length
  have ln := len_lI ds
  have c1 := cut_take ds p
  have cn : clD none = .non := rfl
  rw [cn] at e91
  have hpp : 1 ≤ (extF h 6 ds p).length := by rw [hbs]; simp
  have lpp : blt1 .list (lsI (extF h 6 ds p)) = some (.tmp (lsI (extF h 6 ds p))) := by simp [lsI]
  obtain ⟨o, ho, eold⟩ := old7 (P := P) (s := s) (call := callN P k) ok hl hp1 lm (by omega) (v0 := .dat (.lst (ns.map .int))) (v1 := v1) (v3 := v3) (v4 := .dat (.int i)) (v8 := .own (lsI (extF h 6 ds p))) (v9 := w9) (v10 := w10) (v11 := w11) (v12 := w12)
  have lx : (o ++ ds.drop p).length = ds.length := by rw [List.length_append, List.length_drop]; omega
  have e83b := call83 (s := s) H.L.E ok 6 (o ++ ds.drop p) p k hp1 (by omega) (by omega) (by omega) (by omega)
  have frp2 := free_lI (extF h 6 (o ++ ds.drop p) p)
  have hpl2 := ext_len h 6 (o ++ ds.drop p) p hp1 (by omega) (by omega) (by omega)
  rw [lx] at hpl2
  have c2 := cut_drop ds p
  have ad : binD .add (lsI o) (lsI (ds.drop p)) = some (.tmp (lsI (o ++ ds.drop p))) := by
    have := addLL (o.map D.int) ((ds.drop p).map D.int) (by simp only [List.length_map, List.length_drop]; omega)
    simp only [lsI]
    rw [this, List.map_append]
  obtain ⟨t0, ht0, e9⟩ : ∃ t0 : List Int, t0.length = (eturnF 6 p ds.length).length + 1 ∧ evS P (callN P k) (.asg (.nm 9) (.ite (.cmp .eq (.bin .mod (.ix (.v 5) (.i 4)) (.i 2)) (.i 0)) (.call 83 [(.v 2), (.bin .add (.v 7) (.sl (.v 3) (some (.v 6)) none)), (.v 6)]) (.blt .list [(.v 8)])))
      ⟨[.dat (.lst (ns.map .int)), v1, .dat h.d, v3, .dat (.int i), .own (lsI l), .dat (.int p), .own (lsI o), .own (lsI (extF h 6 ds p)), w9, w10, w11, w12], s⟩ = .ok .nx ⟨[.dat (.lst (ns.map .int)), v1, .dat h.d, v3, .dat (.int i), .own (lsI l), .dat (.int p), .own (lsI o), .own (lsI (extF h 6 ds p)), .own (lsI t0), w10, w11, w12], s⟩ := by
    by_cases q : a4 % 2 = 0
    · refine ⟨_, hpl2, ?_⟩
      generalize lsI (extF h 6 (o ++ ds.drop p) p) = L1 at *
      generalize lsI (extF h 6 ds p) = L2 at *
      generalize lsI (o ++ ds.drop p) = L3 at *
      generalize lsI (ds.drop p) = L4 at *
      generalize lsI o = Lo at *
      generalize lsI l = Ll at *
      generalize lsI ds = Ld at *
      generalize h.d = hd at *
      rcases h3 with rfl | rfl <;> simp [g4, q, c2, ad, e83b, frp2]
    · refine ⟨_, hpl, ?_⟩
      generalize lsI (extF h 6 ds p) = L2 at *
      generalize lsI l = Ll at *
      generalize h.d = hd at *
      simp [g4, q, lpp]
  obtain ⟨c0, cs, hcs, eset⟩ := set9 (P := P) (s := s) (call := callN P k) ok hl (v0 := .dat (.lst (ns.map .int))) (v1 := v1) (v3 := v3) (v4 := .dat (.int i)) (v6 := .dat (.int p)) (v7 := .own (lsI o)) (v8 := .own (lsI (extF h 6 ds p))) (v10 := w10) (v11 := w11) (v12 := w12) (pp := t0) (by omega)
  have hcl : cs.length = (eturnF 6 o.length ds.length).length := by rw [ho]; rw [ht0] at hcs; simpa using hcs
  have e91b := call91 (s := s) H.L ok (old := o) (new := ds) (by omega) (by omega) h2 c0 (bs := cs) hcl (m := k) (by omega)
  have e85 := call85 (s := s) H.L.E ok (p := o.length) (n := ds.length) (by omega) (by omega) h2 c0 (bs := cs) hcl (m := k) (by omega)
  have e79a := call79 (s := s) H.L.E.R ok (ds := o) (by omega) (by omega) (m := k) (by omega)
  have e79b := call79 (s := s) H.L.E.R ok (ds := ds) h1 h2 (m := k) (by omega)
  have e93a := call93 (s := s) H.L ok 6 o k (by omega) (by omega) (by omega) (by omega)
  have e93b := call93 (s := s) H.L ok 6 ds k h1 h2 (by omega) (by omega)
  have e94 := call94 (s := s) H.L ok (p := o.length) (n := ds.length) (by omega) (by omega) h2 c0 (bs := cs) hcl (m := k) (by omega)
  have hsome := @fec_some h o ds c0 cs
  have hsound := fec_sound h (old := o) (new := ds) (b0 := c0) (bs := cs) (by omega) (by omega) h2 hcl
  have hdiff : ¬ (dig h [6, (o.length : Int), climbO h c0 (eturnF 6 o.length ds.length).reverse cs] = dig h [6, (o.length : Int), partD h 6 o] ∧ dig h [6, (ds.length : Int), climb h c0 (eturnF 6 o.length ds.length).reverse cs] = dig h [6, (ds.length : Int), partD h 6 ds]) → fecF h o ds c0 cs = none := fun z => by
    unfold fecF; rw [if_neg z]
  have lo : blt1 .list (lsI o) = some (.tmp (lsI o)) := by simp [lsI]
  have ld : blt1 .list (lsI ds) = some (.tmp (lsI ds)) := by simp [lsI]
  have dqo := deq_lI o (ds.take p)
  have so := shp_lI o
  have st := shp_lI (ds.take p)
  have hM : llL (allIn h o ds c0 cs) = .lst ((lawIn h 6 o).map lsI ++ (lawIn h 6 ds).map lsI ++ [D.lst [.int 6, .int o.length, .int (partD h 6 o)], D.lst [.int 6, .int ds.length, .int (partD h 6 ds)]] ++ (toldAll h o.length ds.length c0 (eturnF 6 o.length ds.length).reverse cs).map lsI) := by
    simp [llL, allIn, lsI]
  have la1 := lawIn_len h 6 o
  have la2 := lawIn_len h 6 ds
  have la3 : (toldAll h o.length ds.length c0 (eturnF 6 o.length ds.length).reverse cs).length ≤ 20 := by
    have := toldIn_len h (eturnF 6 o.length ds.length).reverse cs c0 c0
    rw [List.length_reverse] at this
    have t6 := eturn_len 6 o.length ds.length
    simp only [toldAll, List.length_append, List.length_cons, List.length_nil]; omega
  have ad1 := addLL ((lawIn h 6 o).map lsI) ((lawIn h 6 ds).map lsI) (by rw [List.length_map, List.length_map]; omega)
  have ad2 := addLL ((lawIn h 6 o).map lsI ++ (lawIn h 6 ds).map lsI) [D.lst [.int 6, .int o.length, .int (partD h 6 o)], D.lst [.int 6, .int ds.length, .int (partD h 6 ds)]] (by simp only [List.length_append, List.length_map, List.length_cons, List.length_nil]; omega)
  have ad3 := addLL ((lawIn h 6 o).map lsI ++ (lawIn h 6 ds).map lsI ++ [D.lst [.int 6, .int o.length, .int (partD h 6 o)], D.lst [.int 6, .int ds.length, .int (partD h 6 ds)]]) ((toldAll h o.length ds.length c0 (eturnF 6 o.length ds.length).reverse cs).map lsI) (by simp only [List.length_append, List.length_map, List.length_cons, List.length_nil]; omega)
  have hin : ∀ x, x ∈ allIn h o ds c0 cs → inD (lsI x) (llL (allIn h o ds c0 cs)) = some true := fun x hx => mem_in hx
  rw [hM] at hin
  simp only [llL] at e93a e93b e94
  generalize allIn h o ds c0 cs = M at *
  generalize hX : (lawIn h 6 o).map lsI = X at *
  generalize hY : (lawIn h 6 ds).map lsI = Y at *
  generalize hZ : (toldAll h o.length ds.length c0 (eturnF 6 o.length ds.length).reverse cs).map lsI = Z at *
  rw [ho] at *
  generalize climbO h c0 (eturnF 6 p ds.length).reverse cs = u at *
  generalize climb h c0 (eturnF 6 p ds.length).reverse cs = v at *
  generalize dig h [6, (p : Int), u] = I1 at *
  generalize dig h [6, (ds.length : Int), v] = I2 at *
  generalize dig h [6, (p : Int), partD h 6 o] = J1 at *
  generalize dig h [6, (ds.length : Int), partD h 6 ds] = J2 at *
  unfold l95_0
  rw [step (c' := ⟨[.dat (.lst (ns.map .int)), v1, .dat h.d, v3, .dat (.int i), .own (lsI l), w6, w7, w8, w9, w10, w11, w12], s⟩) (by
    generalize lsI l = Gl at *
    generalize h.d = Ghd at *
    simp [e39, e0, frl, fri])]
  rw [step (c' := ⟨[.dat (.lst (ns.map .int)), v1, .dat h.d, v3, .dat (.int i), .own (lsI l), .dat (.int p), w7, w8, w9, w10, w11, w12], s⟩) (by
    generalize lsI l = Gl at *
    generalize lsI ds = Gds at *
    generalize h.d = Ghd at *
    rcases h3 with rfl | rfl <;> simp [g0, ln, hp, show 0 < ds.length from h1])]
  rw [step (c' := ⟨[.dat (.lst (ns.map .int)), v1, .dat h.d, v3, .dat (.int i), .own (lsI l), .dat (.int p), .own (lsI (ds.take p)), w8, w9, w10, w11, w12], s⟩) (by
    generalize lsI l = Gl at *
    generalize lsI (ds.take p) = Gtp at *
    generalize lsI ds = Gds at *
    generalize h.d = Ghd at *
    rcases h3 with rfl | rfl <;> simp [c1])]
  rw [step (c' := ⟨[.dat (.lst (ns.map .int)), v1, .dat h.d, v3, .dat (.int i), .own (lsI l), .dat (.int p), .own (lsI (ds.take p)), .own (lsI (extF h 6 ds p)), w9, w10, w11, w12], s⟩) (by
    generalize lsI l = Gl at *
    generalize lsI (ds.take p) = Gtp at *
    generalize lsI (extF h 6 ds p) = Gpp at *
    generalize lsI ds = Gds at *
    generalize h.d = Ghd at *
    rcases h3 with rfl | rfl <;> simp [e83, frp])]
  rw [step (c' := ⟨[.dat (.lst (ns.map .int)), v1, .dat h.d, v3, .dat (.int i), .own (lsI l), .dat (.int p), .own (lsI (ds.take p)), .own (lsI (extF h 6 ds p)), w9, w10, w11, w12], s⟩) (by
    generalize lsI l = Gl at *
    generalize lsI (ds.take p) = Gtp at *
    generalize lsI (extF h 6 ds p) = Gpp at *
    generalize lsI ds = Gds at *
    generalize h.d = Ghd at *
    rcases h3 with rfl | rfl <;> simp [e91, frn])]
  rw [step eold, step e9, step eset]
  cases hc : fecF h o ds c0 cs with
  | none =>
    rw [hc, cn] at e91b
    rw [hc] at hsound
    refine ⟨v3, .own (lsI l), .dat (.int p), .own (lsI o), .own (lsI (extF h 6 ds p)), .own (lsI (c0 :: cs)), .dat .non, .dat (.tup [.int J1, .int J2]), w12, h3, ?_⟩
    rw [step (c' := ⟨[.dat (.lst (ns.map .int)), v1, .dat h.d, v3, .dat (.int i), .own (lsI l), .dat (.int p), .own (lsI o), .own (lsI (extF h 6 ds p)), .own (lsI (c0 :: cs)), .dat .non, w11, w12], s⟩) (by
      generalize lsI l = Gl at *
      generalize lsI (extF h 6 ds p) = Gpp at *
      generalize lsI (c0 :: cs) = Gcs at *
      generalize lsI o = Go at *
      generalize lsI (ds.take p) = Gtp at *
      generalize lsI ds = Gds at *
      generalize h.d = Ghd at *
      rcases h3 with rfl | rfl <;> simp [e91b, lo, ld, frn])]
    rw [step (c' := ⟨[.dat (.lst (ns.map .int)), v1, .dat h.d, v3, .dat (.int i), .own (lsI l), .dat (.int p), .own (lsI o), .own (lsI (extF h 6 ds p)), .own (lsI (c0 :: cs)), .dat .non, .dat (.tup [.int J1, .int J2]), w12], s⟩) (by
      generalize lsI l = Gl at *
      generalize lsI (extF h 6 ds p) = Gpp at *
      generalize lsI (c0 :: cs) = Gcs at *
      generalize lsI o = Go at *
      generalize lsI (ds.take p) = Gtp at *
      generalize lsI ds = Gds at *
      generalize h.d = Ghd at *
      rcases h3 with rfl | rfl <;> simp [e79a, e79b, fri])]
    have eT : evT P (callN P k) (.cmp .ne (.call 85 [(.v 2), (.v 6), (.blt .len [(.v 3)]), (.v 9)]) (.v 11)) ⟨[.dat (.lst (ns.map .int)), v1, .dat h.d, v3, .dat (.int i), .own (lsI l), .dat (.int p), .own (lsI o), .own (lsI (extF h 6 ds p)), .own (lsI (c0 :: cs)), .dat .non, .dat (.tup [.int J1, .int J2]), w12], s⟩ = .ok (!(I1 == J1 && I2 == J2)) ⟨[.dat (.lst (ns.map .int)), v1, .dat h.d, v3, .dat (.int i), .own (lsI l), .dat (.int p), .own (lsI o), .own (lsI (extF h 6 ds p)), .own (lsI (c0 :: cs)), .dat .non, .dat (.tup [.int J1, .int J2]), w12], s⟩ := by
      generalize lsI l = Gl at *
      generalize lsI (extF h 6 ds p) = Gpp at *
      generalize lsI (c0 :: cs) = Gcs at *
      generalize lsI o = Go at *
      generalize lsI (ds.take p) = Gtp at *
      generalize lsI ds = Gds at *
      generalize h.d = Ghd at *
      rcases h3 with rfl | rfl <;> simp [e85, ln, frt, shp_ii, deq_t2]
    by_cases q : I1 = J1 ∧ I2 = J2
    · have ho2 := hsound q.1 q.2 rfl
      have eF : (!(I1 == J1 && I2 == J2)) = false := by simp [q.1, q.2]
      rw [eF] at eT
      have dt : deq (lsI o) (lsI (ds.take p)) = true := by rw [dqo, ← ho2]; simp
      have eT1 : evT P (callN P k) (.cmp .ne (.v 7) (.sl (.v 3) none (some (.v 6)))) ⟨[.dat (.lst (ns.map .int)), v1, .dat h.d, v3, .dat (.int i), .own (lsI l), .dat (.int p), .own (lsI o), .own (lsI (extF h 6 ds p)), .own (lsI (c0 :: cs)), .dat .non, .dat (.tup [.int J1, .int J2]), w12], s⟩ = .ok false ⟨[.dat (.lst (ns.map .int)), v1, .dat h.d, v3, .dat (.int i), .own (lsI l), .dat (.int p), .own (lsI o), .own (lsI (extF h 6 ds p)), .own (lsI (c0 :: cs)), .dat .non, .dat (.tup [.int J1, .int J2]), w12], s⟩ := by
        generalize lsI l = Gl at *
        generalize lsI (extF h 6 ds p) = Gpp at *
        generalize lsI (c0 :: cs) = Gcs at *
        generalize lsI o = Go at *
        generalize lsI (ds.take p) = Gtp at *
        generalize lsI ds = Gds at *
        generalize h.d = Ghd at *
        rcases h3 with rfl | rfl <;> simp [c1, dt, so, st]
      have eT2 : evT P (callN P k) (.and (.cmp .ne (.v 7) (.sl (.v 3) none (some (.v 6)))) (.cmp .is (.v 10) .n)) ⟨[.dat (.lst (ns.map .int)), v1, .dat h.d, v3, .dat (.int i), .own (lsI l), .dat (.int p), .own (lsI o), .own (lsI (extF h 6 ds p)), .own (lsI (c0 :: cs)), .dat .non, .dat (.tup [.int J1, .int J2]), w12], s⟩ = .ok false ⟨[.dat (.lst (ns.map .int)), v1, .dat h.d, v3, .dat (.int i), .own (lsI l), .dat (.int p), .own (lsI o), .own (lsI (extF h 6 ds p)), .own (lsI (c0 :: cs)), .dat .non, .dat (.tup [.int J1, .int J2]), w12], s⟩ := by
        rw [evt_and, eT1]; rfl
      have eT3 : evT P (callN P k) (.cmp .isnot (.v 10) .n) ⟨[.dat (.lst (ns.map .int)), v1, .dat h.d, v3, .dat (.int i), .own (lsI l), .dat (.int p), .own (lsI o), .own (lsI (extF h 6 ds p)), .own (lsI (c0 :: cs)), .dat .non, .dat (.tup [.int J1, .int J2]), w12], s⟩ = .ok false ⟨[.dat (.lst (ns.map .int)), v1, .dat h.d, v3, .dat (.int i), .own (lsI l), .dat (.int p), .own (lsI o), .own (lsI (extF h 6 ds p)), .own (lsI (c0 :: cs)), .dat .non, .dat (.tup [.int J1, .int J2]), w12], s⟩ := by simp
      rw [step (c' := ⟨[.dat (.lst (ns.map .int)), v1, .dat h.d, v3, .dat (.int i), .own (lsI l), .dat (.int p), .own (lsI o), .own (lsI (extF h 6 ds p)), .own (lsI (c0 :: cs)), .dat .non, .dat (.tup [.int J1, .int J2]), w12], s⟩) (by
        rw [es_ife, eT, bind_ok, if_neg (by decide), lss_cons, es_ife, eT2]
        simp only [bind_ok]
        rw [if_neg (by decide), lss_cons, es_ife, eT3]
        simp)]
      simp
    · have eF : (!(I1 == J1 && I2 == J2)) = true := by
        by_cases q1 : I1 = J1
        · have q2 : ¬ I2 = J2 := fun z => q ⟨q1, z⟩
          simp [q2]
        · simp [q1]
      rw [eF] at eT
      rw [step (c' := ⟨[.dat (.lst (ns.map .int)), v1, .dat h.d, v3, .dat (.int i), .own (lsI l), .dat (.int p), .own (lsI o), .own (lsI (extF h 6 ds p)), .own (lsI (c0 :: cs)), .dat .non, .dat (.tup [.int J1, .int J2]), w12], s⟩) (by
        rw [es_ife, eT, bind_ok, if_pos rfl]
        simp)]
      simp
  | some ab =>
    obtain ⟨a, b⟩ := ab
    have q : I1 = J1 ∧ I2 = J2 := Classical.byContradiction fun z => by rw [hdiff z] at hc; cases hc
    obtain ⟨r1, r2, r3, r4⟩ := hsome (by omega) (by omega) h2 hcl hc
    have e81 := call81 (s := s) H.p81 ok r1 r2 (m := k) (by omega)
    have cs1 : clD (some (a, b)) = .tup [lsI a, lsI b] := rfl
    rw [hc, cs1] at e91b
    have i1 := hin a r3
    have i2 := hin b r4
    have nfr : (Rv.d (.tup [lsI a, lsI b])).free = false := rfl
    have nf2 : ∀ (A : List D) (z : Int), (Rv.own (.lst [.lst A, .int z])).free = false := fun _ _ => rfl
    have la : blt1 .list (lsI a) = some (.tmp (lsI a)) := by simp [lsI]
    have lb : blt1 .list (lsI b) = some (.tmp (lsI b)) := by simp [lsI]
    have eF : (!(I1 == J1 && I2 == J2)) = false := by simp [q.1, q.2]
    refine ⟨.dat (lsI ds), .own (lsI l), .dat (.int p), .dat (lsI o), .own (lsI (extF h 6 ds p)), .dat (lsI (c0 :: cs)), .dat (.tup [lsI a, lsI b]), .dat (.tup [.int J1, .int J2]), .own (.lst (X ++ Y ++ [D.lst [.int 6, .int p, .int (partD h 6 o)], D.lst [.int 6, .int ds.length, .int (partD h 6 ds)]] ++ Z)), .inr rfl, ?_⟩
    rw [step (c' := ⟨[.dat (.lst (ns.map .int)), v1, .dat h.d, v3, .dat (.int i), .own (lsI l), .dat (.int p), .own (lsI o), .own (lsI (extF h 6 ds p)), .dat (lsI (c0 :: cs)), .dat (.tup [lsI a, lsI b]), w11, w12], s⟩) (by
      generalize lsI l = Gl at *
      generalize lsI (extF h 6 ds p) = Gpp at *
      generalize lsI (c0 :: cs) = Gcs at *
      generalize lsI o = Go at *
      generalize lsI (ds.take p) = Gtp at *
      generalize lsI ds = Gds at *
      generalize lsI a = Ga at *
      generalize lsI b = Gb at *
      generalize h.d = Ghd at *
      rcases h3 with rfl | rfl <;> simp [e91b, lo, ld, nfr])]
    rw [step (c' := ⟨[.dat (.lst (ns.map .int)), v1, .dat h.d, v3, .dat (.int i), .own (lsI l), .dat (.int p), .own (lsI o), .own (lsI (extF h 6 ds p)), .dat (lsI (c0 :: cs)), .dat (.tup [lsI a, lsI b]), .dat (.tup [.int J1, .int J2]), w12], s⟩) (by
      generalize lsI l = Gl at *
      generalize lsI (extF h 6 ds p) = Gpp at *
      generalize lsI (c0 :: cs) = Gcs at *
      generalize lsI o = Go at *
      generalize lsI (ds.take p) = Gtp at *
      generalize lsI ds = Gds at *
      generalize lsI a = Ga at *
      generalize lsI b = Gb at *
      generalize h.d = Ghd at *
      rcases h3 with rfl | rfl <;> simp [e79a, e79b, fri])]
    have eT : evT P (callN P k) (.cmp .ne (.call 85 [(.v 2), (.v 6), (.blt .len [(.v 3)]), (.v 9)]) (.v 11)) ⟨[.dat (.lst (ns.map .int)), v1, .dat h.d, v3, .dat (.int i), .own (lsI l), .dat (.int p), .own (lsI o), .own (lsI (extF h 6 ds p)), .dat (lsI (c0 :: cs)), .dat (.tup [lsI a, lsI b]), .dat (.tup [.int J1, .int J2]), w12], s⟩ = .ok (!(I1 == J1 && I2 == J2)) ⟨[.dat (.lst (ns.map .int)), v1, .dat h.d, v3, .dat (.int i), .own (lsI l), .dat (.int p), .own (lsI o), .own (lsI (extF h 6 ds p)), .dat (lsI (c0 :: cs)), .dat (.tup [lsI a, lsI b]), .dat (.tup [.int J1, .int J2]), w12], s⟩ := by
      generalize lsI l = Gl at *
      generalize lsI (extF h 6 ds p) = Gpp at *
      generalize lsI (c0 :: cs) = Gcs at *
      generalize lsI o = Go at *
      generalize lsI (ds.take p) = Gtp at *
      generalize lsI ds = Gds at *
      generalize lsI a = Ga at *
      generalize lsI b = Gb at *
      generalize h.d = Ghd at *
      rcases h3 with rfl | rfl <;> simp [e85, ln, frt, shp_ii, deq_t2]
    rw [eF] at eT
    have eT2 : evT P (callN P k) (.and (.cmp .ne (.v 7) (.sl (.v 3) none (some (.v 6)))) (.cmp .is (.v 10) .n)) ⟨[.dat (.lst (ns.map .int)), v1, .dat h.d, v3, .dat (.int i), .own (lsI l), .dat (.int p), .own (lsI o), .own (lsI (extF h 6 ds p)), .dat (lsI (c0 :: cs)), .dat (.tup [lsI a, lsI b]), .dat (.tup [.int J1, .int J2]), w12], s⟩ = .ok false ⟨[.dat (.lst (ns.map .int)), v1, .dat h.d, v3, .dat (.int i), .own (lsI l), .dat (.int p), .own (lsI o), .own (lsI (extF h 6 ds p)), .dat (lsI (c0 :: cs)), .dat (.tup [lsI a, lsI b]), .dat (.tup [.int J1, .int J2]), w12], s⟩ := by
      generalize lsI l = Gl at *
      generalize lsI (extF h 6 ds p) = Gpp at *
      generalize lsI (c0 :: cs) = Gcs at *
      generalize lsI o = Go at *
      generalize lsI (ds.take p) = Gtp at *
      generalize lsI ds = Gds at *
      generalize lsI a = Ga at *
      generalize lsI b = Gb at *
      generalize h.d = Ghd at *
      cases hq : deq Go Gtp <;> rcases h3 with rfl | rfl <;> simp [c1, hq, so, st]
    have eT3 : evT P (callN P k) (.cmp .isnot (.v 10) .n) ⟨[.dat (.lst (ns.map .int)), v1, .dat h.d, v3, .dat (.int i), .own (lsI l), .dat (.int p), .own (lsI o), .own (lsI (extF h 6 ds p)), .dat (lsI (c0 :: cs)), .dat (.tup [lsI a, lsI b]), .dat (.tup [.int J1, .int J2]), w12], s⟩ = .ok true ⟨[.dat (.lst (ns.map .int)), v1, .dat h.d, v3, .dat (.int i), .own (lsI l), .dat (.int p), .own (lsI o), .own (lsI (extF h 6 ds p)), .dat (lsI (c0 :: cs)), .dat (.tup [lsI a, lsI b]), .dat (.tup [.int J1, .int J2]), w12], s⟩ := by simp
    have e12 : evS P (callN P k) (.asg (.nm 12) (.bin .add (.ix (.call 93 [(.v 2), (.v 7)]) (.i 0)) (.ix (.call 93 [(.v 2), (.v 3)]) (.i 0)))) ⟨[.dat (.lst (ns.map .int)), v1, .dat h.d, v3, .dat (.int i), .own (lsI l), .dat (.int p), .own (lsI o), .own (lsI (extF h 6 ds p)), .dat (lsI (c0 :: cs)), .dat (.tup [lsI a, lsI b]), .dat (.tup [.int J1, .int J2]), w12], s⟩ = .ok .nx ⟨[.dat (.lst (ns.map .int)), v1, .dat h.d, .dat (lsI ds), .dat (.int i), .own (lsI l), .dat (.int p), .dat (lsI o), .own (lsI (extF h 6 ds p)), .dat (lsI (c0 :: cs)), .dat (.tup [lsI a, lsI b]), .dat (.tup [.int J1, .int J2]), .own (.lst (X ++ Y))], s⟩ := by
      generalize lsI l = Gl at *
      generalize lsI (extF h 6 ds p) = Gpp at *
      generalize lsI (c0 :: cs) = Gcs at *
      generalize lsI o = Go at *
      generalize lsI (ds.take p) = Gtp at *
      generalize lsI ds = Gds at *
      generalize lsI a = Ga at *
      generalize lsI b = Gb at *
      generalize h.d = Ghd at *
      rcases h3 with rfl | rfl <;> simp [e93a, e93b, nf2, ad1]
    have e13 : evS P (callN P k) (.asg (.nm 12) (.bin .add (.v 12) (.lst [(.lst [(.i 6), (.v 6), (.ix (.call 93 [(.v 2), (.v 7)]) (.i 1))]), (.lst [(.i 6), (.blt .len [(.v 3)]), (.ix (.call 93 [(.v 2), (.v 3)]) (.i 1))])]))) ⟨[.dat (.lst (ns.map .int)), v1, .dat h.d, .dat (lsI ds), .dat (.int i), .own (lsI l), .dat (.int p), .dat (lsI o), .own (lsI (extF h 6 ds p)), .dat (lsI (c0 :: cs)), .dat (.tup [lsI a, lsI b]), .dat (.tup [.int J1, .int J2]), .own (.lst (X ++ Y))], s⟩ = .ok .nx ⟨[.dat (.lst (ns.map .int)), v1, .dat h.d, .dat (lsI ds), .dat (.int i), .own (lsI l), .dat (.int p), .dat (lsI o), .own (lsI (extF h 6 ds p)), .dat (lsI (c0 :: cs)), .dat (.tup [lsI a, lsI b]), .dat (.tup [.int J1, .int J2]), .own (.lst (X ++ Y ++ [D.lst [.int 6, .int p, .int (partD h 6 o)], D.lst [.int 6, .int ds.length, .int (partD h 6 ds)]]))], s⟩ := by
      generalize X ++ Y = XY at *
      generalize lsI l = Gl at *
      generalize lsI (extF h 6 ds p) = Gpp at *
      generalize lsI (c0 :: cs) = Gcs at *
      generalize lsI o = Go at *
      generalize lsI (ds.take p) = Gtp at *
      generalize lsI ds = Gds at *
      generalize lsI a = Ga at *
      generalize lsI b = Gb at *
      generalize h.d = Ghd at *
      generalize hXA : XY ++ [D.lst [.int 6, .int p, .int (partD h 6 o)], D.lst [.int 6, .int ds.length, .int (partD h 6 ds)]] = XA at *
      simp [e93a, e93b, nf2, ln, ad2]
    have e14 : evS P (callN P k) (.asg (.nm 12) (.bin .add (.v 12) (.call 94 [(.v 2), (.v 6), (.blt .len [(.v 3)]), (.v 9)]))) ⟨[.dat (.lst (ns.map .int)), v1, .dat h.d, .dat (lsI ds), .dat (.int i), .own (lsI l), .dat (.int p), .dat (lsI o), .own (lsI (extF h 6 ds p)), .dat (lsI (c0 :: cs)), .dat (.tup [lsI a, lsI b]), .dat (.tup [.int J1, .int J2]), .own (.lst (X ++ Y ++ [D.lst [.int 6, .int p, .int (partD h 6 o)], D.lst [.int 6, .int ds.length, .int (partD h 6 ds)]]))], s⟩ = .ok .nx ⟨[.dat (.lst (ns.map .int)), v1, .dat h.d, .dat (lsI ds), .dat (.int i), .own (lsI l), .dat (.int p), .dat (lsI o), .own (lsI (extF h 6 ds p)), .dat (lsI (c0 :: cs)), .dat (.tup [lsI a, lsI b]), .dat (.tup [.int J1, .int J2]), .own (.lst (X ++ Y ++ [D.lst [.int 6, .int p, .int (partD h 6 o)], D.lst [.int 6, .int ds.length, .int (partD h 6 ds)]] ++ Z))], s⟩ := by
      generalize X ++ Y ++ [D.lst [.int 6, .int p, .int (partD h 6 o)], D.lst [.int 6, .int ds.length, .int (partD h 6 ds)]] = XA at *
      generalize hXZ : XA ++ Z = XZ at *
      generalize lsI l = Gl at *
      generalize lsI (extF h 6 ds p) = Gpp at *
      generalize lsI (c0 :: cs) = Gcs at *
      generalize lsI o = Go at *
      generalize lsI (ds.take p) = Gtp at *
      generalize lsI ds = Gds at *
      generalize lsI a = Ga at *
      generalize lsI b = Gb at *
      generalize h.d = Ghd at *
      simp [e94, ln, ad3]
    have e15 : evS P (callN P k) (.ife (.or (.not (.call 81 [(.v 2), (.v 10)])) (.or (.cmp .nin (.blt .list [(.ix (.v 10) (.i 0))]) (.v 12)) (.cmp .nin (.blt .list [(.ix (.v 10) (.i 1))]) (.v 12)))) [.ret (.b false)] []) ⟨[.dat (.lst (ns.map .int)), v1, .dat h.d, .dat (lsI ds), .dat (.int i), .own (lsI l), .dat (.int p), .dat (lsI o), .own (lsI (extF h 6 ds p)), .dat (lsI (c0 :: cs)), .dat (.tup [lsI a, lsI b]), .dat (.tup [.int J1, .int J2]), .own (.lst (X ++ Y ++ [D.lst [.int 6, .int p, .int (partD h 6 o)], D.lst [.int 6, .int ds.length, .int (partD h 6 ds)]] ++ Z))], s⟩ = .ok .nx ⟨[.dat (.lst (ns.map .int)), v1, .dat h.d, .dat (lsI ds), .dat (.int i), .own (lsI l), .dat (.int p), .dat (lsI o), .own (lsI (extF h 6 ds p)), .dat (lsI (c0 :: cs)), .dat (.tup [lsI a, lsI b]), .dat (.tup [.int J1, .int J2]), .own (.lst (X ++ Y ++ [D.lst [.int 6, .int p, .int (partD h 6 o)], D.lst [.int 6, .int ds.length, .int (partD h 6 ds)]] ++ Z))], s⟩ := by
      generalize X ++ Y ++ [D.lst [.int 6, .int p, .int (partD h 6 o)], D.lst [.int 6, .int ds.length, .int (partD h 6 ds)]] ++ Z = XZ at *
      generalize lsI l = Gl at *
      generalize lsI (extF h 6 ds p) = Gpp at *
      generalize lsI (c0 :: cs) = Gcs at *
      generalize lsI o = Go at *
      generalize lsI (ds.take p) = Gtp at *
      generalize lsI ds = Gds at *
      generalize lsI a = Ga at *
      generalize lsI b = Gb at *
      generalize h.d = Ghd at *
      simp [e81, frb, la, lb, i1, i2]
    rw [step (c' := ⟨[.dat (.lst (ns.map .int)), v1, .dat h.d, .dat (lsI ds), .dat (.int i), .own (lsI l), .dat (.int p), .dat (lsI o), .own (lsI (extF h 6 ds p)), .dat (lsI (c0 :: cs)), .dat (.tup [lsI a, lsI b]), .dat (.tup [.int J1, .int J2]), .own (.lst (X ++ Y ++ [D.lst [.int 6, .int p, .int (partD h 6 o)], D.lst [.int 6, .int ds.length, .int (partD h 6 ds)]] ++ Z))], s⟩) (by
      rw [es_ife, eT, bind_ok, if_neg (by decide), lss_cons, es_ife, eT2]
      simp only [bind_ok]
      rw [if_neg (by decide), lss_cons, es_ife, eT3]
      simp only [bind_ok, if_true]
      rw [step e12, step e13, step e14, step e15]
      simp)]
    simp
end
end Ev
end
section
set_option maxRecDepth 100000
set_option maxHeartbeats 1000000
/-! Ext14: law k20, the whole. -/
namespace Ev
section
variable {P : Pg} {s : Sto}
theorem loop20 (H : HasR20 P) {h : Hs} (ok : h.ok) {ds : List Int} (h1 : 1 ≤ ds.length) (h2 : ds.length ≤ 2 ^ 6) {k : Nat} (hk : 15 ≤ k) (ns : List Int) {v1 : Sl} : ∀ (m : Nat) (i : Int) (v3 w4 w5 w6 w7 w8 w9 w10 w11 w12 : Sl), Lv (lsI ds) v3 →
    ∃ c', c'.sto = s ∧ forL (.nm 4) (evSs P (callN P k) l95_0) (rngL i m) ⟨[.dat (.lst (ns.map .int)), v1, .dat h.d, v3, w4, w5, w6, w7, w8, w9, w10, w11, w12], s⟩ = .ok .nx c'
  | 0, i, v3, w4, w5, w6, w7, w8, w9, w10, w11, w12, _ => ⟨_, rfl, rfl⟩
  | m + 1, i, v3, w4, w5, w6, w7, w8, w9, w10, w11, w12, h3 => by
    obtain ⟨v3', w5', w6', w7', w8', w9', w10', w11', w12', h3', e⟩ := turn20 (s := s) H ok h1 h2 hk ns i (v1 := v1) (w5 := w5) (w6 := w6) (w7 := w7) (w8 := w8) (w9 := w9) (w10 := w10) (w11 := w11) (w12 := w12) h3
    obtain ⟨c', hc, e'⟩ := loop20 H ok h1 h2 hk ns (v1 := v1) m (i + 1) v3' (.dat (.int i)) w5' w6' w7' w8' w9' w10' w11' w12' h3'
    refine ⟨c', hc, ?_⟩
    rw [← e']
    simp only [rngL]
    rw [forL]
    have ht : tgt (.nm 4) (.int i) ⟨[.dat (.lst (ns.map .int)), v1, .dat h.d, v3, w4, w5, w6, w7, w8, w9, w10, w11, w12], s⟩ = some ⟨[.dat (.lst (ns.map .int)), v1, .dat h.d, v3, .dat (.int i), w5, w6, w7, w8, w9, w10, w11, w12], s⟩ := rfl
    rw [ht]
    simp only [e, bind_ok]
theorem run95 (H : HasR20 P) {f : Fn} {g : Nat} (hg : P.fns g = some f) (hf : f = ⟨1, 13, [.asg (.nm 1) (.call 0 [(.call 39 [(.v 0), (.i 0)]), (.i 2)]),
    .asg (.nm 2) (.new 0 [(.bin .add (.i 2) (.bin .mod (.ix (.v 1) (.i 0)) (.i 12))), (.bin .add (.i 1) (.bin .mod (.ix (.v 1) (.i 1)) (.i 5)))]),
    .asg (.nm 3) (.call 69 [(.v 0), (.i 2), (.fld (.v 2) 0 0)]),
    .forr (.nm 4) .rng1 [(.i 12)] l95_0,
    .ret (.b true)]⟩) (ns : List Int) : ∃ s', callN P 16 g [.lst (ns.map .int)] s = .ok (.d (.bl true)) s' := by
  subst hf
  rw [call_eq hg rfl]
  obtain ⟨c, e39⟩ := call39 (s := s) H.p39 ns 0 (m := 15) (by decide)
  have e39 : callN P 15 39 [.lst (ns.map .int), .int 0] s = .ok (.d (.int c)) s := e39
  obtain ⟨l, hl, hr, e0⟩ := call0r (s := s) H.p0 c 2 (by decide) (m := 15) (by decide)
  have e0 : callN P 15 0 [.int c, .int 2] s = .ok (.own (lsI l)) s := e0
  have g0 : ixD (lsI l) (.int 0) = some (.int (l.getD 0 0)) := atI_lI (by omega) (by omega)
  have g1 : ixD (lsI l) (.int 1) = some (.int (l.getD 1 0)) := atI_lI (by omega) (by omega)
  have r0 := getD_rng hr 0
  have r1 := getD_rng hr 1
  have fr := free_lI l
  have fri : ∀ i, (Rv.d (.int i)).free = true := fun _ => rfl
  generalize l.getD 0 0 = a0 at *
  generalize l.getD 1 0 = a1 at *
  obtain ⟨h, hh⟩ : ∃ h : Hs, h = ⟨2 + a0 % 12, 1 + a1 % 5⟩ := ⟨_, rfl⟩
  have ok : h.ok := by rw [hh]; refine ⟨?_, ?_, ?_, ?_⟩ <;> simp only <;> omega
  have hn : newD 0 [.int (2 + a0 % 12), .int (1 + a1 % 5)] = some [.int (2 + a0 % 12), .int (1 + a1 % 5)] := newH (by rw [hh] at ok; exact ok)
  obtain ⟨ds, d1, d2, e69⟩ := call69 (s := s) H.p0 H.p69 (q := h.m) (by have := ok.1; omega) ns (m := 15) (by decide)
  have frd := free_lI ds
  obtain ⟨c', hc, e⟩ := loop20 (s := s) H ok d1 (by omega) (k := 15) (by decide) ns (v1 := .own (lsI l)) 12 0 (.own (lsI ds)) .no .no .no .no .no .no .no .no .no (.inl rfl)
  have st0 : startL 13 [.lst (ns.map D.int)] = [.dat (.lst (ns.map .int)), .no, .no, .no, .no, .no, .no, .no, .no, .no, .no, .no, .no] := rfl
  have hw : wkD .rng1 [.int 12] = some (rngL 0 12) := rfl
  refine ⟨s, ?_⟩
  show endR (evSs P (callN P 15) _ ⟨startL 13 _, s⟩) = _
  rw [st0]
  rw [step (c' := ⟨[.dat (.lst (ns.map .int)), .own (lsI l), .no, .no, .no, .no, .no, .no, .no, .no, .no, .no, .no], s⟩) (by
    generalize lsI l = Ll at *
    simp [e39, e0, fr, fri])]
  rw [step (c' := ⟨[.dat (.lst (ns.map .int)), .own (lsI l), .dat h.d, .no, .no, .no, .no, .no, .no, .no, .no, .no, .no], s⟩) (by
    generalize lsI l = Ll at *
    simp [g0, g1, hn, hh, Hs.d])]
  rw [step (c' := ⟨[.dat (.lst (ns.map .int)), .own (lsI l), .dat h.d, .own (lsI ds), .no, .no, .no, .no, .no, .no, .no, .no, .no], s⟩) (by
    generalize lsI l = Ll at *
    generalize lsI ds = Ld at *
    have hd : h.d = .obj 0 [.int h.m, .int h.k] := rfl
    simp only [hd] at *
    simp [e69, frd])]
  rw [step (c' := c') (by
    rw [es_forr]
    simp only [lvs_cons, evs_nil, ev_i, bind_ok, kq_es, kq_es2]
    rw [forL_d hw]
    exact e)]
  obtain ⟨env, st⟩ := c'
  have hc : st = s := hc
  subst hc
  simp
end
end Ev
end
set_option maxRecDepth 100000
set_option maxHeartbeats 1000000
/-! law_k20_rows_extension_clash -/
namespace Ev
open PySem L2
/-- law; 0 _law_script, 1 _law_draws_here, 2 _law_hasher, 3 _law_digests_here, 4 _law_k, 5 _law_part, 6 _law_many, 7 _law_old, 8 _law_paper, 9 _law_told_here, 10 _law_clash, 11 _law_due, 12 _law_inputs_here -/
def b95 : List S :=
   [.asg (.nm 1) (.call 0 [(.call 39 [(.v 0), (.i 0)]), (.i 2)]),
    .asg (.nm 2) (.new 0 [(.bin .add (.i 2) (.bin .mod (.ix (.v 1) (.i 0)) (.i 12))), (.bin .add (.i 1) (.bin .mod (.ix (.v 1) (.i 1)) (.i 5)))]),
    .asg (.nm 3) (.call 69 [(.v 0), (.i 2), (.fld (.v 2) 0 0)]),
    .forr (.nm 4) .rng1 [(.i 12)]
    l95_0,
    .ret (.b true)]
def f95 : Fn := ⟨1, 13, b95⟩
def pg : Pg := ⟨fun g => [(0, f0), (1, f1), (2, f2), (3, f3), (4, f4), (5, f5), (6, f6), (7, f7), (8, f8), (10, f10), (11, f11), (12, f12), (13, f13), (14, f14), (15, f15), (16, f16), (17, f17), (18, f18), (19, f19), (20, f20), (22, f22), (23, f23), (24, f24), (25, f25), (26, f26), (28, f28), (29, f29), (30, f30), (31, f31), (32, f32), (33, f33), (35, f35), (36, f36), (38, f38), (39, f39), (40, f40), (41, f41), (42, f42), (43, f43), (44, f44), (45, f45), (46, f46), (47, f47), (48, f48), (49, f49), (50, f50), (51, f51), (52, f52), (53, f53), (54, f54), (55, f55), (56, f56), (57, f57), (59, f59), (60, f60), (61, f61), (62, f62), (63, f63), (64, f64), (65, f65), (66, f66), (67, f67), (69, f69), (70, f70), (71, f71), (72, f72), (73, f73), (74, f74), (75, f75), (76, f76), (77, f77), (78, f78), (79, f79), (80, f80), (81, f81), (83, f83), (84, f84), (85, f85), (86, f86), (87, f87), (88, f88), (89, f89), (90, f90), (91, f91), (92, f92), (93, f93), (94, f94), (95, f95)].lookup g, fun g => none⟩
def depth : Nat := 16
theorem hasR : HasR pg := ⟨rfl, rfl, rfl, rfl, rfl, rfl, rfl, rfl⟩
theorem hasE : HasE pg := ⟨hasR, rfl, rfl, rfl, rfl, rfl, rfl, rfl, rfl, rfl⟩
theorem hasL : HasL pg := ⟨hasE, rfl, rfl, rfl⟩
theorem has20 : HasR20 pg := ⟨hasL, rfl, rfl, rfl, rfl⟩
theorem run (ns : List Int) (h : ns.length ≤ 63) : ∃ s, callN pg depth 95 [.lst (ns.map .int)] [] = .ok (.d (.bl true)) s := run95 (s := []) has20 (f := f95) rfl rfl ns
def top (i : Nat) : Stmt := PySem.Challenge.pw_askedthen_k20_rows_extension_clash.main.body.getD i (.Pass ⟨0, 0, 0, 0⟩)
def lk : Lk := ⟨fun g => [0, 39, 69, 70, 71, 72, 73, 79, 81, 83, 84, 85, 86, 87, 88, 89, 90, 91, 92, 93, 94, 95].contains g, fun g x => false, fun g => (([(0, "_law_draws"), (39, "_law_cell"), (42, "digest"), (69, "_law_digests"), (70, "left_size"), (71, "leaf_digest"), (72, "node_digest"), (73, "part_digest"), (79, "row_digest"), (81, "_law_is_clash"), (83, "extension"), (84, "extension_turns"), (85, "extended_digests"), (86, "paper_inputs"), (87, "unlike_inputs"), (88, "part_input"), (89, "way_inputs"), (90, "find_part_clash"), (91, "find_extension_clash"), (92, "_law_half"), (93, "_law_inputs"), (94, "_law_told"), (95, "law")] : List (Nat × PySem.Str)).lookup g).getD "", fun g => [0].contains g, fun g h => [(0, 42)].contains (g, h), fun g => [0].contains g⟩
def nn0 : List PySem.Str := ["_law_cell_here", "_law_many", "_law_rows", "_law_rest", "_law_k", "_law_state"]
def pp0 : List PySem.Str := ["_law_cell_here", "_law_many"]
theorem sc0 : FnScope nn0 pp0 (defScope (top 22)) := ⟨rfl, rfl, rfl, by decide +kernel, rfl, by decide +kernel, by decide +kernel⟩
theorem ok0 : okSts lk nn0 (defScope (top 22)) b0 (defBody (top 22)) = true := by decide +kernel
def nn39 : List PySem.Str := ["_law_script", "_law_k"]
def pp39 : List PySem.Str := ["_law_script", "_law_k"]
theorem sc39 : FnScope nn39 pp39 (defScope (top 21)) := ⟨rfl, rfl, rfl, by decide +kernel, rfl, by decide +kernel, by decide +kernel⟩
theorem ok39 : okSts lk nn39 (defScope (top 21)) b39 (defBody (top 21)) = true := by decide +kernel
def nn42 : List PySem.Str := ["self", "numbers", "value", "number"]
def pp42 : List PySem.Str := ["self", "numbers"]
theorem sc42 : FnScope nn42 pp42 (defScope (inClass (top 19) 1)) := ⟨rfl, rfl, rfl, by decide +kernel, rfl, by decide +kernel, by decide +kernel⟩
theorem ok42 : okSts lk nn42 (defScope (inClass (top 19) 1)) b42 (defBody (inClass (top 19) 1)) = true := by decide +kernel
def nn69 : List PySem.Str := ["_law_script", "_law_start", "_law_modulus", "_law_digests_here", "_law_cell_here", "_law_draws_here"]
def pp69 : List PySem.Str := ["_law_script", "_law_start", "_law_modulus"]
theorem sc69 : FnScope nn69 pp69 (defScope (top 23)) := ⟨rfl, rfl, rfl, by decide +kernel, rfl, by decide +kernel, by decide +kernel⟩
theorem ok69 : okSts lk nn69 (defScope (top 23)) b69 (defBody (top 23)) = true := by decide +kernel
def nn70 : List PySem.Str := ["size", "power"]
def pp70 : List PySem.Str := ["size"]
theorem sc70 : FnScope nn70 pp70 (defScope (top 4)) := ⟨rfl, rfl, rfl, by decide +kernel, rfl, by decide +kernel, by decide +kernel⟩
theorem ok70 : okSts lk nn70 (defScope (top 4)) b70 (defBody (top 4)) = true := by decide +kernel
def nn71 : List PySem.Str := ["hasher", "digest"]
def pp71 : List PySem.Str := ["hasher", "digest"]
theorem sc71 : FnScope nn71 pp71 (defScope (top 5)) := ⟨rfl, rfl, rfl, by decide +kernel, rfl, by decide +kernel, by decide +kernel⟩
theorem ok71 : okSts lk nn71 (defScope (top 5)) b71 (defBody (top 5)) = true := by decide +kernel
def nn72 : List PySem.Str := ["hasher", "left", "right"]
def pp72 : List PySem.Str := ["hasher", "left", "right"]
theorem sc72 : FnScope nn72 pp72 (defScope (top 6)) := ⟨rfl, rfl, rfl, by decide +kernel, rfl, by decide +kernel, by decide +kernel⟩
theorem ok72 : okSts lk nn72 (defScope (top 6)) b72 (defBody (top 6)) = true := by decide +kernel
def nn73 : List PySem.Str := ["hasher", "digests", "size"]
def pp73 : List PySem.Str := ["hasher", "digests"]
theorem sc73 : FnScope nn73 pp73 (defScope (top 7)) := ⟨rfl, rfl, rfl, by decide +kernel, rfl, by decide +kernel, by decide +kernel⟩
theorem ok73 : okSts lk nn73 (defScope (top 7)) b73 (defBody (top 7)) = true := by decide +kernel
def nn79 : List PySem.Str := ["hasher", "digests"]
def pp79 : List PySem.Str := ["hasher", "digests"]
theorem sc79 : FnScope nn79 pp79 (defScope (top 8)) := ⟨rfl, rfl, rfl, by decide +kernel, rfl, by decide +kernel, by decide +kernel⟩
theorem ok79 : okSts lk nn79 (defScope (top 8)) b79 (defBody (top 8)) = true := by decide +kernel
def nn81 : List PySem.Str := ["_law_hasher", "_law_pair", "_law_values", "_law_numbers", "_law_value", "_law_number"]
def pp81 : List PySem.Str := ["_law_hasher", "_law_pair"]
theorem sc81 : FnScope nn81 pp81 (defScope (top 24)) := ⟨rfl, rfl, rfl, by decide +kernel, rfl, by decide +kernel, by decide +kernel⟩
theorem ok81 : okSts lk nn81 (defScope (top 24)) b81 (defBody (top 24)) = true := by decide +kernel
def nn83 : List PySem.Str := ["hasher", "digests", "size", "left"]
def pp83 : List PySem.Str := ["hasher", "digests", "size"]
theorem sc83 : FnScope nn83 pp83 (defScope (top 9)) := ⟨rfl, rfl, rfl, by decide +kernel, rfl, by decide +kernel, by decide +kernel⟩
theorem ok83 : okSts lk nn83 (defScope (top 9)) b83 (defBody (top 9)) = true := by decide +kernel
def nn84 : List PySem.Str := ["old", "size", "turns", "left"]
def pp84 : List PySem.Str := ["old", "size"]
theorem sc84 : FnScope nn84 pp84 (defScope (top 10)) := ⟨rfl, rfl, rfl, by decide +kernel, rfl, by decide +kernel, by decide +kernel⟩
theorem ok84 : okSts lk nn84 (defScope (top 10)) b84 (defBody (top 10)) = true := by decide +kernel
def nn85 : List PySem.Str := ["hasher", "old", "size", "paper", "turns", "before", "after", "right", "beside"]
def pp85 : List PySem.Str := ["hasher", "old", "size", "paper"]
theorem sc85 : FnScope nn85 pp85 (defScope (top 11)) := ⟨rfl, rfl, rfl, by decide +kernel, rfl, by decide +kernel, by decide +kernel⟩
theorem ok85 : okSts lk nn85 (defScope (top 11)) b85 (defBody (top 11)) = true := by decide +kernel
def nn86 : List PySem.Str := ["hasher", "old", "size", "paper", "before", "after", "low", "high", "right", "beside"]
def pp86 : List PySem.Str := ["hasher", "old", "size", "paper"]
theorem sc86 : FnScope nn86 pp86 (defScope (top 15)) := ⟨rfl, rfl, rfl, by decide +kernel, rfl, by decide +kernel, by decide +kernel⟩
theorem ok86 : okSts lk nn86 (defScope (top 15)) b86 (defBody (top 15)) = true := by decide +kernel
def nn87 : List PySem.Str := ["hasher", "true", "told", "one", "other"]
def pp87 : List PySem.Str := ["hasher", "true", "told"]
theorem sc87 : FnScope nn87 pp87 (defScope (top 14)) := ⟨rfl, rfl, rfl, by decide +kernel, rfl, by decide +kernel, by decide +kernel⟩
theorem ok87 : okSts lk nn87 (defScope (top 14)) b87 (defBody (top 14)) = true := by decide +kernel
def nn88 : List PySem.Str := ["hasher", "digests", "size"]
def pp88 : List PySem.Str := ["hasher", "digests"]
theorem sc88 : FnScope nn88 pp88 (defScope (top 13)) := ⟨rfl, rfl, rfl, by decide +kernel, rfl, by decide +kernel, by decide +kernel⟩
theorem ok88 : okSts lk nn88 (defScope (top 13)) b88 (defBody (top 13)) = true := by decide +kernel
def nn89 : List PySem.Str := ["hasher", "digests", "turns", "inputs", "right", "size"]
def pp89 : List PySem.Str := ["hasher", "digests", "turns"]
theorem sc89 : FnScope nn89 pp89 (defScope (top 16)) := ⟨rfl, rfl, rfl, by decide +kernel, rfl, by decide +kernel, by decide +kernel⟩
theorem ok89 : okSts lk nn89 (defScope (top 16)) b89 (defBody (top 16)) = true := by decide +kernel
def nn90 : List PySem.Str := ["hasher", "one", "other", "size", "first", "second", "found"]
def pp90 : List PySem.Str := ["hasher", "one", "other"]
theorem sc90 : FnScope nn90 pp90 (defScope (top 12)) := ⟨rfl, rfl, rfl, by decide +kernel, rfl, by decide +kernel, by decide +kernel⟩
theorem ok90 : okSts lk nn90 (defScope (top 12)) b90 (defBody (top 12)) = true := by decide +kernel
def nn91 : List PySem.Str := ["hasher", "old", "new", "paper", "turns", "before", "after", "found", "right", "start", "size", "left"]
def pp91 : List PySem.Str := ["hasher", "old", "new", "paper"]
theorem sc91 : FnScope nn91 pp91 (defScope (top 17)) := ⟨rfl, rfl, rfl, by decide +kernel, rfl, by decide +kernel, by decide +kernel⟩
theorem ok91 : okSts lk nn91 (defScope (top 17)) b91 (defBody (top 17)) = true := by decide +kernel
def nn92 : List PySem.Str := ["_law_size", "_law_half_here", "_law_step"]
def pp92 : List PySem.Str := ["_law_size"]
theorem sc92 : FnScope nn92 pp92 (defScope (top 25)) := ⟨rfl, rfl, rfl, by decide +kernel, rfl, by decide +kernel, by decide +kernel⟩
theorem ok92 : okSts lk nn92 (defScope (top 25)) b92 (defBody (top 25)) = true := by decide +kernel
def nn93 : List PySem.Str := ["_law_hasher", "_law_digests_here", "_law_half_here", "_law_left", "_law_right", "_law_own"]
def pp93 : List PySem.Str := ["_law_hasher", "_law_digests_here"]
theorem sc93 : FnScope nn93 pp93 (defScope (top 26)) := ⟨rfl, rfl, rfl, by decide +kernel, rfl, by decide +kernel, by decide +kernel⟩
theorem ok93 : okSts lk nn93 (defScope (top 26)) b93 (defBody (top 26)) = true := by decide +kernel
def nn94 : List PySem.Str := ["_law_hasher", "_law_many", "_law_size", "_law_paper", "_law_turns", "_law_before", "_law_after", "_law_turn", "_law_half_here", "_law_old", "_law_new", "_law_inputs_here", "_law_k", "_law_right"]
def pp94 : List PySem.Str := ["_law_hasher", "_law_many", "_law_size", "_law_paper"]
theorem sc94 : FnScope nn94 pp94 (defScope (top 27)) := ⟨rfl, rfl, rfl, by decide +kernel, rfl, by decide +kernel, by decide +kernel⟩
theorem ok94 : okSts lk nn94 (defScope (top 27)) b94 (defBody (top 27)) = true := by decide +kernel
def nn95 : List PySem.Str := ["_law_script", "_law_draws_here", "_law_hasher", "_law_digests_here", "_law_k", "_law_part", "_law_many", "_law_old", "_law_paper", "_law_told_here", "_law_clash", "_law_due", "_law_inputs_here"]
def pp95 : List PySem.Str := ["_law_script"]
theorem sc95 : FnScope nn95 pp95 (defScope (top 28)) := ⟨rfl, rfl, rfl, by decide +kernel, rfl, by decide +kernel, by decide +kernel⟩
theorem ok95 : okSts lk nn95 (defScope (top 28)) b95 (defBody (top 28)) = true := by decide +kernel
theorem all_mk {l : PySem.W.OpenLaw} {w : World} {K : PySem.W.Frag} {h : Heap} {mg : PySem.Str → Option Value} {fa : Addr} (X : K.In h) (G : h.Ns mainGlobals mg) (hfa : mg "law" = some (.ref fa))
    {kCHasher : Addr} (kAHasher : PySem.W.nsIn K mainGlobals "Hasher" = some (some (.ref kCHasher))) (kGHasher : PySem.W.plainGet K kCHasher Str.empty = true) (kDHasher : PySem.W.hasDictIn K kCHasher = true) (kOHasher : PySem.W.plainOver K kCHasher = true) (kSHasher : PySem.W.findIn K (.ref kCHasher) "__setattr__" = some (some (.builtin "object.__setattr__")))
    (kFHasher0 : PySem.W.findIn K (.ref kCHasher) "modulus" = some none)
    (kFHasher1 : PySem.W.findIn K (.ref kCHasher) "multiplier" = some none)
    {iAHasher : Addr} {iBHasher iNHasher : Option Addr} {iLHasher : Array (Option Value)} {iOHasher iVHasher iXHasher iPHasher iKHasher iTHasher : Value}
    (iMHasher : PySem.W.makesIn K kCHasher = true) (iYHasher : PySem.W.keepIn K (.ref kCHasher) = true) (iFHasher : PySem.W.findIn K (.ref kCHasher) "__init__" = some (some (.ref iAHasher))) (iIHasher : PySem.W.isFn K (.ref iAHasher) = true)
    (iUHasher : K.lookup iAHasher = some ⟨iOHasher, iBHasher, .func (PySem.W.fnOf "__init__" "Hasher.__init__" (defArgs (inClass (top 19) 0)) (defBody (inClass (top 19) 0)) (defScope (inClass (top 19) 0)) .none iVHasher iXHasher iPHasher iNHasher iKHasher iTHasher), iLHasher⟩) (iCHasher : PySem.W.codeIn K iKHasher "Hasher.__init__" = true) (iZHasher : PySem.W.keepIn K (.ref iAHasher) = true)
    {a0 : Addr} {od0 an0 : Option Addr} {sl0 : Array (Option Value)} {oc0 kv0 dc0 pm0 cd0 ct0 : Value}
    (ha0 : PySem.W.nsIn K mainGlobals "_law_draws" = some (some (.ref a0))) (hl0 : K.lookup a0 = some ⟨oc0, od0, .func (PySem.W.fnOf "_law_draws" "_law_draws" (defArgs (top 22)) (defBody (top 22)) (defScope (top 22)) .none kv0 dc0 pm0 an0 cd0 ct0), sl0⟩) (hc0 : PySem.W.codeIn K cd0 "_law_draws" = true) (hk0 : PySem.W.keepIn K (.ref a0) = true)
    {a39 : Addr} {od39 an39 : Option Addr} {sl39 : Array (Option Value)} {oc39 kv39 dc39 pm39 cd39 ct39 : Value}
    (ha39 : PySem.W.nsIn K mainGlobals "_law_cell" = some (some (.ref a39))) (hl39 : K.lookup a39 = some ⟨oc39, od39, .func (PySem.W.fnOf "_law_cell" "_law_cell" (defArgs (top 21)) (defBody (top 21)) (defScope (top 21)) .none kv39 dc39 pm39 an39 cd39 ct39), sl39⟩) (hc39 : PySem.W.codeIn K cd39 "_law_cell" = true) (hk39 : PySem.W.keepIn K (.ref a39) = true)
    {a42 : Addr} {od42 an42 : Option Addr} {sl42 : Array (Option Value)} {oc42 kv42 dc42 pm42 cd42 ct42 : Value}
    (hb42 : PySem.W.findIn K (.ref kCHasher) "digest" = some (some (.ref a42))) (hi42 : PySem.W.isFn K (.ref a42) = true) (hl42 : K.lookup a42 = some ⟨oc42, od42, .func (PySem.W.fnOf "digest" "Hasher.digest" (defArgs (inClass (top 19) 1)) (defBody (inClass (top 19) 1)) (defScope (inClass (top 19) 1)) .none kv42 dc42 pm42 an42 cd42 ct42), sl42⟩) (hc42 : PySem.W.codeIn K cd42 "Hasher.digest" = true) (hk42 : PySem.W.keepIn K (.ref a42) = true)
    {a69 : Addr} {od69 an69 : Option Addr} {sl69 : Array (Option Value)} {oc69 kv69 dc69 pm69 cd69 ct69 : Value}
    (ha69 : PySem.W.nsIn K mainGlobals "_law_digests" = some (some (.ref a69))) (hl69 : K.lookup a69 = some ⟨oc69, od69, .func (PySem.W.fnOf "_law_digests" "_law_digests" (defArgs (top 23)) (defBody (top 23)) (defScope (top 23)) .none kv69 dc69 pm69 an69 cd69 ct69), sl69⟩) (hc69 : PySem.W.codeIn K cd69 "_law_digests" = true) (hk69 : PySem.W.keepIn K (.ref a69) = true)
    {a70 : Addr} {od70 an70 : Option Addr} {sl70 : Array (Option Value)} {oc70 kv70 dc70 pm70 cd70 ct70 : Value}
    (ha70 : PySem.W.nsIn K mainGlobals "left_size" = some (some (.ref a70))) (hl70 : K.lookup a70 = some ⟨oc70, od70, .func (PySem.W.fnOf "left_size" "left_size" (defArgs (top 4)) (defBody (top 4)) (defScope (top 4)) .none kv70 dc70 pm70 an70 cd70 ct70), sl70⟩) (hc70 : PySem.W.codeIn K cd70 "left_size" = true) (hk70 : PySem.W.keepIn K (.ref a70) = true)
    {a71 : Addr} {od71 an71 : Option Addr} {sl71 : Array (Option Value)} {oc71 kv71 dc71 pm71 cd71 ct71 : Value}
    (ha71 : PySem.W.nsIn K mainGlobals "leaf_digest" = some (some (.ref a71))) (hl71 : K.lookup a71 = some ⟨oc71, od71, .func (PySem.W.fnOf "leaf_digest" "leaf_digest" (defArgs (top 5)) (defBody (top 5)) (defScope (top 5)) .none kv71 dc71 pm71 an71 cd71 ct71), sl71⟩) (hc71 : PySem.W.codeIn K cd71 "leaf_digest" = true) (hk71 : PySem.W.keepIn K (.ref a71) = true)
    {a72 : Addr} {od72 an72 : Option Addr} {sl72 : Array (Option Value)} {oc72 kv72 dc72 pm72 cd72 ct72 : Value}
    (ha72 : PySem.W.nsIn K mainGlobals "node_digest" = some (some (.ref a72))) (hl72 : K.lookup a72 = some ⟨oc72, od72, .func (PySem.W.fnOf "node_digest" "node_digest" (defArgs (top 6)) (defBody (top 6)) (defScope (top 6)) .none kv72 dc72 pm72 an72 cd72 ct72), sl72⟩) (hc72 : PySem.W.codeIn K cd72 "node_digest" = true) (hk72 : PySem.W.keepIn K (.ref a72) = true)
    {a73 : Addr} {od73 an73 : Option Addr} {sl73 : Array (Option Value)} {oc73 kv73 dc73 pm73 cd73 ct73 : Value}
    (ha73 : PySem.W.nsIn K mainGlobals "part_digest" = some (some (.ref a73))) (hl73 : K.lookup a73 = some ⟨oc73, od73, .func (PySem.W.fnOf "part_digest" "part_digest" (defArgs (top 7)) (defBody (top 7)) (defScope (top 7)) .none kv73 dc73 pm73 an73 cd73 ct73), sl73⟩) (hc73 : PySem.W.codeIn K cd73 "part_digest" = true) (hk73 : PySem.W.keepIn K (.ref a73) = true)
    {a79 : Addr} {od79 an79 : Option Addr} {sl79 : Array (Option Value)} {oc79 kv79 dc79 pm79 cd79 ct79 : Value}
    (ha79 : PySem.W.nsIn K mainGlobals "row_digest" = some (some (.ref a79))) (hl79 : K.lookup a79 = some ⟨oc79, od79, .func (PySem.W.fnOf "row_digest" "row_digest" (defArgs (top 8)) (defBody (top 8)) (defScope (top 8)) .none kv79 dc79 pm79 an79 cd79 ct79), sl79⟩) (hc79 : PySem.W.codeIn K cd79 "row_digest" = true) (hk79 : PySem.W.keepIn K (.ref a79) = true)
    {a81 : Addr} {od81 an81 : Option Addr} {sl81 : Array (Option Value)} {oc81 kv81 dc81 pm81 cd81 ct81 : Value}
    (ha81 : PySem.W.nsIn K mainGlobals "_law_is_clash" = some (some (.ref a81))) (hl81 : K.lookup a81 = some ⟨oc81, od81, .func (PySem.W.fnOf "_law_is_clash" "_law_is_clash" (defArgs (top 24)) (defBody (top 24)) (defScope (top 24)) .none kv81 dc81 pm81 an81 cd81 ct81), sl81⟩) (hc81 : PySem.W.codeIn K cd81 "_law_is_clash" = true) (hk81 : PySem.W.keepIn K (.ref a81) = true)
    {a83 : Addr} {od83 an83 : Option Addr} {sl83 : Array (Option Value)} {oc83 kv83 dc83 pm83 cd83 ct83 : Value}
    (ha83 : PySem.W.nsIn K mainGlobals "extension" = some (some (.ref a83))) (hl83 : K.lookup a83 = some ⟨oc83, od83, .func (PySem.W.fnOf "extension" "extension" (defArgs (top 9)) (defBody (top 9)) (defScope (top 9)) .none kv83 dc83 pm83 an83 cd83 ct83), sl83⟩) (hc83 : PySem.W.codeIn K cd83 "extension" = true) (hk83 : PySem.W.keepIn K (.ref a83) = true)
    {a84 : Addr} {od84 an84 : Option Addr} {sl84 : Array (Option Value)} {oc84 kv84 dc84 pm84 cd84 ct84 : Value}
    (ha84 : PySem.W.nsIn K mainGlobals "extension_turns" = some (some (.ref a84))) (hl84 : K.lookup a84 = some ⟨oc84, od84, .func (PySem.W.fnOf "extension_turns" "extension_turns" (defArgs (top 10)) (defBody (top 10)) (defScope (top 10)) .none kv84 dc84 pm84 an84 cd84 ct84), sl84⟩) (hc84 : PySem.W.codeIn K cd84 "extension_turns" = true) (hk84 : PySem.W.keepIn K (.ref a84) = true)
    {a85 : Addr} {od85 an85 : Option Addr} {sl85 : Array (Option Value)} {oc85 kv85 dc85 pm85 cd85 ct85 : Value}
    (ha85 : PySem.W.nsIn K mainGlobals "extended_digests" = some (some (.ref a85))) (hl85 : K.lookup a85 = some ⟨oc85, od85, .func (PySem.W.fnOf "extended_digests" "extended_digests" (defArgs (top 11)) (defBody (top 11)) (defScope (top 11)) .none kv85 dc85 pm85 an85 cd85 ct85), sl85⟩) (hc85 : PySem.W.codeIn K cd85 "extended_digests" = true) (hk85 : PySem.W.keepIn K (.ref a85) = true)
    {a86 : Addr} {od86 an86 : Option Addr} {sl86 : Array (Option Value)} {oc86 kv86 dc86 pm86 cd86 ct86 : Value}
    (ha86 : PySem.W.nsIn K mainGlobals "paper_inputs" = some (some (.ref a86))) (hl86 : K.lookup a86 = some ⟨oc86, od86, .func (PySem.W.fnOf "paper_inputs" "paper_inputs" (defArgs (top 15)) (defBody (top 15)) (defScope (top 15)) .none kv86 dc86 pm86 an86 cd86 ct86), sl86⟩) (hc86 : PySem.W.codeIn K cd86 "paper_inputs" = true) (hk86 : PySem.W.keepIn K (.ref a86) = true)
    {a87 : Addr} {od87 an87 : Option Addr} {sl87 : Array (Option Value)} {oc87 kv87 dc87 pm87 cd87 ct87 : Value}
    (ha87 : PySem.W.nsIn K mainGlobals "unlike_inputs" = some (some (.ref a87))) (hl87 : K.lookup a87 = some ⟨oc87, od87, .func (PySem.W.fnOf "unlike_inputs" "unlike_inputs" (defArgs (top 14)) (defBody (top 14)) (defScope (top 14)) .none kv87 dc87 pm87 an87 cd87 ct87), sl87⟩) (hc87 : PySem.W.codeIn K cd87 "unlike_inputs" = true) (hk87 : PySem.W.keepIn K (.ref a87) = true)
    {a88 : Addr} {od88 an88 : Option Addr} {sl88 : Array (Option Value)} {oc88 kv88 dc88 pm88 cd88 ct88 : Value}
    (ha88 : PySem.W.nsIn K mainGlobals "part_input" = some (some (.ref a88))) (hl88 : K.lookup a88 = some ⟨oc88, od88, .func (PySem.W.fnOf "part_input" "part_input" (defArgs (top 13)) (defBody (top 13)) (defScope (top 13)) .none kv88 dc88 pm88 an88 cd88 ct88), sl88⟩) (hc88 : PySem.W.codeIn K cd88 "part_input" = true) (hk88 : PySem.W.keepIn K (.ref a88) = true)
    {a89 : Addr} {od89 an89 : Option Addr} {sl89 : Array (Option Value)} {oc89 kv89 dc89 pm89 cd89 ct89 : Value}
    (ha89 : PySem.W.nsIn K mainGlobals "way_inputs" = some (some (.ref a89))) (hl89 : K.lookup a89 = some ⟨oc89, od89, .func (PySem.W.fnOf "way_inputs" "way_inputs" (defArgs (top 16)) (defBody (top 16)) (defScope (top 16)) .none kv89 dc89 pm89 an89 cd89 ct89), sl89⟩) (hc89 : PySem.W.codeIn K cd89 "way_inputs" = true) (hk89 : PySem.W.keepIn K (.ref a89) = true)
    {a90 : Addr} {od90 an90 : Option Addr} {sl90 : Array (Option Value)} {oc90 kv90 dc90 pm90 cd90 ct90 : Value}
    (ha90 : PySem.W.nsIn K mainGlobals "find_part_clash" = some (some (.ref a90))) (hl90 : K.lookup a90 = some ⟨oc90, od90, .func (PySem.W.fnOf "find_part_clash" "find_part_clash" (defArgs (top 12)) (defBody (top 12)) (defScope (top 12)) .none kv90 dc90 pm90 an90 cd90 ct90), sl90⟩) (hc90 : PySem.W.codeIn K cd90 "find_part_clash" = true) (hk90 : PySem.W.keepIn K (.ref a90) = true)
    {a91 : Addr} {od91 an91 : Option Addr} {sl91 : Array (Option Value)} {oc91 kv91 dc91 pm91 cd91 ct91 : Value}
    (ha91 : PySem.W.nsIn K mainGlobals "find_extension_clash" = some (some (.ref a91))) (hl91 : K.lookup a91 = some ⟨oc91, od91, .func (PySem.W.fnOf "find_extension_clash" "find_extension_clash" (defArgs (top 17)) (defBody (top 17)) (defScope (top 17)) .none kv91 dc91 pm91 an91 cd91 ct91), sl91⟩) (hc91 : PySem.W.codeIn K cd91 "find_extension_clash" = true) (hk91 : PySem.W.keepIn K (.ref a91) = true)
    {a92 : Addr} {od92 an92 : Option Addr} {sl92 : Array (Option Value)} {oc92 kv92 dc92 pm92 cd92 ct92 : Value}
    (ha92 : PySem.W.nsIn K mainGlobals "_law_half" = some (some (.ref a92))) (hl92 : K.lookup a92 = some ⟨oc92, od92, .func (PySem.W.fnOf "_law_half" "_law_half" (defArgs (top 25)) (defBody (top 25)) (defScope (top 25)) .none kv92 dc92 pm92 an92 cd92 ct92), sl92⟩) (hc92 : PySem.W.codeIn K cd92 "_law_half" = true) (hk92 : PySem.W.keepIn K (.ref a92) = true)
    {a93 : Addr} {od93 an93 : Option Addr} {sl93 : Array (Option Value)} {oc93 kv93 dc93 pm93 cd93 ct93 : Value}
    (ha93 : PySem.W.nsIn K mainGlobals "_law_inputs" = some (some (.ref a93))) (hl93 : K.lookup a93 = some ⟨oc93, od93, .func (PySem.W.fnOf "_law_inputs" "_law_inputs" (defArgs (top 26)) (defBody (top 26)) (defScope (top 26)) .none kv93 dc93 pm93 an93 cd93 ct93), sl93⟩) (hc93 : PySem.W.codeIn K cd93 "_law_inputs" = true) (hk93 : PySem.W.keepIn K (.ref a93) = true)
    {a94 : Addr} {od94 an94 : Option Addr} {sl94 : Array (Option Value)} {oc94 kv94 dc94 pm94 cd94 ct94 : Value}
    (ha94 : PySem.W.nsIn K mainGlobals "_law_told" = some (some (.ref a94))) (hl94 : K.lookup a94 = some ⟨oc94, od94, .func (PySem.W.fnOf "_law_told" "_law_told" (defArgs (top 27)) (defBody (top 27)) (defScope (top 27)) .none kv94 dc94 pm94 an94 cd94 ct94), sl94⟩) (hc94 : PySem.W.codeIn K cd94 "_law_told" = true) (hk94 : PySem.W.keepIn K (.ref a94) = true)
    {a95 : Addr} {od95 an95 : Option Addr} {sl95 : Array (Option Value)} {oc95 kv95 dc95 pm95 cd95 ct95 : Value}
    (ha95 : PySem.W.nsIn K mainGlobals "law" = some (some (.ref a95))) (hl95 : K.lookup a95 = some ⟨oc95, od95, .func (PySem.W.fnOf "law" "law" (defArgs (top 28)) (defBody (top 28)) (defScope (top 28)) .none kv95 dc95 pm95 an95 cd95 ct95), sl95⟩) (hc95 : PySem.W.codeIn K cd95 "law" = true) (hk95 : PySem.W.keepIn K (.ref a95) = true)
    (hz0 : PySem.W.nsIn K mainGlobals "len" = some none)
    (hz1 : PySem.W.nsIn K mainGlobals "int" = some none)
    (hz2 : PySem.W.nsIn K mainGlobals "ord" = some none)
    (hz3 : PySem.W.nsIn K mainGlobals "min" = some none)
    (hz4 : PySem.W.nsIn K mainGlobals "max" = some none)
    (hz5 : PySem.W.nsIn K mainGlobals "tuple" = some none)
    (hz6 : PySem.W.nsIn K mainGlobals "list" = some none)
    (hz7 : PySem.W.nsIn K mainGlobals "all" = some none)
    (hz8 : PySem.W.nsIn K mainGlobals "any" = some none)
    (hz9 : PySem.W.nsIn K mainGlobals "sum" = some none)
    (hz10 : PySem.W.nsIn K mainGlobals "sorted" = some none)
    (hz11 : PySem.W.nsIn K mainGlobals "isinstance" = some none)
    (hz12 : PySem.W.nsIn K mainGlobals "bool" = some none)
    (hz13 : PySem.W.nsIn K mainGlobals "str" = some none)
    (hz14 : PySem.W.nsIn K mainGlobals "range" = some none)
    (hz15 : PySem.W.nsIn K mainGlobals "enumerate" = some none)
    (hz16 : PySem.W.nsIn K mainGlobals "zip" = some none)
    (hz17 : PySem.W.nsIn K mainGlobals "reversed" = some none)
    {lv : Nat} (run : ∀ ns : List Int, ns.length ≤ 63 → ∃ s, callN pg lv 95 [.lst (ns.map .int)] [] = .ok (.d (.bl true)) s) :
    ∃ fd : FuncData, (∀ (s : Shared) (v : Value), BindsTo s fd ⟨[v], []⟩ [("_law_script", v)]) ∧ ∀ base : Heap, K.In base → base.Ns mainGlobals mg → FnOk l.prog w K mg base (L2.CX l.prog w) (lv + 2) fa fd ["_law_script"] (spLaw K 63) := by
  have e : a95 = fa := by have e := (PySem.W.mg_of X G ha95).symm.trans hfa; cases e; rfl
  subst e
  have g0 := fun_mk (st := (top 22)) hl0 hc0 hk0
  have w0 := g0.binds (ps := pp0) fun _ _ _ _ _ _ us hl => match us, hl with | [_, _], _ => rfl
  have x0 : FL K mg lk pg 0 a0 := ⟨f0, _, _, _, _, nn0, pp0, rfl, g0, w0, sc0, ok0, rfl, rfl⟩
  have g39 := fun_mk (st := (top 21)) hl39 hc39 hk39
  have w39 := g39.binds (ps := pp39) fun _ _ _ _ _ _ us hl => match us, hl with | [_, _], _ => rfl
  have x39 : FL K mg lk pg 39 a39 := ⟨f39, _, _, _, _, nn39, pp39, rfl, g39, w39, sc39, ok39, rfl, rfl⟩
  have g42 := fun_mk (st := (inClass (top 19) 1)) hl42 hc42 hk42
  have w42 := g42.binds (ps := pp42) fun _ _ _ _ _ _ us hl => match us, hl with | [_, _], _ => rfl
  have x42 : FL K mg lk pg 42 a42 := ⟨f42, _, _, _, _, nn42, pp42, rfl, g42, w42, sc42, ok42, rfl, rfl⟩
  have g69 := fun_mk (st := (top 23)) hl69 hc69 hk69
  have w69 := g69.binds (ps := pp69) fun _ _ _ _ _ _ us hl => match us, hl with | [_, _, _], _ => rfl
  have x69 : FL K mg lk pg 69 a69 := ⟨f69, _, _, _, _, nn69, pp69, rfl, g69, w69, sc69, ok69, rfl, rfl⟩
  have g70 := fun_mk (st := (top 4)) hl70 hc70 hk70
  have w70 := g70.binds (ps := pp70) fun _ _ _ _ _ _ us hl => match us, hl with | [_], _ => rfl
  have x70 : FL K mg lk pg 70 a70 := ⟨f70, _, _, _, _, nn70, pp70, rfl, g70, w70, sc70, ok70, rfl, rfl⟩
  have g71 := fun_mk (st := (top 5)) hl71 hc71 hk71
  have w71 := g71.binds (ps := pp71) fun _ _ _ _ _ _ us hl => match us, hl with | [_, _], _ => rfl
  have x71 : FL K mg lk pg 71 a71 := ⟨f71, _, _, _, _, nn71, pp71, rfl, g71, w71, sc71, ok71, rfl, rfl⟩
  have g72 := fun_mk (st := (top 6)) hl72 hc72 hk72
  have w72 := g72.binds (ps := pp72) fun _ _ _ _ _ _ us hl => match us, hl with | [_, _, _], _ => rfl
  have x72 : FL K mg lk pg 72 a72 := ⟨f72, _, _, _, _, nn72, pp72, rfl, g72, w72, sc72, ok72, rfl, rfl⟩
  have g73 := fun_mk (st := (top 7)) hl73 hc73 hk73
  have w73 := g73.binds (ps := pp73) fun _ _ _ _ _ _ us hl => match us, hl with | [_, _], _ => rfl
  have x73 : FL K mg lk pg 73 a73 := ⟨f73, _, _, _, _, nn73, pp73, rfl, g73, w73, sc73, ok73, rfl, rfl⟩
  have g79 := fun_mk (st := (top 8)) hl79 hc79 hk79
  have w79 := g79.binds (ps := pp79) fun _ _ _ _ _ _ us hl => match us, hl with | [_, _], _ => rfl
  have x79 : FL K mg lk pg 79 a79 := ⟨f79, _, _, _, _, nn79, pp79, rfl, g79, w79, sc79, ok79, rfl, rfl⟩
  have g81 := fun_mk (st := (top 24)) hl81 hc81 hk81
  have w81 := g81.binds (ps := pp81) fun _ _ _ _ _ _ us hl => match us, hl with | [_, _], _ => rfl
  have x81 : FL K mg lk pg 81 a81 := ⟨f81, _, _, _, _, nn81, pp81, rfl, g81, w81, sc81, ok81, rfl, rfl⟩
  have g83 := fun_mk (st := (top 9)) hl83 hc83 hk83
  have w83 := g83.binds (ps := pp83) fun _ _ _ _ _ _ us hl => match us, hl with | [_, _, _], _ => rfl
  have x83 : FL K mg lk pg 83 a83 := ⟨f83, _, _, _, _, nn83, pp83, rfl, g83, w83, sc83, ok83, rfl, rfl⟩
  have g84 := fun_mk (st := (top 10)) hl84 hc84 hk84
  have w84 := g84.binds (ps := pp84) fun _ _ _ _ _ _ us hl => match us, hl with | [_, _], _ => rfl
  have x84 : FL K mg lk pg 84 a84 := ⟨f84, _, _, _, _, nn84, pp84, rfl, g84, w84, sc84, ok84, rfl, rfl⟩
  have g85 := fun_mk (st := (top 11)) hl85 hc85 hk85
  have w85 := g85.binds (ps := pp85) fun _ _ _ _ _ _ us hl => match us, hl with | [_, _, _, _], _ => rfl
  have x85 : FL K mg lk pg 85 a85 := ⟨f85, _, _, _, _, nn85, pp85, rfl, g85, w85, sc85, ok85, rfl, rfl⟩
  have g86 := fun_mk (st := (top 15)) hl86 hc86 hk86
  have w86 := g86.binds (ps := pp86) fun _ _ _ _ _ _ us hl => match us, hl with | [_, _, _, _], _ => rfl
  have x86 : FL K mg lk pg 86 a86 := ⟨f86, _, _, _, _, nn86, pp86, rfl, g86, w86, sc86, ok86, rfl, rfl⟩
  have g87 := fun_mk (st := (top 14)) hl87 hc87 hk87
  have w87 := g87.binds (ps := pp87) fun _ _ _ _ _ _ us hl => match us, hl with | [_, _, _], _ => rfl
  have x87 : FL K mg lk pg 87 a87 := ⟨f87, _, _, _, _, nn87, pp87, rfl, g87, w87, sc87, ok87, rfl, rfl⟩
  have g88 := fun_mk (st := (top 13)) hl88 hc88 hk88
  have w88 := g88.binds (ps := pp88) fun _ _ _ _ _ _ us hl => match us, hl with | [_, _], _ => rfl
  have x88 : FL K mg lk pg 88 a88 := ⟨f88, _, _, _, _, nn88, pp88, rfl, g88, w88, sc88, ok88, rfl, rfl⟩
  have g89 := fun_mk (st := (top 16)) hl89 hc89 hk89
  have w89 := g89.binds (ps := pp89) fun _ _ _ _ _ _ us hl => match us, hl with | [_, _, _], _ => rfl
  have x89 : FL K mg lk pg 89 a89 := ⟨f89, _, _, _, _, nn89, pp89, rfl, g89, w89, sc89, ok89, rfl, rfl⟩
  have g90 := fun_mk (st := (top 12)) hl90 hc90 hk90
  have w90 := g90.binds (ps := pp90) fun _ _ _ _ _ _ us hl => match us, hl with | [_, _, _], _ => rfl
  have x90 : FL K mg lk pg 90 a90 := ⟨f90, _, _, _, _, nn90, pp90, rfl, g90, w90, sc90, ok90, rfl, rfl⟩
  have g91 := fun_mk (st := (top 17)) hl91 hc91 hk91
  have w91 := g91.binds (ps := pp91) fun _ _ _ _ _ _ us hl => match us, hl with | [_, _, _, _], _ => rfl
  have x91 : FL K mg lk pg 91 a91 := ⟨f91, _, _, _, _, nn91, pp91, rfl, g91, w91, sc91, ok91, rfl, rfl⟩
  have g92 := fun_mk (st := (top 25)) hl92 hc92 hk92
  have w92 := g92.binds (ps := pp92) fun _ _ _ _ _ _ us hl => match us, hl with | [_], _ => rfl
  have x92 : FL K mg lk pg 92 a92 := ⟨f92, _, _, _, _, nn92, pp92, rfl, g92, w92, sc92, ok92, rfl, rfl⟩
  have g93 := fun_mk (st := (top 26)) hl93 hc93 hk93
  have w93 := g93.binds (ps := pp93) fun _ _ _ _ _ _ us hl => match us, hl with | [_, _], _ => rfl
  have x93 : FL K mg lk pg 93 a93 := ⟨f93, _, _, _, _, nn93, pp93, rfl, g93, w93, sc93, ok93, rfl, rfl⟩
  have g94 := fun_mk (st := (top 27)) hl94 hc94 hk94
  have w94 := g94.binds (ps := pp94) fun _ _ _ _ _ _ us hl => match us, hl with | [_, _, _, _], _ => rfl
  have x94 : FL K mg lk pg 94 a94 := ⟨f94, _, _, _, _, nn94, pp94, rfl, g94, w94, sc94, ok94, rfl, rfl⟩
  have g95 := fun_mk (st := (top 28)) hl95 hc95 hk95
  have w95 := g95.binds (ps := pp95) fun _ _ _ _ _ _ us hl => match us, hl with | [_], _ => rfl
  have x95 : FL K mg lk pg 95 a95 := ⟨f95, _, _, _, _, nn95, pp95, rfl, g95, w95, sc95, ok95, rfl, rfl⟩
  have koHasher : KOk K 0 kCHasher := ⟨kAHasher, ⟨kGHasher, kDHasher, kOHasher, kSHasher⟩, fun n hn => by
    have hn : n ∈ (["modulus", "multiplier"] : List PySem.Str) := hn
    simp only [List.mem_cons, List.not_mem_nil, or_false] at hn
    rcases hn with rfl | rfl
    · exact kFHasher0
    · exact kFHasher1⟩
  have hblt : ∀ x ∈ bltNames, mg x = none := fun x hx => by
    simp only [bltNames, List.mem_cons, List.not_mem_nil, or_false] at hx
    rcases hx with rfl | rfl | rfl | rfl | rfl | rfl | rfl | rfl | rfl | rfl | rfl | rfl | rfl | rfl | rfl | rfl | rfl | rfl
    · exact PySem.W.mg_none_of X G hz0
    · exact PySem.W.mg_none_of X G hz1
    · exact PySem.W.mg_none_of X G hz2
    · exact PySem.W.mg_none_of X G hz3
    · exact PySem.W.mg_none_of X G hz4
    · exact PySem.W.mg_none_of X G hz5
    · exact PySem.W.mg_none_of X G hz6
    · exact PySem.W.mg_none_of X G hz7
    · exact PySem.W.mg_none_of X G hz8
    · exact PySem.W.mg_none_of X G hz9
    · exact PySem.W.mg_none_of X G hz10
    · exact PySem.W.mg_none_of X G hz11
    · exact PySem.W.mg_none_of X G hz12
    · exact PySem.W.mg_none_of X G hz13
    · exact PySem.W.mg_none_of X G hz14
    · exact PySem.W.mg_none_of X G hz15
    · exact PySem.W.mg_none_of X G hz16
    · exact PySem.W.mg_none_of X G hz17
  have Λ : Lnk K mg lk pg := by
    refine ⟨hblt, fun g d x hg hd => ?_, fun g hg => ?_, fun g hg => ?_, fun g h hg => ?_, fun g hg => ?_⟩
    · cases hd
    · have hg : g ∈ [0, 39, 69, 70, 71, 72, 73, 79, 81, 83, 84, 85, 86, 87, 88, 89, 90, 91, 92, 93, 94, 95] := by simpa [lk] using hg
      simp only [List.mem_cons, List.not_mem_nil, or_false] at hg
      rcases hg with rfl | rfl | rfl | rfl | rfl | rfl | rfl | rfl | rfl | rfl | rfl | rfl | rfl | rfl | rfl | rfl | rfl | rfl | rfl | rfl | rfl | rfl
      · exact ⟨a0, PySem.W.mg_of X G ha0, x0⟩
      · exact ⟨a39, PySem.W.mg_of X G ha39, x39⟩
      · exact ⟨a69, PySem.W.mg_of X G ha69, x69⟩
      · exact ⟨a70, PySem.W.mg_of X G ha70, x70⟩
      · exact ⟨a71, PySem.W.mg_of X G ha71, x71⟩
      · exact ⟨a72, PySem.W.mg_of X G ha72, x72⟩
      · exact ⟨a73, PySem.W.mg_of X G ha73, x73⟩
      · exact ⟨a79, PySem.W.mg_of X G ha79, x79⟩
      · exact ⟨a81, PySem.W.mg_of X G ha81, x81⟩
      · exact ⟨a83, PySem.W.mg_of X G ha83, x83⟩
      · exact ⟨a84, PySem.W.mg_of X G ha84, x84⟩
      · exact ⟨a85, PySem.W.mg_of X G ha85, x85⟩
      · exact ⟨a86, PySem.W.mg_of X G ha86, x86⟩
      · exact ⟨a87, PySem.W.mg_of X G ha87, x87⟩
      · exact ⟨a88, PySem.W.mg_of X G ha88, x88⟩
      · exact ⟨a89, PySem.W.mg_of X G ha89, x89⟩
      · exact ⟨a90, PySem.W.mg_of X G ha90, x90⟩
      · exact ⟨a91, PySem.W.mg_of X G ha91, x91⟩
      · exact ⟨a92, PySem.W.mg_of X G ha92, x92⟩
      · exact ⟨a93, PySem.W.mg_of X G ha93, x93⟩
      · exact ⟨a94, PySem.W.mg_of X G ha94, x94⟩
      · exact ⟨a95, PySem.W.mg_of X G ha95, x95⟩
    · have hg : g ∈ [0] := by simpa [lk] using hg
      simp only [List.mem_cons, List.not_mem_nil, or_false] at hg
      rcases hg with rfl
      · exact ⟨_, koHasher⟩
    · have hg : (g, h) ∈ [(0, 42)] := by simpa [lk] using hg
      simp only [List.mem_cons, List.not_mem_nil, or_false, Prod.mk.injEq] at hg
      rcases hg with ⟨rfl, rfl⟩
      · exact ⟨_, a42, koHasher, ⟨hb42, hi42, hk42⟩, x42, by decide +kernel⟩
    · have hg : g ∈ [0] := by simpa [lk] using hg
      simp only [List.mem_cons, List.not_mem_nil, or_false] at hg
      rcases hg with rfl
      · exact ⟨_, iAHasher, _, _, koHasher, PySem.W.mg_of X G kAHasher, ⟨iMHasher, iFHasher, iIHasher, iYHasher⟩, (fun_mk (st := (inClass (top 19) 0)) iUHasher iCHasher iZHasher).binds (ps := nnH) fun _ _ _ _ _ _ us hl => match us, hl with | [_, _, _], _ => rfl, fun prog w base => initHasher hblt (fun_mk (st := (inClass (top 19) 0)) iUHasher iCHasher iZHasher) ⟨rfl, rfl, rfl, by decide +kernel, rfl, by decide +kernel, by decide +kernel⟩ (by decide +kernel) koHasher⟩
  exact ⟨PySem.W.fnOf "law" "law" (defArgs (top 28)) (defBody (top 28)) (defScope (top 28)) .none kv95 dc95 pm95 an95 cd95 ct95, fun s v => .of_eq rfl, fun base _ _ => lawOk (fnOk Λ lv 95 f95 "law" "law" (top 28) a95 _ nn95 pp95 rfl g95 sc95 ok95 rfl rfl) rfl run⟩
theorem walk {l : PySem.W.OpenLaw} {q : Program} {loose : List PySem.Str} {XP : (PySem.Str → Option Value) → Heap → Prop} {YP : World → Heap → Prop} {d : DefRec} {K : Params → PySem.W.Frag} {lv : Nat} (hlv : lv + 2 ≤ 200) (hn : l.most = some 63) (hdf : d.params.defaults = [])
    (hY : ∀ (w : World) (h : Heap), YP w h → (K w.params).In h)
    (F : ∀ (w : World) (mg : PySem.Str → Option Value) (fa : Addr) (h : Heap), (K w.params).In h → h.Ns mainGlobals mg → mg d.name = some (.ref fa) →
      ∃ fd : FuncData, (∀ (s : Shared) (u : Value), BindsTo s fd ⟨[u], []⟩ [("_law_script", u)]) ∧ ∀ base : Heap, (K w.params).In base → base.Ns mainGlobals mg → FnOk l.prog w (K w.params) mg base (L2.CX l.prog w) (lv + 2) fa fd ["_law_script"] (spLaw (K w.params) 63)) :
    PySem.W.WalkO q loose XP YP l.row.toRowW d [] (fun f vs => PySem.call f vs) :=
  L2.walk_of (n := 63) (k := lv + 2) (x := "_law_script") (CX := fun w => L2.CX l.prog w) (sp := fun w => spLaw (K w.params) 63) hn (by decide) hdf (room_ok hlv) hY F (fun _ _ a ns hl _ hS => ⟨a, ns, rfl, hS, hl, fun _ => rfl⟩) fun _ _ _ _ _ z => no_ex z
end Ev
open PySem PySem.W PyProof.Rows
set_option maxRecDepth 100000 in
set_option maxHeartbeats 0 in
theorem PySem.Challenge.cw_askedthen_k20_rows_extension_clash_holds : PySem.Challenge.rw_askedthen_k20_rows_extension_clash.Holds := by
  w_on; o_law; k_head; (case hw => w_witness2)
  k_fill
  refine Ev.walk (l := PySem.Challenge.rw_askedthen_k20_rows_extension_clash) (lv := Ev.depth) (by decide) rfl rfl (fun w h Y => PySem.W.kIn_of Y) ?F
  case F =>
    intro w mg fa h KX G hmg
    refine' Ev.all_mk KX G hmg ?kAHasher ?kGHasher ?kDHasher ?kOHasher ?kSHasher ?kFHasher0 ?kFHasher1 ?iMHasher ?iYHasher ?iFHasher ?iIHasher ?iUHasher ?iCHasher ?iZHasher ?ha0 ?hl0 ?hc0 ?hk0 ?ha39 ?hl39 ?hc39 ?hk39 ?hb42 ?hi42 ?hl42 ?hc42 ?hk42 ?ha69 ?hl69 ?hc69 ?hk69 ?ha70 ?hl70 ?hc70 ?hk70 ?ha71 ?hl71 ?hc71 ?hk71 ?ha72 ?hl72 ?hc72 ?hk72 ?ha73 ?hl73 ?hc73 ?hk73 ?ha79 ?hl79 ?hc79 ?hk79 ?ha81 ?hl81 ?hc81 ?hk81 ?ha83 ?hl83 ?hc83 ?hk83 ?ha84 ?hl84 ?hc84 ?hk84 ?ha85 ?hl85 ?hc85 ?hk85 ?ha86 ?hl86 ?hc86 ?hk86 ?ha87 ?hl87 ?hc87 ?hk87 ?ha88 ?hl88 ?hc88 ?hk88 ?ha89 ?hl89 ?hc89 ?hk89 ?ha90 ?hl90 ?hc90 ?hk90 ?ha91 ?hl91 ?hc91 ?hk91 ?ha92 ?hl92 ?hc92 ?hk92 ?ha93 ?hl93 ?hc93 ?hk93 ?ha94 ?hl94 ?hc94 ?hk94 ?ha95 ?hl95 ?hc95 ?hk95 ?hz0 ?hz1 ?hz2 ?hz3 ?hz4 ?hz5 ?hz6 ?hz7 ?hz8 ?hz9 ?hz10 ?hz11 ?hz12 ?hz13 ?hz14 ?hz15 ?hz16 ?hz17 Ev.run
    (case kAHasher => k_is); (case kGHasher => k_is); (case kDHasher => k_is); (case kOHasher => k_is); (case kSHasher => k_is); (case kFHasher0 => k_is)
    (case kFHasher1 => k_is); (case iMHasher => k_is); (case iYHasher => k_is); (case iFHasher => k_is); (case iIHasher => k_is); (case iUHasher => k_is)
    (case iCHasher => k_is); (case iZHasher => k_is); (case ha0 => k_is); (case hl0 => k_is); (case hc0 => k_is); (case hk0 => k_is)
    (case ha39 => k_is); (case hl39 => k_is); (case hc39 => k_is); (case hk39 => k_is); (case hb42 => k_is); (case hi42 => k_is)
    (case hl42 => k_is); (case hc42 => k_is); (case hk42 => k_is); (case ha69 => k_is); (case hl69 => k_is); (case hc69 => k_is)
    (case hk69 => k_is); (case ha70 => k_is); (case hl70 => k_is); (case hc70 => k_is); (case hk70 => k_is); (case ha71 => k_is)
    (case hl71 => k_is); (case hc71 => k_is); (case hk71 => k_is); (case ha72 => k_is); (case hl72 => k_is); (case hc72 => k_is)
    (case hk72 => k_is); (case ha73 => k_is); (case hl73 => k_is); (case hc73 => k_is); (case hk73 => k_is); (case ha79 => k_is)
    (case hl79 => k_is); (case hc79 => k_is); (case hk79 => k_is); (case ha81 => k_is); (case hl81 => k_is); (case hc81 => k_is)
    (case hk81 => k_is); (case ha83 => k_is); (case hl83 => k_is); (case hc83 => k_is); (case hk83 => k_is); (case ha84 => k_is)
    (case hl84 => k_is); (case hc84 => k_is); (case hk84 => k_is); (case ha85 => k_is); (case hl85 => k_is); (case hc85 => k_is)
    (case hk85 => k_is); (case ha86 => k_is); (case hl86 => k_is); (case hc86 => k_is); (case hk86 => k_is); (case ha87 => k_is)
    (case hl87 => k_is); (case hc87 => k_is); (case hk87 => k_is); (case ha88 => k_is); (case hl88 => k_is); (case hc88 => k_is)
    (case hk88 => k_is); (case ha89 => k_is); (case hl89 => k_is); (case hc89 => k_is); (case hk89 => k_is); (case ha90 => k_is)
    (case hl90 => k_is); (case hc90 => k_is); (case hk90 => k_is); (case ha91 => k_is); (case hl91 => k_is); (case hc91 => k_is)
    (case hk91 => k_is); (case ha92 => k_is); (case hl92 => k_is); (case hc92 => k_is); (case hk92 => k_is); (case ha93 => k_is)
    (case hl93 => k_is); (case hc93 => k_is); (case hk93 => k_is); (case ha94 => k_is); (case hl94 => k_is); (case hc94 => k_is)
    (case hk94 => k_is); (case ha95 => k_is); (case hl95 => k_is); (case hc95 => k_is); (case hk95 => k_is); (case hz0 => k_is)
    (case hz1 => k_is); (case hz2 => k_is); (case hz3 => k_is); (case hz4 => k_is); (case hz5 => k_is); (case hz6 => k_is)
    (case hz7 => k_is); (case hz8 => k_is); (case hz9 => k_is); (case hz10 => k_is); (case hz11 => k_is); (case hz12 => k_is)
    (case hz13 => k_is); (case hz14 => k_is); (case hz15 => k_is); (case hz16 => k_is); (case hz17 => k_is)
