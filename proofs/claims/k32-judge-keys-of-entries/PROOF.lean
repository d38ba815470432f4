import PyProof.Rows.All
import Wide.All
import OpenK.AllK
import Wide.FinOn
import HandS.ForMost
import HandS.Exc
import HandS.ExcOwn
import HandS.WordsExc
import HandS.TupAny
import HandS.TupLe
import HandS.Deep
import HandS.IsInst
import HandS.Rev
import HandS.Zip
import HandS.Flow
import HandS.Style
import HandS.Lambda
import KE.KNestM
import KE.KExcSuper
import HandS.ExcInit
import HandS.ExcSuper
import HandS.FStr
import HandS.TryOnly
import HandS.ExcField
import HandS.Dict
import HandS.TupMul
import HandS.SortInts
import KE.GoesEnum
import KE.GoesMore
import PyProof.ZipIter
import KE.KRevIter
import HandS.ClsMeth
import HandS.RaiseMore
import PySem.Challenge.RW_askedthen_k32_judge_keys_of_entries
set_option Elab.async false
set_option linter.all false
section
set_option autoImplicit false
/-! Ev1: a small language of its own (data D, expressions E, statements S) and what it computes. -/
namespace Ev

/-! ### data -/
inductive D where
  | non | bl (b : Bool) | int (i : Int) | str (s : List Nat)
  | tup (xs : List D) | lst (xs : List D)
  | dct (ks vs : List D) | obj (c : Nat) (fs : List D) | exn (c : Nat) (fs : List D) | fn (g : Nat) (cs : List D)
  deriving Inhabited

mutual
def deq : D → D → Bool
  | .non, .non => true
  | .bl a, .bl b => a == b
  | .bl a, .int j => (if a then 1 else 0) == j
  | .int i, .bl b => i == (if b then 1 else 0)
  | .int i, .int j => i == j
  | .str x, .str y => x == y
  | .lst xs, .lst ys => deqs xs ys
  | .tup xs, .tup ys => deqs xs ys
  | _, _ => false
def deqs : List D → List D → Bool
  | [], [] => true
  | x :: xs, y :: ys => deq x y && deqs xs ys
  | _, _ => false
end

mutual
def dep : D → Nat
  | .lst xs => depA xs + 1
  | .tup xs => depA xs + 1
  | _ => 0
def depA : List D → Nat
  | [] => 0
  | x :: xs => max (dep x) (depA xs)
end

mutual
/-- none, bools, ints, texts, lists and tuples of such -/
def pln : D → Bool
  | .lst xs => plnA xs
  | .tup xs => plnA xs
  | .dct _ _ => false
  | .obj _ _ => false
  | .exn _ _ => false
  | .fn _ _ => false
  | _ => true
def plnA : List D → Bool
  | [] => true
  | x :: xs => pln x && plnA xs
end

mutual
/-- no list and no dict within -/
def flat : D → Bool
  | .lst _ => false
  | .tup xs => flatA xs
  | .dct _ _ => false
  | .obj _ fs => flatA fs
  | .exn _ fs => flatA fs
  | .fn _ cs => flatA cs
  | _ => true
def flatA : List D → Bool
  | [] => true
  | x :: xs => flat x && flatA xs
end

def line : Nat := 16777216
/-- may be compared by == -/
def shp (x : D) : Bool := pln x && decide (dep x ≤ 64)

/-! ### syntax -/
inductive BOp where
  | add | sub | mul | fdiv | mod | pow | band
  deriving DecidableEq
inductive COp where
  | eq | ne | lt | le | gt | ge | isin | nin | is | isnot
  deriving DecidableEq
inductive Ty where
  | int | bool | str | tup | lst
  deriving DecidableEq
inductive Blt where
  | len | int | ord | min | max | tuple | list | all | any | sum | sorted
  deriving DecidableEq
inductive Bm where
  | find | join | split
  deriving DecidableEq
/-- a target: a name, or names of a tuple's places -/
inductive Tg where
  | nm (i : Nat) | tp (is : List Nat)
/-- what a loop goes over -/
inductive Wk where
  | seq | rng1 | rng2 | rng3 | enum | zip | revd | revdr | zipr (r : Bool)
  deriving DecidableEq

inductive E where
  | v (i : Nat) | k (g : Nat)
  | n | b (x : Bool) | i (x : Int) | s (x : List Nat)
  | bin (o : BOp) (x y : E) | neg (x : E)
  | cmp (o : COp) (x y : E) | chain (o p : COp) (x y z : E)
  | and (x y : E) | or (x y : E) | not (x : E)
  | ite (c x y : E)
  | call (g : Nat) (xs : List E)
  | meth (c g : Nat) (x : E) (xs : List E)
  | new (c : Nat) (xs : List E)
  | blt (f : Blt) (xs : List E)
  | isi (x : E) (t : Ty)
  | bm (m : Bm) (x : E) (xs : List E)
  | fld (x : E) (c f : Nat)
  | ix (x y : E)
  | sl (x : E) (lo hi : Option E)
  | rev (x : E)
  | tup (xs : List E) | lst (xs : List E)
  | lc (e : E) (t : Tg) (vs : List Nat) (w : Wk) (xs : List E) (c : List E)
  | isl (x : E) | orv (x y : E)
  | dsp (ks : List (List Nat)) (xs : List E)

inductive S where
  | asg (t : Tg) (e : E)
  | app (i : Nat) (e : E)
  | ext (i : Nat) (e : E)
  | pop (t : Tg) (i : Nat)
  | setix (i : Nat) (x y : E)
  | ife (c : E) (a b : List S)
  | forr (t : Tg) (w : Wk) (xs : List E) (body : List S)
  | whl (c : E) (body : List S)
  | ret (e : E)
  | retn
  | exp (e : E)
  | pass | brk | cnt | nev
  | rai (g : Nat) (xs : List E)
  | tri (b : List S) (h : Nat) (i : Option Nat) (r : List S)

structure Fn where
  np : Nat
  nl : Nat
  body : List S

/-- what a function gives -/
inductive Rv where
  | d (x : D) | own (x : D)
/-- xt: what functions give that are read from outside -/
structure Pg where
  fns : Nat → Option Fn
  cs : Nat → Option D
  xt : Nat → List D → Option Rv := fun _ _ => none

/-! ### the machine's state -/
inductive Sl where
  | no | dat (x : D) | own (x : D)
structure Ins where
  c : Nat
  fs : List Sl
abbrev Sto := List Ins
structure C where
  env : List Sl
  sto : Sto
structure Xc where
  c : Nat
  fs : List D
/-- what an expression gives: data; a list of its own that nobody else has; the list of a name's own -/
inductive Vl where
  | d (x : D) | tmp (x : D) | bor (i : Nat) (x : D)
inductive R (α : Type) where
  | st | ok (a : α) (c : C) | ex (x : Xc) (c : C)
inductive Rc where
  | st | ok (v : Rv) (s : Sto) | ex (x : Xc) (s : Sto)
inductive Fl where
  | nx | rt (v : Rv) | bk | ct

def R.bind {α β : Type} : R α → (α → C → R β) → R β
  | .st, _ => .st
  | .ok a c, f => f a c
  | .ex x c, _ => .ex x c

def getS : List Sl → Nat → Sl
  | [], _ => .no
  | s :: _, 0 => s
  | _ :: r, n + 1 => getS r n
def setS : List Sl → Nat → Sl → List Sl
  | [], _, _ => []
  | _ :: r, 0, x => x :: r
  | s :: r, n + 1, x => s :: setS r n x
def C.get (c : C) (i : Nat) : Sl := getS c.env i
def C.set (c : C) (i : Nat) (x : Sl) : C := ⟨setS c.env i x, c.sto⟩
def C.wipe (c : C) : List Nat → C
  | [] => c
  | i :: is => (c.wipe is).set i .no

def Vl.rd : Vl → D
  | .d x => x
  | .tmp x => x
  | .bor _ x => x
def frz : Vl → C → C
  | .bor i x, c => c.set i (.dat x)
  | _, c => c
def frzs : List Vl → C → C
  | [], c => c
  | v :: vs, c => frzs vs (frz v c)
def Rv.vl : Rv → Vl
  | .d x => .d x
  | .own x => .tmp x
def Vl.rv (v : Vl) (c : C) : Rv := match v with
  | .d x => .d x
  | .tmp x => .own x
  | .bor i x => match c.get i with
    | .own _ => .own x
    | _ => .d x
/-- what comes back bears no list of the caller's -/
def Rv.free : Rv → Bool
  | .d x => flat x
  | .own (.lst xs) => flatA xs
  | .own _ => false

/-! ### operations -/
def okMul (i j : Int) : Bool := (decide (-(2 ^ 64) < i) && decide (i < 2 ^ 64)) || (decide (-(2 ^ 64) < j) && decide (j < 2 ^ 64))
def binD : BOp → D → D → Option Vl
  | .add, .int i, .int j => some (.d (.int (i + j)))
  | .add, .str x, .str y => if x.length + y.length ≤ line then some (.d (.str (x ++ y))) else none
  | .add, .tup x, .tup y => if x.length + y.length ≤ line then some (.d (.tup (x ++ y))) else none
  | .add, .lst x, .lst y => if x.length + y.length ≤ line then some (.tmp (.lst (x ++ y))) else none
  | .sub, .int i, .int j => some (.d (.int (i - j)))
  | .mul, .int i, .int j => if okMul i j then some (.d (.int (i * j))) else none
  | .mul, .str x, .int j => if decide (0 ≤ j) && decide (j ≤ 1000) && decide (x.length ≤ 1000) then some (.d (.str (List.replicate j.toNat x).flatten)) else none
  | .mul, .tup xs, .int j => if (!xs.isEmpty && decide (2 ≤ j) && decide (j ≤ 1000) && decide (xs.length ≤ 1000)) = true then some (.d (.tup (List.replicate j.toNat xs).flatten)) else none
  | .fdiv, .int i, .int j => if decide (0 < j) && decide (j < 1073741824) then some (.d (.int (i / j))) else none
  | .mod, .int i, .int j => if 0 < j then some (.d (.int (i % j))) else none
  | .pow, .int i, .int j => if decide (0 ≤ j) && decide (j ≤ 1000000) && decide (i.natAbs < 2 ^ 64) then some (.d (.int (i ^ j.toNat))) else none
  | .band, .int i, .int j => if decide (0 ≤ i) && decide (0 ≤ j) then some (.d (.int ((i.toNat &&& j.toNat : Nat) : Int))) else none
  | _, _, _ => none

def ints? : List D → Option (List Int)
  | [] => some []
  | .int i :: r => (ints? r).map (i :: ·)
  | _ :: _ => none
def lexLt : List Int → List Int → Bool
  | [], [] => false
  | [], _ :: _ => true
  | _ :: _, [] => false
  | x :: xs, y :: ys => if x = y then lexLt xs ys else decide (x < y)
def strLt : List Nat → List Nat → Bool
  | [], [] => false
  | [], _ :: _ => true
  | _ :: _, [] => false
  | x :: xs, y :: ys => if x = y then strLt xs ys else decide (x < y)
def ltD : D → D → Option Bool
  | .int i, .int j => some (decide (i < j))
  | .str x, .str y => some (strLt x y)
  | .tup xs, .tup ys => match ints? xs, ints? ys with
    | some a, some b => some (lexLt a b)
    | _, _ => none
  | _, _ => none
def items : D → Option (List D)
  | .lst xs => some xs
  | .tup xs => some xs
  | _ => none
/-- a dict's keys; its value at a key -/
def hasK (ks : List D) (d : D) : Bool := ks.any fun k => deq k d
def atK : List D → List D → D → Option D
  | k :: ks, v :: vs, d => if deq k d then some v else atK ks vs d
  | _, _, _ => none
def inD (x y : D) : Option Bool := match y with
  | .dct ks _ => match x with
    | .str s => some (hasK ks (.str s))
    | .int i => some (hasK ks (.int i))
    | _ => none
  | .lst ys => if shp x && plnA ys && decide (depA ys ≤ 64) then some (ys.any fun z => deq z x) else none
  | .tup ys => if shp x && plnA ys && decide (depA ys ≤ 64) then some (ys.any fun z => deq z x) else none
  | .str t => match x with
    | .str [c] => some (t.contains c)
    | _ => none
  | _ => none
def isD : D → D → Option Bool
  | .bl a, .bl b => some (a == b)
  | .non, .non => some true
  | .exn _ _, .non => none
  | .fn _ _, .non => none
  | _, .non => some false
  | .non, .bl _ => some false
  | .int _, .bl _ => some false
  | .str _, .bl _ => some false
  | .tup _, .bl _ => some false
  | .lst _, .bl _ => some false
  | _, _ => none
def cmpD : COp → D → D → Option Bool
  | .eq, x, y => if shp x && shp y then some (deq x y) else none
  | .ne, x, y => if shp x && shp y then some (!deq x y) else none
  | .lt, x, y => ltD x y
  | .gt, x, y => ltD y x
  | .le, x, y => (ltD y x).map (!·)
  | .ge, x, y => (ltD x y).map (!·)
  | .isin, x, y => inD x y
  | .nin, x, y => (inD x y).map (!·)
  | .is, x, y => isD x y
  | .isnot, x, y => (isD x y).map (!·)

def truD : D → Option Bool
  | .non => some false
  | .bl b => some b
  | .int i => some (i != 0)
  | .str s => if s.length ≤ line then some (!s.isEmpty) else none
  | .tup xs => some (!xs.isEmpty)
  | .lst xs => some (!xs.isEmpty)
  | .obj _ _ => none
  | .dct _ _ => none
  | .exn _ _ => none
  | .fn _ _ => none

def isiD : D → Ty → Option Bool
  | .non, _ => some false
  | .bl _, .bool => some true
  | .bl _, .int => some true
  | .bl _, _ => some false
  | .int _, .int => some true
  | .int _, _ => some false
  | .str _, .str => some true
  | .str _, _ => some false
  | .tup _, .tup => some true
  | .tup _, _ => some false
  | .lst _, .lst => some true
  | .lst _, _ => some false
  | _, _ => none

def bools? : List D → Option (List Bool)
  | [] => some []
  | .bl b :: r => (bools? r).map (b :: ·)
  | _ :: _ => none
def minL : Int → List Int → Int
  | m, [] => m
  | m, x :: r => minL (if x < m then x else m) r
def maxL : Int → List Int → Int
  | m, [] => m
  | m, x :: r => maxL (if m < x then x else m) r
def insI (x : Int) : List Int → List Int
  | [] => [x]
  | y :: r => if x ≤ y then x :: y :: r else y :: insI x r
def sortI : List Int → List Int
  | [] => []
  | x :: r => insI x (sortI r)
def blt1 : Blt → D → Option Vl
  | .len, .str s => if s.length ≤ line then some (.d (.int s.length)) else none
  | .len, .tup xs => some (.d (.int xs.length))
  | .len, .lst xs => some (.d (.int xs.length))
  | .int, .int i => some (.d (.int i))
  | .int, .bl b => some (.d (.int (if b then 1 else 0)))
  | .ord, .str [c] => some (.d (.int c))
  | .min, .lst xs => match ints? xs with
    | some (i :: r) => some (.d (.int (minL i r)))
    | _ => none
  | .max, .lst xs => match ints? xs with
    | some (i :: r) => some (.d (.int (maxL i r)))
    | _ => none
  | .tuple, .tup xs => some (.d (.tup xs))
  | .tuple, .lst xs => some (.d (.tup xs))
  | .list, .tup xs => some (.tmp (.lst xs))
  | .list, .lst xs => some (.tmp (.lst xs))
  | .all, .lst xs => (bools? xs).map fun bs => .d (.bl (bs.all id))
  | .any, .lst xs => (bools? xs).map fun bs => .d (.bl (bs.any id))
  | .sum, .lst xs => (ints? xs).map fun is => .d (.int is.sum)
  | .sorted, .lst xs => (ints? xs).map fun is => .tmp (.lst ((sortI is).map .int))
  | _, _ => none
def blt2 : Blt → D → D → Option Vl
  | .min, .int i, .int j => some (.d (.int (if j < i then j else i)))
  | .max, .int i, .int j => some (.d (.int (if j > i then j else i)))
  | .min, .tup xs, .tup ys => (ints? xs).bind fun a => (ints? ys).bind fun b => some (.d (.tup (if lexLt b a then ys else xs)))
  | .max, .tup xs, .tup ys => (ints? xs).bind fun a => (ints? ys).bind fun b => some (.d (.tup (if lexLt a b then ys else xs)))
  | _, _, _ => none
def bltD (f : Blt) : List D → Option Vl
  | [x] => blt1 f x
  | [x, y] => blt2 f x y
  | _ => none

def ixN (n : Nat) (i : Int) : Option Nat := if 0 ≤ i then (if i < n then some i.toNat else none) else if -(n : Int) ≤ i then some (i + n).toNat else none
def atI {α : Type} (xs : List α) (i : Int) : Option α := (ixN xs.length i).bind fun j => xs[j]?
def ixD : D → D → Option D
  | .lst xs, .int i => atI xs i
  | .tup xs, .int i => atI xs i
  | .str s, .int i => if s.length ≤ line then (atI s i).map fun c => .str [c] else none
  | .dct ks vs, .str s => atK ks vs (.str s)
  | _, _ => none
def sIx (n d : Nat) : Option Int → Nat
  | none => d
  | some i => if i < 0 then (i + (n : Int)).toNat else min i.toNat n
def cut {α : Type} (xs : List α) (lo hi : Option Int) : List α := (xs.drop (sIx xs.length 0 lo)).take (sIx xs.length xs.length hi - sIx xs.length 0 lo)
def slD : D → Option Int → Option Int → Option Vl
  | .lst xs, lo, hi => some (.tmp (.lst (cut xs lo hi)))
  | .tup xs, lo, hi => some (.d (.tup (cut xs lo hi)))
  | .str s, lo, hi => if s.length ≤ line then some (.d (.str (cut s lo hi))) else none
  | _, _, _ => none
def enumF : Nat → List D → List D
  | _, [] => []
  | k, x :: r => .tup [.int k, x] :: enumF (k + 1) r
def zipT : List D → List D → List D
  | x :: xs, y :: ys => .tup [x, y] :: zipT xs ys
  | _, _ => []
def rngL (lo : Int) : Nat → List D
  | 0 => []
  | n + 1 => .int lo :: rngL (lo + 1) n
/-- by letters that a kernel leaves alone at a free name -/
def in62 : Int → Bool
  | .ofNat n => Nat.ble n 4611686018427387903
  | .negSucc n => Nat.ble n 4611686018427387903
theorem in62_iff {i : Int} (h : in62 i = true) : -(2 ^ 62) ≤ i ∧ i < 2 ^ 62 := by
  cases i with
  | ofNat n =>
    have h := Nat.le_of_ble_eq_true h
    have e : Int.ofNat n = (n : Int) := rfl
    rw [e]
    omega
  | negSucc n =>
    have h := Nat.le_of_ble_eq_true h
    rw [Int.negSucc_eq]
    omega
theorem in62_small {i : Int} (h0 : 0 ≤ i) (h : i ≤ 1000000000) : in62 i = true := by
  cases i with
  | ofNat n =>
    have e : Int.ofNat n = (n : Int) := rfl
    rw [e] at h
    exact Nat.ble_eq_true_of_le (by omega)
  | negSucc n =>
    rw [Int.negSucc_eq] at h0
    omega
def wkD : Wk → List D → Option (List D)
  | .seq, [.lst xs] => some xs
  | .seq, [.tup xs] => some xs
  | .seq, [.str s] => if s.length ≤ line then some (s.map fun c => .str [c]) else none
  | .rng1, [.int j] => if in62 j then some (rngL 0 j.toNat) else none
  | .rng2, [.int i, .int j] => if in62 i && in62 j then some (rngL i (j - i).toNat) else none
  | .enum, [.lst xs] => some (enumF 0 xs)
  | .enum, [.tup xs] => some (enumF 0 xs)
  | .enum, [.str s] => if s.length ≤ line then some (enumF 0 (s.map fun c => .str [c])) else none
  | .zip, [.lst xs, .lst ys] => some (zipT xs ys)
  | .zip, [.tup xs, .tup ys] => some (zipT xs ys)
  | .revd, [.lst xs] => some xs.reverse
  | .revdr, [.lst xs] => some (enumF 0 xs.reverse)
  | .zipr r, [.lst xs, .lst ys] => some (zipT xs.reverse (if r then ys.reverse else ys))
  | .revd, [.tup xs] => some xs.reverse
  | _, _ => none

def tgt : Tg → D → C → Option C
  | .nm i, x, c => some (c.set i (.dat x))
  | .tp is, .tup xs, c => if is.length = xs.length then some (sets is xs c) else none
  | .tp _, _, _ => none
where sets : List Nat → List D → C → C
  | i :: is, x :: xs, c => sets is xs (c.set i (.dat x))
  | _, _, c => c

def ofO {α : Type} (o : Option α) (c : C) : R α := match o with
  | some a => .ok a c
  | none => .st
def asB (v : Vl) (c : C) : R Bool := ofO (truD v.rd) c

abbrev CallT := Nat → List D → Sto → Rc
def called (vs : List Vl) (c : C) : Rc → R Vl
  | .st => .st
  | .ok r s => .ok r.vl (if r.free then ⟨c.env, s⟩ else ⟨(frzs vs c).env, s⟩)
  | .ex x s => .ex x ⟨(frzs vs c).env, s⟩

/-- a comprehension's turns -/
def lcL (f : D → C → R (Option D)) : List D → List D → C → R (List D)
  | [], acc, c => .ok acc c
  | x :: xs, acc, c => (f x c).bind fun o c => match o with
    | some y => if acc.length < line then lcL f xs (acc ++ [y]) c else .st
    | none => lcL f xs acc c
def noex {α : Type} : R α → R α
  | .ex _ _ => .st
  | r => r
def isOwn : Sl → Bool
  | .own _ => true
  | _ => false

def lcF (t : Tg) (vs : List Nat) (rt : C → R Bool) (re : C → R Vl) (x : D) (c : C) : R (Option D) := match tgt t x c with
  | none => .st
  | some c => noex ((rt c).bind fun b c => if b then (re c).bind fun y c => .ok (some y.rd) ((frz y c).wipe vs) else .ok none (c.wipe vs))
def doLc (t : Tg) (vs : List Nat) (rt : C → R Bool) (re : C → R Vl) (its : List D) (c : C) : R Vl :=
  if vs.any (fun i => isOwn (c.get i)) then .st else (lcL (lcF t vs rt re) its [] (c.wipe vs)).bind fun ys c => .ok (.tmp (.lst ys)) c
def rdV (i : Nat) (c : C) : R Vl := match c.get i with
  | .no => .st
  | .dat x => .ok (.d x) c
  | .own x => .ok (.bor i x) c
def doCall (call : CallT) (g : Nat) (vs : List Vl) (c : C) : R Vl := called vs c (call g (vs.map Vl.rd) c.sto)
def doBlt (f : Blt) (vs : List Vl) (c : C) : R Vl := ofO (bltD f (vs.map Vl.rd)) c
def doIsi (t : Ty) (a : Vl) (c : C) : R Vl := ofO ((isiD a.rd t).map fun b => .d (.bl b)) c
def doIx (a b : Vl) (c : C) : R Vl := ofO ((ixD a.rd b.rd).map Vl.d) c
/-- what a class makes of its arguments: the values of its fields -/
def newD (c : Nat) (ds : List D) : Option (List D) := match c, ds with
  | 0, [.int m, .int k] => if decide (2 ≤ m) && decide (m < 2 ^ 31) && decide (1 ≤ k) && decide (k < 2 ^ 31) then some [.int m, .int k] else none
  | 2, [.int m, .int k] => if decide (2 ≤ m) && decide (m < 2 ^ 31) && decide (1 ≤ k) && decide (k < 2 ^ 31) then some [.int m, .int k] else none
  | 1, [t] => some [t]
  | _, _ => none
/-- Hasher once more, as 2: what its __init__ refuses -/
def badI (lo : Int) : D → Bool
  | .bl _ => true
  | .int i => decide (i < lo) || decide (2147483648 ≤ i)
  | _ => false
def numB : D → Bool
  | .bl _ => true
  | .int _ => true
  | _ => false
def newE2 : List D → Option Xc
  | [m, k] => if numB m && numB k then (if badI 2 m then some ⟨0, [.str [109, 111, 100, 117, 108, 117, 115]]⟩ else if badI 1 k then some ⟨0, [.str [109, 117, 108, 116, 105, 112, 108, 105, 101, 114]]⟩ else none) else none
  | _ => none
def newE (g : Nat) (ds : List D) : Option Xc := if g = 2 then newE2 ds else none
def doNew (g : Nat) (vs : List Vl) (c : C) : R Vl := match newE g (vs.map Vl.rd) with
  | some x => .ex x (frzs vs c)
  | none => (ofO (newD g (vs.map Vl.rd)) c).bind fun ds c => .ok (.d (.obj g ds)) (frzs vs c)
@[simp] theorem newE_0 {ds : List D} : newE 0 ds = none := rfl
@[simp] theorem newE_1 {ds : List D} : newE 1 ds = none := rfl
theorem doNew_n {g : Nat} {vs : List Vl} {c : C} (h : newE g (vs.map Vl.rd) = none) : doNew g vs c = (ofO (newD g (vs.map Vl.rd)) c).bind fun ds c => .ok (.d (.obj g ds)) (frzs vs c) := by
  unfold doNew; rw [h]
theorem doNew_x {g : Nat} {vs : List Vl} {c : C} {x : Xc} (h : newE g (vs.map Vl.rd) = some x) : doNew g vs c = .ex x (frzs vs c) := by
  unfold doNew; rw [h]
def doFld (g f : Nat) (a : Vl) (c : C) : R Vl := match a with
  | .d (.obj g' ds) => if g' = g then ofO ((ds[f]?).map Vl.d) c else .st
  | .d (.exn g' ds) => if 100 + g' = g then ofO ((ds[f]?).map Vl.d) c else .st
  | _ => .st
def noexc {α : Type} : R α → R α
  | .ex _ _ => .st
  | r => r
def isObj (g : Nat) : Vl → Bool
  | .d (.obj g' _) => g' == g
  | _ => false
/-- a list, or nothing -/
def kIsl (a : Vl) (c : C) : R Vl := match a.rd with
  | .lst _ => .ok a c
  | _ => .st
/-- a method of a TreeSource may raise -/
def mexd : Vl → R Vl → R Vl
  | .d (.obj 1 _), r => r
  | _, r => noexc r
def doMeth (call : CallT) (g : Nat) (a : Vl) (vs : List Vl) (c : C) : R Vl := mexd a (doCall call g (a :: vs) c)
section
variable (P : Pg) (call : CallT)
mutual
def evE : E → C → R Vl
  | .v i, c => rdV i c
  | .k g, c => ofO ((P.cs g).map Vl.d) c
  | .n, c => .ok (.d .non) c
  | .b x, c => .ok (.d (.bl x)) c
  | .i x, c => .ok (.d (.int x)) c
  | .s x, c => .ok (.d (.str x)) c
  | .bin o x y, c => (evE x c).bind fun a c => (evE y c).bind fun b c => ofO (binD o a.rd b.rd) c
  | .neg x, c => (evE x c).bind fun a c => match a.rd with
    | .int i => .ok (.d (.int (-i))) c
    | _ => .st
  | .cmp o x y, c => (evE x c).bind fun a c => (evE y c).bind fun b c => ofO ((cmpD o a.rd b.rd).map fun t => .d (.bl t)) c
  | .chain o p x y z, c => (evE x c).bind fun a c => (evE y c).bind fun b c => (ofO (cmpD o a.rd b.rd) c).bind fun t c =>
      if t then (evE z c).bind fun d c => ofO ((cmpD p b.rd d.rd).map fun t => .d (.bl t)) c else .ok (.d (.bl false)) c
  | .and x y, c => (evE x c).bind fun a c => match a.rd with
    | .bl true => evE y c
    | .bl false => .ok (.d (.bl false)) c
    | _ => .st
  | .or x y, c => (evE x c).bind fun a c => match a.rd with
    | .bl true => .ok (.d (.bl true)) c
    | .bl false => evE y c
    | _ => .st
  | .not x, c => (evE x c).bind fun a c => match a.rd with
    | .bl t => .ok (.d (.bl !t)) c
    | _ => .st
  | .ite t x y, c => (evT t c).bind fun b c => if b then evE x c else evE y c
  | .call g xs, c => (evEs xs c).bind (doCall call g)
  | .meth g' g x xs, c => (evE x c).bind fun a c => if isObj g' a then (evEs xs c).bind (doMeth call g a) else .st
  | .new g xs, c => (evEs xs c).bind (doNew g)
  | .blt f xs, c => (evEs xs c).bind (doBlt f)
  | .isi x t, c => (evE x c).bind (doIsi t)
  | .bm _ _ _, _ => .st
  | .fld x g f, c => (evE x c).bind (doFld g f)
  | .ix x y, c => (evE x c).bind fun a c => (evE y c).bind (doIx a)
  | .sl x lo hi, c => (evE x c).bind fun a c => (evO lo c).bind fun l c => (evO hi c).bind fun h c => ofO (slD a.rd l h) c
  | .rev x, c => (evE x c).bind fun a c => match a.rd with
    | .lst xs => .ok (.tmp (.lst xs.reverse)) c
    | .tup xs => .ok (.d (.tup xs.reverse)) c
    | _ => .st
  | .tup xs, c => (evEs xs c).bind fun vs c => .ok (.d (.tup (vs.map Vl.rd))) (frzs vs c)
  | .lst xs, c => (evEs xs c).bind fun vs c => .ok (.tmp (.lst (vs.map Vl.rd))) (frzs vs c)
  | .dsp ks xs, c => (evEs xs c).bind fun vs c => .ok (.d (.dct (ks.map .str) (vs.map Vl.rd))) (frzs vs c)
  | .isl x, c => (evE x c).bind kIsl
  | .orv x y, c => (evE x c).bind fun a c => (ofO (truD a.rd) c).bind fun t c => if t then .ok a c else evE y c
  | .lc e t vs w xs cs, c => (evEs xs c).bind fun us c => (ofO (wkD w (us.map Vl.rd)) c).bind fun its c => doLc t vs (evTs cs) (evE e) its c
termination_by structural x => x
def evEs : List E → C → R (List Vl)
  | [], c => .ok [] c
  | e :: es, c => (evE e c).bind fun v c => (evEs es c).bind fun vs c => .ok (v :: vs) c
termination_by structural x => x
def evO : Option E → C → R (Option Int)
  | none, c => .ok none c
  | some e, c => (evE e c).bind fun v c => match v.rd with
    | .int i => .ok (some i) c
    | _ => .st
termination_by structural x => x
def evT : E → C → R Bool
  | .and x y, c => (evT x c).bind fun b c => if b then evT y c else .ok false c
  | .or x y, c => (evT x c).bind fun b c => if b then .ok true c else evT y c
  | .not x, c => (evT x c).bind fun b c => .ok (!b) c
  | .cmp o x y, c => (evE x c).bind fun a c => (evE y c).bind fun b c => ofO (cmpD o a.rd b.rd) c
  | .chain o p x y z, c => (evE x c).bind fun a c => (evE y c).bind fun b c => (ofO (cmpD o a.rd b.rd) c).bind fun t c =>
      if t then (evE z c).bind fun d c => ofO (cmpD p b.rd d.rd) c else .ok false c
  | .v i, c => (rdV i c).bind asB
  | .call g xs, c => ((evEs xs c).bind (doCall call g)).bind asB
  | .blt f xs, c => ((evEs xs c).bind (doBlt f)).bind asB
  | .isi x t, c => ((evE x c).bind (doIsi t)).bind asB
  | .ix x y, c => ((evE x c).bind fun a c => (evE y c).bind (doIx a)).bind asB
  | _, _ => .st
termination_by structural x => x
def evTs : List E → C → R Bool
  | [], c => .ok true c
  | [e], c => evT e c
  | _, _ => .st
termination_by structural x => x
end
/-- a for loop's turns -/
def forL (t : Tg) (body : C → R Fl) : List D → C → R Fl
  | [], c => .ok .nx c
  | x :: xs, c => match tgt t x c with
    | none => .st
    | some c => (body c).bind fun f c => match f with
      | .nx => forL t body xs c
      | .ct => forL t body xs c
      | .bk => .ok .nx c
      | .rt v => .ok (.rt v) c
def whlL (test : C → R Bool) (body : C → R Fl) : Nat → C → R Fl
  | 0, _ => .st
  | n + 1, c => (test c).bind fun b c => if b then (body c).bind fun f c => match f with
      | .nx => whlL test body n c
      | .ct => whlL test body n c
      | .bk => .ok .nx c
      | .rt v => .ok (.rt v) c
    else .ok .nx c
/-- a value is laid into a name; into a tuple's names -/
def lay (t : Tg) (v : Vl) (c : C) : R Fl := match t, v with
  | .nm i, .d x => .ok .nx (c.set i (.dat x))
  | .nm i, .tmp x => .ok .nx (c.set i (.own x))
  | .nm i, .bor j x => .ok .nx ((frz (.bor j x) c).set i (.dat x))
  | .tp is, .d x => match tgt (.tp is) x c with
    | some c => .ok .nx c
    | none => .st
  | _, _ => .st
def nxt (f : Fl) (c : C) (k : C → R Fl) : R Fl := match f with
  | .nx => k c
  | f => .ok f c
mutual
/-- the name's own list stays as it is -/
def keepsS (i : Nat) : S → Bool
  | .asg (.nm j) _ => i != j
  | .asg (.tp js) _ => !js.contains i
  | .app j _ => i != j
  | .ext j _ => i != j
  | .pop (.nm k) j => i != j && i != k
  | .pop (.tp ks) j => i != j && !ks.contains i
  | .setix j _ _ => i != j
  | .ife _ a b => keepsSs i a && keepsSs i b
  | .forr (.nm j) _ _ b => i != j && keepsSs i b
  | .forr (.tp js) _ _ b => !js.contains i && keepsSs i b
  | .whl _ b => keepsSs i b
  | .tri b _ j r => keepsSs i b && keepsSs i r && j != some i
  | _ => true
def keepsSs (i : Nat) : List S → Bool
  | [] => true
  | s :: r => keepsS i s && keepsSs i r
end
def keepsV (b : List S) : List Vl → Bool
  | [] => true
  | .bor i _ :: r => keepsSs i b && keepsV b r
  | _ :: r => keepsV b r
/-- an exception's field: a text or a number -/
def newX (g : Nat) (ds : List D) : Option (List D) := match ds with
  | [.str s] => if (decide (s.length ≤ 1000) && (g == 0 || g == 1)) = true then some [.str s] else none
  | [.int i] => if (decide (0 ≤ i) && decide (i < 1000000000000) && (g == 2 || g == 3 || g == 5)) = true then some [.int i] else none
  | [] => if (g == 4 || g == 6) = true then some [] else none
  | _ => none
def doRai (g : Nat) (vs : List Vl) (c : C) : R Fl := match newX g (vs.map Vl.rd) with
  | some fs => .ex ⟨g, fs⟩ c
  | none => .st
def bindX (i : Option Nat) (x : Xc) (c : C) : C := match i with
  | some i => c.set i (.dat (.exn x.c x.fs))
  | none => c
def unX (i : Option Nat) (c : C) : C := match i with
  | some i => c.set i .no
  | none => c
def triR (h : Nat) (i : Option Nat) (rr : C → R Fl) : R Fl → R Fl
  | .ex x c => if x.c = h then (noex (rr (bindX i x c))).bind fun f c => .ok f (unX i c) else .ex x c
  | r => r
def fuel : Nat := 2 ^ 40
def doApp (i : Nat) (v : Vl) (c : C) : R Fl := match (frz v c).get i with
  | .own (.lst xs) => if xs.length < line then .ok .nx ((frz v c).set i (.own (.lst (xs ++ [v.rd])))) else .st
  | _ => .st
def doSet (i : Nat) (v j : Vl) (c : C) : R Fl := match (frz v c).get i, j.rd with
  | .own (.lst xs), .int k => match ixN xs.length k with
    | some n => .ok .nx ((frz v c).set i (.own (.lst (xs.set n v.rd))))
    | none => .st
  | _, _ => .st
def doFor (t : Tg) (w : Wk) (b : List S) (body : C → R Fl) (us : List Vl) (c : C) : R Fl :=
  (ofO (wkD w (us.map Vl.rd)) c).bind fun its c => if keepsV [.forr t w [] b] us then forL t body its c else .st
mutual
def evS : S → C → R Fl
  | .asg t e, c => (evE P call e c).bind (lay t)
  | .app i e, c => match c.get i with
    | .own (.lst _) => (evE P call e c).bind (doApp i)
    | _ => .st
  | .ext i e, c => (evE P call e c).bind fun v c => match c.get i, v.rd with
    | .own (.lst xs), .lst ys => if xs.length + ys.length ≤ line then .ok .nx (c.set i (.own (.lst (xs ++ ys)))) else .st
    | _, _ => .st
  | .pop t i, c => match c.get i with
    | .own (.lst xs) => match xs.getLast? with
      | some x => lay t (.d x) (c.set i (.own (.lst xs.dropLast)))
      | none => .st
    | _ => .st
  | .setix i x y, c => (evE P call y c).bind fun v c => match c.get i with
    | .own (.lst _) => (evE P call x c).bind (doSet i v)
    | _ => .st
  | .ife t a b, c => (evT P call t c).bind fun q c => if q then evSs a c else evSs b c
  | .forr t w xs b, c => (evEs P call xs c).bind (doFor t w b (evSs b))
  | .whl t b, c => whlL (evT P call t) (evSs b) fuel c
  | .ret e, c => (evE P call e c).bind fun v c => .ok (.rt (v.rv c)) c
  | .retn, c => .ok (.rt (.d .non)) c
  | .exp e, c => (evE P call e c).bind fun _ c => .ok .nx c
  | .pass, c => .ok .nx c
  | .brk, c => .ok .bk c
  | .cnt, c => .ok .ct c
  | .nev, _ => .st
  | .rai g xs, c => (evEs P call xs c).bind (doRai g)
  | .tri b h i r, c => triR h i (evSs r) (evSs b c)
termination_by structural x => x
def evSs : List S → C → R Fl
  | [], c => .ok .nx c
  | s :: r, c => (evS s c).bind fun f c => nxt f c (evSs r)
termination_by structural x => x
end
end
def endR : R Fl → Rc
  | .st => .st
  | .ok .nx c => .ok (.d .non) c.sto
  | .ok (.rt v) c => .ok v c.sto
  | .ok _ _ => .st
  | .ex x c => .ex x c.sto
def startL (n : Nat) (ds : List D) : List Sl := ds.map Sl.dat ++ List.replicate (n - ds.length) Sl.no
def runFn (P : Pg) (call : CallT) (f : Fn) (ds : List D) (s : Sto) : Rc :=
  if ds.length = f.np then endR (evSs P call f.body ⟨startL f.nl ds, s⟩) else .st
def callN (P : Pg) : Nat → CallT
  | 0 => fun _ _ _ => .st
  | n + 1 => fun g ds s => match P.fns g with
    | some f => runFn P (callN P n) f ds s
    | none => match P.xt g ds with
      | some v => .ok v s
      | none => .st
end Ev
end
section
set_option maxRecDepth 100000
set_option maxHeartbeats 1000000
/-! Ev2: how data lie in the abstract heap. -/
namespace Ev
open PySem L2
abbrev Fg := PySem.W.Frag
/-- all that is known stays, but tables of code objects -/
structure Same (H H' : Hp) : Prop where
  keep : ∀ (b : Addr) (o : HO), H b = some o → (nt : ∀ ps, o ≠ HO.tbl ps := by intro _ z; cases z) → H' b = some o
  tbls : ∀ b ps, H b = some (.tbl ps) → ∃ ps', H' b = some (.tbl ps')
theorem Same.of {H H' : Hp} (h : ∀ b o, H b = some o → H' b = some o) : Same H H' := ⟨fun b o e _ => h b o e, fun b ps e => ⟨ps, h b _ e⟩⟩
theorem Same.dom {H H' : Hp} (s : Same H H') (b : Addr) (n : H' b = none) : H b = none := by
  cases q : H b with
  | none => rfl
  | some o =>
    by_cases h : ∃ ps, o = .tbl ps
    · obtain ⟨ps, rfl⟩ := h
      obtain ⟨ps', e⟩ := s.tbls b ps q
      rw [n] at e; cases e
    · have e := s.keep b o q fun ps z => h ⟨ps, z⟩
      rw [n] at e; cases e
/-- what is no list stands apart from what is one -/
theorem Same.lst {H H' : Hp} (s : Same H H') {b : Addr} {o : HO} {vs : List V} (q : H b = some o) (e : H' b = some (.lst vs)) : o = .lst vs := by
  by_cases h : ∃ ps, o = .tbl ps
  · obtain ⟨ps, rfl⟩ := h
    obtain ⟨ps', e'⟩ := s.tbls b ps q
    rw [e] at e'; cases e'
  · have e' := s.keep b o q fun ps z => h ⟨ps, z⟩
    rw [e] at e'; cases e'; rfl
theorem Same.refl (H : Hp) : Same H H := .of fun _ _ h => h
theorem Same.trans {H H1 H2 : Hp} (a : Same H H1) (b : Same H1 H2) : Same H H2 := ⟨fun c o h n => b.keep c o (a.keep c o h n) n, fun c ps h => (a.tbls c ps h).elim fun ps' h' => b.tbls c ps' h'⟩
theorem Same.free {H H' : Hp} (e : Same H H') {l : Addr} (h : H' l = Option.none) : H l = Option.none := e.dom l h
theorem Same.there {H H' : Hp} (e : Same H H') {b : Addr} {o : HO} (h : H b = some o) : ∃ o', H' b = some o' := by
  cases q : H' b with
  | none => rw [e.dom b q] at h; cases h
  | some o' => exact ⟨o', rfl⟩
instance {H H' : Hp} : CoeFun (Same H H') (fun _ => ∀ (b : Addr) (o : HO), H b = some o → (nt : ∀ ps, o ≠ HO.tbl ps := by intro _ z; cases z) → H' b = some o) := ⟨@Same.keep H H'⟩
/-- the lambda's name -/
abbrev lamN : PySem.Str := "_law_sorted.<locals>.<lambda>"
/-- c is the code object, P the table of the one function that makes a lambda -/
def LamCd (K : Fg) (c P : Addr) : Prop := ∃ (f : Addr) (oc : Value) (od : Option Addr) (osl : Array (Option Value)) (fd : FuncData),
  PySem.W.nsIn K mainGlobals "_law_sorted" = some (some (.ref f)) ∧ K.lookup f = some ⟨oc, od, .func fd, osl⟩ ∧ fd.code = .ref c ∧ PySem.W.codeHdIn K c P = true
def LamMk (K : Fg) (P : Addr) : Prop := ∃ c, LamCd K c P
/-- .. and tables tell as before -/
structure Grow (K : Fg) (H H' : Hp) : Prop extends Same H H' where
  tabs : ∀ P, LamMk K P → LamX.TabS H P lamN → LamX.TabS H' P lamN
theorem Grow.of {K : Fg} {H H' : Hp} (h : ∀ b o, H b = some o → H' b = some o) : Grow K H H' := ⟨.of h, fun T _ t => LamX.TabS.ext t h⟩
theorem Grow.refl {K : Fg} (H : Hp) : Grow K H H := .of fun _ _ h => h
theorem Grow.trans {K : Fg} {H H1 H2 : Hp} (a : Grow K H H1) (b : Grow K H1 H2) : Grow K H H2 := ⟨a.toSame.trans b.toSame, fun T m t => b.tabs T m (a.tabs T m t)⟩
theorem Grow.free {K : Fg} {H H' : Hp} (e : Grow K H H') {l : Addr} (h : H' l = Option.none) : H l = Option.none := e.dom l h
instance {K : Fg} {H H' : Hp} : CoeFun (Grow K H H') (fun _ => ∀ (b : Addr) (o : HO), H b = some o → (nt : ∀ ps, o ≠ HO.tbl ps := by intro _ z; cases z) → H' b = some o) := ⟨fun g => @Same.keep H H' g.toSame⟩
instance {K : Fg} {H H' : Hp} : CoeOut (Grow K H H') (Same H H') := ⟨Grow.toSame⟩
/-- what is known elsewhere, told too -/
theorem Same.known {F H : Hp} {a : Addr} {o : HO} (s : Same F H) (q : H a = some o) : Same (upd F a o) H where
  keep := fun b u e nt => by
    by_cases hb : b = a
    · subst hb; rw [upd_same] at e; cases e; exact q
    · rw [upd_ne hb] at e; exact s.keep b u e nt
  tbls := fun b ps e => by
    by_cases hb : b = a
    · subst hb; rw [upd_same] at e; cases e; exact ⟨ps, q⟩
    · rw [upd_ne hb] at e; exact s.tbls b ps e
theorem Same.seq {K : PySem.W.Frag} {H H' : Hp} {a : Addr} {xs : List V} (e : Same H H') (h : SqL K H a xs) : SqL K H' a xs := by
  rcases h with (h | ⟨o, h⟩) | h
  · exact .inl (.inl (e _ _ h))
  · exact .inl (.inr ⟨o, e _ _ h⟩)
  · exact .inr h

def okS (x : PySem.Str) : Bool := PySem.PyData.strOk x

/-- the classes that the clean language speaks of, and their fields in the order in which they are stored -/
def clsName : Nat → PySem.Str
  | 0 => "Hasher"
  | 1 => "TreeSource"
  | 2 => "Hasher"
  | 100 => "InvalidArgument" | 101 => "BadQuestion" | 102 => "BadPaper" | 103 => "BadWish" | 104 => "Unknown" | 105 => "NoSuchDeed" | 106 => "TooManyDeeds"
  | _ => ""
def clsFields : Nat → List PySem.Str
  | 0 => ["modulus", "multiplier"]
  | 1 => ["tree"]
  | 2 => ["modulus", "multiplier"]
  | 100 => ["name"] | 101 => ["reason"] | 102 => ["place"] | 103 => ["place"] | 105 => ["number"]
  | _ => []
def clsAt (K : Fg) (c : Nat) (C : Addr) : Prop := PySem.W.nsIn K mainGlobals (clsName c) = some (some (.ref C))

/-- an exception that was caught: its class, its dict -/
def xo (a C : Addr) (d : Option Addr) : HO := .ext fun h => ∃ (oe : Obj) (vs : Array Value), h.get? a = some oe ∧ Zc (.ref C) d oe ∧ oe.data = .fields vs
def kD : Key → D
  | .inl i => .int i
  | .inr s => .str s.cps.toList
def kOk : Key → Bool
  | .inl _ => true
  | .inr s => okS s
mutual
/-- v is d, by what is frozen: F -/
inductive Rep (K : Fg) (F : Hp) : V → D → Prop
  | non : Rep K F .non .non
  | bl (b : Bool) : Rep K F (.bl b) (.bl b)
  | int (i : Int) : Rep K F (.int i) (.int i)
  | str (x : PySem.Str) (h : okS x = true) : Rep K F (.str x) (.str x.cps.toList)
  | tup {a : Addr} {vs : List V} {ds : List D} : SqT K F a vs → Reps K F vs ds → Rep K F (.ref a) (.tup ds)
  | lst {a : Addr} {vs : List V} {ds : List D} : SqL K F a vs → Reps K F vs ds → Rep K F (.ref a) (.lst ds)
  | obj {a dx C : Addr} {c : Nat} {fs : List (PySem.Str × V)} {vs : List V} {ds : List D} : c < 100 → clsAt K c C → F a = some (.ins C dx fs) → F dx = some (.own a) → fs = (clsFields c).zip vs → Reps K F vs ds → Rep K F (.ref a) (.obj c ds)
  | exn {a C : Addr} {dd : Option Addr} {c : Nat} {fs : List (PySem.Str × V)} {vs : List V} {ds : List D} : clsAt K (100 + c) C → F a = some (xo a C dd) → (ds ≠ [] → ∃ d, dd = some d ∧ F d = some (.xd fs)) → fs = (clsFields (100 + c)).zip vs → Reps K F vs ds → Rep K F (.ref a) (.exn c ds)
  | dctK {a : Addr} {kvs : List (Key × V)} {ks ds : List D} {vs : List V} : Rd F a (.dK kvs) → kvs.all (fun p => kOk p.1) = true → ks = kvs.map (fun p => kD p.1) → vs = kvs.map (·.2) → Reps K F vs ds → Rep K F (.ref a) (.dct ks ds)
inductive Reps (K : Fg) (F : Hp) : List V → List D → Prop
  | nil : Reps K F [] []
  | cons {v : V} {vs : List V} {d : D} {ds : List D} : Rep K F v d → Reps K F vs ds → Reps K F (v :: vs) (d :: ds)
end

section
variable {K : Fg} {F F' H H' : Hp}
theorem rd_mono {a : Addr} {o : HO} (h : Same F F') (r : Rd F a o) (nt : ∀ ps, o ≠ HO.tbl ps := by intro _ z; cases z) : Rd F' a o := by
  rcases r with r | ⟨q, r⟩
  · exact .inl (h _ _ r nt)
  · exact .inr ⟨q, h _ _ r⟩
theorem sqt_mono {a : Addr} {vs : List V} (h : Same F F') (r : SqT K F a vs) : SqT K F' a vs := r.elim (fun r => .inl (rd_mono h r)) .inr
theorem sql_mono {a : Addr} {vs : List V} (h : Same F F') (r : SqL K F a vs) : SqL K F' a vs := r.elim (fun r => .inl (rd_mono h r)) .inr
mutual
theorem Rep.mono (h : Same F F') : ∀ {v : V} {d : D}, Rep K F v d → Rep K F' v d
  | _, _, .non => .non
  | _, _, .bl b => .bl b
  | _, _, .int i => .int i
  | _, _, .str x q => .str x q
  | _, _, .tup s r => .tup (sqt_mono h s) (Reps.mono h r)
  | _, _, .lst s r => .lst (sql_mono h s) (Reps.mono h r)
  | _, _, .obj kc k e1 e2 e3 r => .obj kc k (h _ _ e1) (h _ _ e2) e3 (Reps.mono h r)
  | _, _, .exn k e1 e2 e3 r => .exn k (h _ _ e1) (fun z => (e2 z).imp fun _ q => ⟨q.1, h _ _ q.2⟩) e3 (Reps.mono h r)
  | _, _, .dctK e1 e2 e3 e4 r => .dctK (rd_mono h e1) e2 e3 e4 (Reps.mono h r)
theorem Reps.mono (h : Same F F') : ∀ {vs : List V} {ds : List D}, Reps K F vs ds → Reps K F' vs ds
  | _, _, .nil => .nil
  | _, _, .cons a b => .cons (Rep.mono h a) (Reps.mono h b)
end
/-- only lists are lost -/
def LessL (F F' : Hp) : Prop := ∀ a o, F a = some o → F' a = some o ∨ ∃ xs, o = .lst xs
mutual
theorem Rep.thin (h : LessL F F') : ∀ {v : V} {d : D}, Rep K F v d → flat d = true → Rep K F' v d
  | _, _, .non, _ => .non
  | _, _, .bl b, _ => .bl b
  | _, _, .int i, _ => .int i
  | _, _, .str x q, _ => .str x q
  | _, _, .tup s r, q => by
    refine .tup ?_ (Reps.thin h r (by simpa [flat] using q))
    rcases s with (s | ⟨o, s⟩) | s
    · rcases h _ _ s with z | ⟨_, z⟩
      · exact .inl (.inl z)
      · cases z
    · rcases h _ _ s with z | ⟨_, z⟩
      · exact .inl (.inr ⟨o, z⟩)
      · cases z
    · exact .inr s
  | _, _, .lst s r, q => by simp [flat] at q
  | _, _, .obj kc k e1 e2 e3 r, q => by
    have z1 := (h _ _ e1).resolve_right fun ⟨_, z⟩ => by cases z
    have z2 := (h _ _ e2).resolve_right fun ⟨_, z⟩ => by cases z
    exact .obj kc k z1 z2 e3 (Reps.thin h r (by simpa [flat] using q))
  | _, _, .exn k e1 e2 e3 r, q => by
    have z1 := (h _ _ e1).resolve_right fun ⟨_, z⟩ => by cases z
    refine .exn k z1 (fun z => ?_) e3 (Reps.thin h r (by simpa [flat] using q))
    obtain ⟨d, h1, h2⟩ := e2 z
    exact ⟨d, h1, (h _ _ h2).resolve_right fun ⟨_, z⟩ => by cases z⟩
  | _, _, .dctK _ _ _ _ _, q => by simp [flat] at q
theorem Reps.thin (h : LessL F F') : ∀ {vs : List V} {ds : List D}, Reps K F vs ds → flatA ds = true → Reps K F' vs ds
  | _, _, .nil, _ => .nil
  | _, _, .cons a b, q => by
    simp only [flatA, Bool.and_eq_true] at q
    exact .cons (Rep.thin h a q.1) (Reps.thin h b q.2)
end
theorem Reps.length : ∀ {vs : List V} {ds : List D}, Reps K F vs ds → vs.length = ds.length
  | _, _, .nil => rfl
  | _, _, .cons _ b => by simp [Reps.length b]
theorem Reps.get : ∀ {vs : List V} {ds : List D} {i : Nat} {d : D}, Reps K F vs ds → ds[i]? = some d → ∃ v, vs[i]? = some v ∧ Rep K F v d
  | _, _, _, _, .nil, e => by simp at e
  | _, _, 0, _, .cons a _, e => by simp at e; subst e; exact ⟨_, rfl, a⟩
  | _, _, i + 1, _, .cons _ b, e => by
    obtain ⟨v, h1, h2⟩ := Reps.get (i := i) b (by simpa using e)
    exact ⟨v, by simpa using h1, h2⟩
theorem Reps.app : ∀ {vs us : List V} {ds es : List D}, Reps K F vs ds → Reps K F us es → Reps K F (vs ++ us) (ds ++ es)
  | _, _, _, _, .nil, s => s
  | _, _, _, _, .cons a b, s => .cons a (Reps.app b s)
theorem Reps.take : ∀ {vs : List V} {ds : List D} (n : Nat), Reps K F vs ds → Reps K F (vs.take n) (ds.take n)
  | _, _, 0, _ => .nil
  | _, _, _ + 1, .nil => .nil
  | _, _, n + 1, .cons a b => .cons a (Reps.take n b)
theorem Reps.drop : ∀ {vs : List V} {ds : List D} (n : Nat), Reps K F vs ds → Reps K F (vs.drop n) (ds.drop n)
  | _, _, 0, r => r
  | _, _, _ + 1, .nil => .nil
  | _, _, n + 1, .cons _ b => Reps.drop n b
theorem Reps.rep {vs : List V} {ds : List D} (h : Reps K F vs ds) : ∀ n : Nat, Reps K F (List.replicate n vs).flatten (List.replicate n ds).flatten
  | 0 => .nil
  | n + 1 => by
    rw [List.replicate_succ, List.replicate_succ, List.flatten_cons, List.flatten_cons]
    exact h.app (Reps.rep h n)
theorem Reps.one {v : V} {d : D} (h : Rep K F v d) : Reps K F [v] [d] := .cons h .nil
theorem Reps.reverse : ∀ {vs : List V} {ds : List D}, Reps K F vs ds → Reps K F vs.reverse ds.reverse
  | _, _, .nil => .nil
  | _, _, .cons a b => by
    rw [List.reverse_cons, List.reverse_cons]
    exact (Reps.reverse b).app (.one a)
theorem Reps.set {v : V} {d : D} (h : Rep K F v d) : ∀ {vs : List V} {ds : List D} (n : Nat), Reps K F vs ds → Reps K F (vs.set n v) (ds.set n d)
  | _, _, _, .nil => .nil
  | _, _, 0, .cons _ b => .cons h b
  | _, _, n + 1, .cons a b => .cons a (Reps.set h n b)
theorem Reps.dropLast : ∀ {vs : List V} {ds : List D}, Reps K F vs ds → Reps K F vs.dropLast ds.dropLast
  | _, _, .nil => .nil
  | _, _, .cons _ .nil => .nil
  | _, _, .cons a (.cons b c) => by
    rw [List.dropLast_cons_cons, List.dropLast_cons_cons]
    exact .cons a (Reps.dropLast (.cons b c))

/-! ### its own PyData -/
mutual
def toPy : D → PyData
  | .non => .none
  | .bl b => .bool b
  | .int i => .int i
  | .str s => .str ⟨s.toArray⟩
  | .tup xs => .tuple (toPys xs)
  | .lst xs => .list (toPys xs)
  | _ => .none
def toPys : List D → List PyData
  | [] => []
  | x :: xs => toPy x :: toPys xs
end
mutual
theorem Rep.dp (h : Same F H) : ∀ {v : V} {d : D}, Rep K F v d → pln d = true → Dp K H v (toPy d)
  | _, _, .non, _ => .non
  | _, _, .bl b, _ => .bl b
  | _, _, .int i, _ => .int i
  | _, _, .str x q, _ => by
    have e : (⟨x.cps.toList.toArray⟩ : PySem.Str) = x := by cases x; simp
    show Dp K H (.str x) (.str ⟨x.cps.toList.toArray⟩)
    rw [e]; exact .str x
  | _, _, .tup s r, p => .tup (sqt_mono h s) (Reps.dp h r (by simpa [pln] using p))
  | _, _, .lst s r, p => .lst (sql_mono h s) (Reps.dp h r (by simpa [pln] using p))
  | _, _, .obj _ _ _ _ _ _, p => by simp [pln] at p
  | _, _, .exn _ _ _ _ _, p => by simp [pln] at p
  | _, _, .dctK _ _ _ _ _, p => by simp [pln] at p
theorem Reps.dp (h : Same F H) : ∀ {vs : List V} {ds : List D}, Reps K F vs ds → plnA ds = true → DpAll K H vs (toPys ds)
  | _, _, .nil, _ => .nil
  | _, _, .cons a b, p => by
    simp only [plnA, Bool.and_eq_true] at p
    exact .cons (Rep.dp h a p.1) (Reps.dp h b p.2)
end
mutual
theorem Rep.lay (h : Same F H) : ∀ {v : V} {d : D}, Rep K F v d → pln d = true → (toPy d).canLay0 = true
  | _, _, .non, _ => rfl
  | _, _, .bl b, _ => rfl
  | _, _, .int i, _ => rfl
  | _, _, .str x q, _ => by
    have e : (⟨x.cps.toList.toArray⟩ : PySem.Str) = x := by cases x; simp
    show PySem.PyData.strOk ⟨x.cps.toList.toArray⟩ = true
    rw [e]; exact q
  | _, _, .tup s r, p => by simpa [toPy, PyData.canLay0] using Reps.lay h r (by simpa [pln] using p)
  | _, _, .lst s r, p => by simpa [toPy, PyData.canLay0] using Reps.lay h r (by simpa [pln] using p)
  | _, _, .obj _ _ _ _ _ _, p => by simp [pln] at p
  | _, _, .exn _ _ _ _ _, p => by simp [pln] at p
  | _, _, .dctK _ _ _ _ _, p => by simp [pln] at p
theorem Reps.lay (h : Same F H) : ∀ {vs : List V} {ds : List D}, Reps K F vs ds → plnA ds = true → PyData.canLayAll0 (toPys ds) = true
  | _, _, .nil, _ => rfl
  | _, _, .cons a b, p => by
    simp only [plnA, Bool.and_eq_true] at p
    simp only [toPys, PyData.canLayAll0, Rep.lay h a p.1, Reps.lay h b p.2, Bool.and_self]
end
mutual
theorem dep_py : ∀ d : D, (toPy d).depth = dep d
  | .non => rfl
  | .bl _ => rfl
  | .int _ => rfl
  | .str _ => rfl
  | .tup xs => by simp only [toPy, PyData.depth, dep, dep_pys xs]
  | .lst xs => by simp only [toPy, PyData.depth, dep, dep_pys xs]
  | .dct _ _ => rfl
  | .obj _ _ => rfl
  | .exn _ _ => rfl
  | .fn _ _ => rfl
theorem dep_pys : ∀ ds : List D, PyData.depthAll (toPys ds) = depA ds
  | [] => rfl
  | x :: xs => by simp only [toPys, PyData.depthAll, depA, dep_py x, dep_pys xs]
end
theorem str_beq (x y : List Nat) : ((⟨x.toArray⟩ : PySem.Str) == ⟨y.toArray⟩) = (x == y) := by
  by_cases h : x = y
  · subst h; simp
  · have h2 : ¬ ((⟨x.toArray⟩ : PySem.Str) = ⟨y.toArray⟩) := fun e => h (by simpa using congrArg (fun z : PySem.Str => z.cps.toList) e)
    rw [beq_eq_false_iff_ne.mpr h, beq_eq_false_iff_ne.mpr h2]
mutual
theorem eqv_py : ∀ x y : D, pln x = true → pln y = true → PyData.eqv (toPy x) (toPy y) = deq x y
  | .str x, .str y, _, _ => by simp only [toPy, PyData.eqv, deq, str_beq]
  | .tup xs, .tup ys, hx, hy => by
    simp only [toPy, PyData.eqv, deq]
    exact eqv_pys xs ys (by simpa [pln] using hx) (by simpa [pln] using hy)
  | .lst xs, .lst ys, hx, hy => by
    simp only [toPy, PyData.eqv, deq]
    exact eqv_pys xs ys (by simpa [pln] using hx) (by simpa [pln] using hy)
  | .non, .non, _, _ => rfl | .non, .bl _, _, _ => rfl | .non, .int _, _, _ => rfl | .non, .str _, _, _ => rfl | .non, .tup _, _, _ => rfl | .non, .lst _, _, _ => rfl
  | .bl _, .non, _, _ => rfl | .bl _, .bl _, _, _ => rfl | .bl _, .int _, _, _ => rfl | .bl _, .str _, _, _ => rfl | .bl _, .tup _, _, _ => rfl | .bl _, .lst _, _, _ => rfl
  | .int _, .non, _, _ => rfl | .int _, .bl _, _, _ => rfl | .int _, .int _, _, _ => rfl | .int _, .str _, _, _ => rfl | .int _, .tup _, _, _ => rfl | .int _, .lst _, _, _ => rfl
  | .str _, .non, _, _ => rfl | .str _, .bl _, _, _ => rfl | .str _, .int _, _, _ => rfl | .str _, .tup _, _, _ => rfl | .str _, .lst _, _, _ => rfl
  | .tup _, .non, _, _ => rfl | .tup _, .bl _, _, _ => rfl | .tup _, .int _, _, _ => rfl | .tup _, .str _, _, _ => rfl | .tup _, .lst _, _, _ => rfl
  | .lst _, .non, _, _ => rfl | .lst _, .bl _, _, _ => rfl | .lst _, .int _, _, _ => rfl | .lst _, .str _, _, _ => rfl | .lst _, .tup _, _, _ => rfl
  | .dct _ _, _, h, _ => by simp [pln] at h
  | .obj _ _, _, h, _ => by simp [pln] at h
  | .exn _ _, _, h, _ => by simp [pln] at h
  | .fn _ _, _, h, _ => by simp [pln] at h
  | _, .dct _ _, _, h => by simp [pln] at h
  | _, .obj _ _, _, h => by simp [pln] at h
  | _, .exn _ _, _, h => by simp [pln] at h
  | _, .fn _ _, _, h => by simp [pln] at h
theorem eqv_pys : ∀ xs ys : List D, plnA xs = true → plnA ys = true → PyData.eqvAll (toPys xs) (toPys ys) = deqs xs ys
  | [], [], _, _ => rfl
  | x :: xs, y :: ys, hx, hy => by
    simp only [plnA, Bool.and_eq_true] at hx hy
    simp only [toPys, PyData.eqvAll, deqs, eqv_py x y hx.1 hy.1, eqv_pys xs ys hx.2 hy.2]
  | [], _ :: _, _, _ => rfl
  | _ :: _, [], _, _ => rfl
end
theorem Rep.shaped {v : V} {d : D} (r : Rep K F v d) (h : shp d = true) : SeqAt.shaped (toPy d) = true := by
  unfold shp at h
  rw [Bool.and_eq_true, decide_eq_true_eq] at h
  unfold SeqAt.shaped
  rw [Rep.lay (Same.refl F) r h.1, dep_py]
  simpa using h.2

/-! ### a list of one's own -/
def Own (K : Fg) (F H : Hp) (a : Addr) : D → Prop
  | .lst xs => ∃ vs, H a = some (.lst vs) ∧ Reps K F vs xs
  | _ => False
/-- readable as d -/
def Rdb (K : Fg) (F H : Hp) (v : V) (d : D) : Prop := Rep K F v d ∨ ∃ a, v = .ref a ∧ Own K F H a d
theorem Own.mono {a : Addr} {d : D} (h : Own K F H a d) (s : Same F F') (t : H' a = H a) : Own K F' H' a d := by
  cases d <;> first | exact h | skip
  obtain ⟨vs, e, r⟩ := h
  exact ⟨vs, t.trans e, r.mono s⟩
theorem Own.ls {a : Addr} {d : D} (h : Own K F H a d) : ∃ xs vs, d = .lst xs ∧ H a = some (.lst vs) ∧ Reps K F vs xs := by
  cases d <;> first | exact False.elim h | skip
  obtain ⟨vs, e, r⟩ := h
  exact ⟨_, vs, rfl, e, r⟩
theorem Own.rep {a : Addr} {d : D} (h : Own K F H a d) (s : Same F F') (t : F' a = H a) : Rep K F' (.ref a) d := by
  obtain ⟨xs, vs, rfl, e, r⟩ := h.ls
  exact .lst (.inl (.inl (t.trans e))) (r.mono s)
theorem Rdb.mono {v : V} {d : D} (h : Rdb K F H v d) (s : Same F F') (t : Same H H') : Rdb K F' H' v d := by
  rcases h with h | ⟨a, e, h⟩
  · exact .inl (h.mono s)
  · refine .inr ⟨a, e, h.mono s ?_⟩
    obtain ⟨xs, vs, rfl, q, r⟩ := h.ls
    rw [q]; exact t _ _ q
/-- its list is to be read -/
theorem Rdb.list {v : V} {xs : List D} (h : Rdb K F H v (.lst xs)) (s : Same F H) : ∃ a vs, v = .ref a ∧ SqL K H a vs ∧ Reps K F vs xs := by
  rcases h with h | ⟨a, e, h⟩
  · cases h with
    | lst q r => exact ⟨_, _, rfl, sql_mono s q, r⟩
  · obtain ⟨vs, q, r⟩ := h
    exact ⟨a, vs, e, .inl (.inl q), r⟩
theorem Rdb.tup {v : V} {xs : List D} (h : Rdb K F H v (.tup xs)) (s : Same F H) : ∃ a vs, v = .ref a ∧ SqT K H a vs ∧ SqT K F a vs ∧ Reps K F vs xs := by
  rcases h with h | ⟨a, e, h⟩
  · cases h with
    | tup q r => exact ⟨_, _, rfl, sqt_mono s q, q, r⟩
  · exact False.elim h
theorem Rdb.dp {v : V} {d : D} (h : Rdb K F H v d) (s : Same F H) (p : pln d = true) : Dp K H v (toPy d) := by
  rcases h with h | ⟨a, e, h⟩
  · exact h.dp s p
  · obtain ⟨xs, vs, rfl, q, r⟩ := h.ls
    rw [e]
    exact .lst (.inl (.inl q)) (r.dp s (by simpa [pln] using p))
theorem Rdb.shaped {v : V} {d : D} (h : Rdb K F H v d) (s : Same F H) (hd : shp d = true) : SeqAt.shaped (toPy d) = true := by
  rcases h with h | ⟨a, e, h⟩
  · exact h.shaped hd
  · obtain ⟨xs, vs, rfl, q, r⟩ := h.ls
    unfold shp at hd
    rw [Bool.and_eq_true, decide_eq_true_eq] at hd
    unfold SeqAt.shaped
    rw [dep_py]
    have e2 : (toPy (.lst xs)).canLay0 = true := by simpa [toPy, PyData.canLay0] using r.lay s (by simpa [pln] using hd.1)
    rw [e2]
    simpa using hd.2
theorem Rdb.int {v : V} {i : Int} (h : Rdb K F H v (.int i)) : v = .int i := by
  rcases h with h | ⟨a, e, h⟩
  · cases h; rfl
  · exact False.elim h
theorem Rdb.bl {v : V} {i : Bool} (h : Rdb K F H v (.bl i)) : v = .bl i := by
  rcases h with h | ⟨a, e, h⟩
  · cases h; rfl
  · exact False.elim h
theorem Rdb.non {v : V} (h : Rdb K F H v .non) : v = .non := by
  rcases h with h | ⟨a, e, h⟩
  · cases h; rfl
  · exact False.elim h
theorem Rdb.str {v : V} {s : List Nat} (h : Rdb K F H v (.str s)) : ∃ x : PySem.Str, v = .str x ∧ x.cps.toList = s ∧ okS x = true := by
  rcases h with h | ⟨a, e, h⟩
  · cases h with
    | str x q => exact ⟨x, rfl, rfl, q⟩
  · exact False.elim h
end

/-! ### the names' values -/
theorem getS_setS : ∀ (l : List Sl) (i j : Nat) (s : Sl), getS (setS l i s) j = if i = j ∧ i < l.length then s else getS l j
  | [], i, j, s => by simp [setS]
  | x :: l, 0, 0, s => by simp [setS, getS]
  | x :: l, 0, j + 1, s => by simp [setS, getS]
  | x :: l, i + 1, 0, s => by simp [setS, getS]
  | x :: l, i + 1, j + 1, s => by
    simp only [setS, getS, getS_setS l i j s, List.length_cons, Nat.add_lt_add_iff_right, Nat.add_right_cancel_iff]
theorem setS_length : ∀ (l : List Sl) (i : Nat) (s : Sl), (setS l i s).length = l.length
  | [], _, _ => rfl
  | _ :: l, 0, _ => rfl
  | _ :: l, i + 1, s => by simp [setS, setS_length l i s]
theorem getS_out : ∀ (l : List Sl) (i : Nat), l.length ≤ i → getS l i = .no
  | [], _, _ => rfl
  | _ :: l, 0, h => by simp at h
  | _ :: l, i + 1, h => getS_out l i (by simpa using h)

def SlotOk (K : Fg) (F H : Hp) (a : Addr) (o : Option (Option V)) : Sl → Prop
  | .no => True
  | .dat x => ∃ v, o = some (some v) ∧ Rep K F v x
  | .own x => o = some (some (.ref a)) ∧ F a = none ∧ Own K F H a x
/-- its table tells of its lambda alone -/
def GoodT (K : Fg) (H : Hp) : Prop := ∀ P, LamMk K P → LamX.TabS H P lamN
theorem GoodT.tabs {K : Fg} {H H' : Hp} (g : GoodT K H) (t : ∀ P, LamMk K P → LamX.TabS H P lamN → LamX.TabS H' P lamN) : GoodT K H' := fun P m => t P m (g P m)
structure Wf (K : Fg) (F H : Hp) (σ : St) (ρ : List Sl) (α : Nat → Addr) : Prop where
  sub : Same F H
  gt : GoodT K H
  len : ρ.length = σ.length
  slot : ∀ i, SlotOk K F H (α i) σ[i]? (getS ρ i)
  inj : ∀ i j x y, getS ρ i = .own x → getS ρ j = .own y → α i = α j → i = j
/-- not there yet, or a tuple -/
def Nw (H : Hp) (a : Addr) : Prop := H a = none ∨ ∃ xs, H a = some (.tup xs)
theorem Nw.back {H H' : Hp} {a : Addr} (n : Nw H' a) (s : Same H H') : Nw H a := by
  rcases n with n | ⟨xs, n⟩
  · exact .inl (s.free n)
  · cases q : H a with
    | none => exact .inl q
    | some o =>
      by_cases h : ∃ ps, o = .tbl ps
      · obtain ⟨ps, rfl⟩ := h
        obtain ⟨ps', e⟩ := s.tbls a ps q
        rw [n] at e; cases e
      · have e := s.keep a o q fun ps z => h ⟨ps, z⟩
        rw [n] at e; cases e; exact .inr ⟨xs, q⟩
theorem Nw.no {H : Hp} {a : Addr} {xs : List V} (n : Nw H a) (q : H a = some (.lst xs)) : False := by
  rcases n with n | ⟨ys, n⟩ <;> rw [q] at n <;> cases n
/-- an expression's step -/
structure Tr (K : Fg) (ρ ρ' : List Sl) (α : Nat → Addr) (F H F' H' : Hp) : Prop where
  same : Grow K H H'
  sub : Same F F'
  new : ∀ a o, F' a = some o → F a = some o ∨ Nw H a ∨ ∃ i x, getS ρ i = .own x ∧ a = α i
  back : ∀ i x, getS ρ' i = .own x → getS ρ i = .own x
  keep : ∀ i x, getS ρ i = .own x → getS ρ' i = .own x ∨ (Rep K F' (.ref (α i)) x ∧ ∀ y, getS ρ' i ≠ .own y)
/-- what an expression gives -/
def VOk (K : Fg) (H₀ F H : Hp) (σ : St) (ρ : List Sl) (α : Nat → Addr) (u : V) : Vl → Prop
  | .d x => Rep K F u x
  | .tmp x => ∃ a, u = .ref a ∧ H₀ a = none ∧ F a = none ∧ Own K F H a x
  | .bor i x => u = .ref (α i) ∧ σ[i]? = some (some u) ∧ (getS ρ i = .own x ∨ (Rep K F u x ∧ ∀ y, getS ρ i ≠ .own y))

section
variable {K : Fg} {F H F' H' F'' H'' H₀ : Hp} {σ : St} {ρ ρ' ρ'' : List Sl} {α : Nat → Addr} {u : V} {v : Vl}
theorem Tr.refl : Tr K ρ ρ α F H F H := ⟨Grow.refl _, Same.refl _, fun _ _ h => .inl h, fun _ _ h => h, fun _ _ h => .inl h⟩
theorem Tr.trans (t : Tr K ρ ρ' α F H F' H') (s : Tr K ρ' ρ'' α F' H' F'' H'') : Tr K ρ ρ'' α F H F'' H'' := by
  refine ⟨t.same.trans s.same, t.sub.trans s.sub, fun a o h => ?_, fun i x h => t.back i x (s.back i x h), fun i x h => ?_⟩
  · rcases s.new a o h with h | h | ⟨i, x, h, e⟩
    · exact t.new a o h
    · exact .inr (.inl (h.back t.same.toSame))
    · exact .inr (.inr ⟨i, x, t.back i x h, e⟩)
  · rcases t.keep i x h with q | q
    · exact s.keep i x q
    · exact .inr ⟨q.1.mono s.sub, fun y z => q.2 y (s.back i y z)⟩
theorem Wf.cell (w : Wf K F H σ ρ α) {i : Nat} {x : D} (h : getS ρ i = .own x) : σ[i]? = some (some (.ref (α i))) ∧ F (α i) = none ∧ Own K F H (α i) x := by
  have q := w.slot i
  rw [h] at q
  exact q
theorem Own.there {a : Addr} {d : D} (h : Own K F H a d) : ∃ o, H a = some o := by
  obtain ⟨xs, vs, _, e, _⟩ := h.ls
  exact ⟨_, e⟩
theorem Wf.there (w : Wf K F H σ ρ α) {i : Nat} {x : D} (h : getS ρ i = .own x) : ∃ o, H (α i) = some o := (w.cell h).2.2.there
/-- a value at hand stays through a further step -/
theorem VOk.step (w : Wf K F H σ ρ α) (hs : Same H₀ H) (hc : ∀ i x, getS ρ i = .own x → ∃ o, H₀ (α i) = some o) (t : Tr K ρ ρ' α F H F' H') (h : VOk K H₀ F H σ ρ α u v) : VOk K H₀ F' H' σ ρ' α u v := by
  cases v with
  | d x => exact Rep.mono t.sub h
  | tmp x =>
    obtain ⟨a, e, h0, hf, ho⟩ := h
    obtain ⟨xs0, vs0, _, q, _⟩ := ho.ls
    refine ⟨a, e, h0, ?_, ho.mono t.sub ?_⟩
    · cases z : F' a with
      | none => rfl
      | some p =>
        rcases t.new a p z with y | y | ⟨i, x, y, e2⟩
        · rw [hf] at y; cases y
        · exact (y.no q).elim
        · obtain ⟨p, hp⟩ := hc i x y
          rw [← e2, h0] at hp; cases hp
    · rw [q]; exact t.same _ _ q
  | bor i x =>
    obtain ⟨e, hσ, h⟩ := h
    refine ⟨e, hσ, ?_⟩
    rcases h with h | h
    · rcases t.keep i x h with q | q
      · exact .inl q
      · exact .inr ⟨e ▸ q.1, q.2⟩
    · exact .inr ⟨h.1.mono t.sub, fun y z => h.2 y (t.back i y z)⟩
theorem VOk.rdb (w : Wf K F H σ ρ α) (h : VOk K H₀ F H σ ρ α u v) : Rdb K F H u v.rd := by
  cases v with
  | d x => exact .inl h
  | tmp x =>
    obtain ⟨a, e, _, _, h⟩ := h
    exact .inr ⟨a, e, h⟩
  | bor i x =>
    obtain ⟨e, _, h⟩ := h
    rcases h with h | h
    · exact .inr ⟨_, e, (w.cell h).2.2⟩
    · exact .inl h.1
theorem setS_setS : ∀ (ρ : List Sl) (i : Nat) (x y : Sl), setS (setS ρ i x) i y = setS ρ i y
  | [], _, _, _ => rfl
  | _ :: _, 0, _, _ => rfl
  | _ :: l, i + 1, x, y => by simp only [setS, setS_setS l i x y]
theorem grow_upd {a : Addr} {o : HO} (h : F a = none) : Grow K F (upd F a o) := .of fun b q e => by
  rw [upd_ne (ne_of_none e h)]; exact e
theorem same_upd {a : Addr} {o : HO} (h : F a = none) : Same F (upd F a o) := .of fun b q e => by
  rw [upd_ne (ne_of_none e h)]; exact e
theorem Same.both {p : Addr} {o : HO} (s : Same F H) (hp : H p = none) : Same (upd F p o) (upd H p o) where
  keep := fun b u e nt => by
    by_cases hb : b = p
    · subst hb; rw [upd_same] at e ⊢; exact e
    · rw [upd_ne hb] at e ⊢; exact s.keep b u e nt
  tbls := fun b ps e => by
    by_cases hb : b = p
    · subst hb; rw [upd_same] at e ⊢; exact ⟨ps, e⟩
    · rw [upd_ne hb] at e ⊢; exact s.tbls b ps e
theorem Same.out {p : Addr} {o : HO} (s : Same F H) (hf : F p = none) : Same F (upd H p o) :=
  ⟨fun b u e nt => by rw [upd_ne (ne_of_none e hf)]; exact s.keep b u e nt, fun b ps e => by rw [upd_ne (ne_of_none e hf)]; exact s.tbls b ps e⟩
theorem tabs_put {a : Addr} {ws : List V} {o : HO} {P : Addr} (q : H a = some (.lst ws)) (t : LamX.TabS H P lamN) : LamX.TabS (upd H a o) P lamN := by
  obtain ⟨ps, h1, h2, h3⟩ := t
  refine ⟨ps, by rw [upd_ne (ne_of h1 q (fun z => by cases z))]; exact h1, h2, fun pos cv hc => ?_⟩
  obtain ⟨c, e1, e2⟩ := h3 pos cv hc
  refine ⟨c, e1, ?_⟩
  rw [upd_ne (ne_of e2 q (fun z => by unfold LamX.CodeO at z; cases z))]
  exact e2
/-- a list that was not there ahead is written -/
theorem Grow.put {a : Addr} {ws : List V} {o : HO} (g : Grow K F H) (n : F a = none) (q : H a = some (.lst ws)) : Grow K F (upd H a o) := ⟨g.toSame.out n, fun T m t => tabs_put q (g.tabs T m t)⟩
/-- tables stay tables, and tell as before -/
structure TB (K : Fg) (H H' : Hp) : Prop where
  tbls : ∀ b ps, H b = some (.tbl ps) → ∃ ps', H' b = some (.tbl ps')
  tabs : ∀ P, LamMk K P → LamX.TabS H P lamN → LamX.TabS H' P lamN
theorem TB.refl (H : Hp) : TB K H H := ⟨fun _ ps e => ⟨ps, e⟩, fun _ _ t => t⟩
theorem TB.trans {A B C : Hp} (a : TB K A B) (b : TB K B C) : TB K A C := ⟨fun c ps h => (a.tbls c ps h).elim fun ps' h' => b.tbls c ps' h', fun T m t => b.tabs T m (a.tabs T m t)⟩
theorem Grow.tb (g : Grow K F H) : TB K F H := ⟨g.tbls, g.tabs⟩
theorem TB.ins {a C dx : Addr} {fs : List (PySem.Str × V)} {o : HO} (q : H a = some (.ins C dx fs)) : TB K H (upd H a o) :=
  ⟨fun b ps e => ⟨ps, by rw [upd_ne (ne_of e q (fun z => by cases z))]; exact e⟩, fun T _ t => by
    obtain ⟨ps, h1, h2, h3⟩ := t
    refine ⟨ps, by rw [upd_ne (ne_of h1 q (fun z => by cases z))]; exact h1, h2, fun pos cv hc => ?_⟩
    obtain ⟨c, e1, e2⟩ := h3 pos cv hc
    refine ⟨c, e1, ?_⟩
    rw [upd_ne (ne_of e2 q (fun z => by unfold LamX.CodeO at z; cases z))]
    exact e2⟩
theorem TB.put {a : Addr} {ws : List V} {o : HO} (q : H a = some (.lst ws)) : TB K H (upd H a o) :=
  ⟨fun b ps e => ⟨ps, by rw [upd_ne (ne_of e q (fun z => by cases z))]; exact e⟩, fun T _ t => tabs_put q t⟩
/-- the frozen part grows by a list that stands -/
theorem Wf.grow (w : Wf K F H σ ρ α) {a : Addr} {xs : List V} (hf : F a = none) (q : H a = some (.lst xs)) (hn : ∀ i x, getS ρ i = .own x → α i ≠ a) : Wf K (upd F a (.lst xs)) H σ ρ α := by
  have s : Same F (upd F a (.lst xs)) := same_upd hf
  refine ⟨w.sub.known q, w.gt, w.len, fun i => ?_, w.inj⟩
  · have k := w.slot i
    cases e : getS ρ i with
    | no => trivial
    | dat x =>
      rw [e] at k
      obtain ⟨v, k1, k2⟩ := k
      exact ⟨v, k1, k2.mono s⟩
    | own x =>
      rw [e] at k
      obtain ⟨k1, k2, k3⟩ := k
      exact ⟨k1, by rw [upd_ne (hn i x e)]; exact k2, k3.mono s rfl⟩
/-- a name's place is told anew: data -/
theorem Wf.setDat (w : Wf K F H σ ρ α) {i : Nat} {x : D} {v : V} (hσ : σ[i]? = some (some v)) (r : Rep K F v x) : Wf K F H σ (setS ρ i (.dat x)) α := by
  refine ⟨w.sub, w.gt, by rw [setS_length]; exact w.len, fun j => ?_, fun j k y z e1 e2 => ?_⟩
  · rw [getS_setS]
    split
    · rename_i h
      rw [← h.1]
      exact ⟨v, hσ, r⟩
    · exact w.slot j
  · rw [getS_setS] at e1 e2
    split at e1
    · cases e1
    · split at e2
      · cases e2
      · exact w.inj j k y z e1 e2
theorem own_setS {i j : Nat} {x y : D} (h : getS (setS ρ i (.dat x)) j = .own y) : getS ρ j = .own y := by
  rw [getS_setS] at h
  split at h
  · cases h
  · exact h
/-- a value is frozen: what it brings -/
structure Fz (K : Fg) (H₀ H : Hp) (σ : St) (ρ ρ' : List Sl) (α : Nat → Addr) (F F' : Hp) (u : V) (v : Vl) : Prop where
  wf : Wf K F' H σ ρ' α
  rep : Rep K F' u v.rd
  sub : Same F F'
  new : ∀ a o, F' a = some o → F a = some o ∨ (H₀ a = none ∧ u = .ref a ∧ ∃ x, v = .tmp x) ∨ ∃ i x, getS ρ i = .own x ∧ a = α i
  back : ∀ i x, getS ρ' i = .own x → getS ρ i = .own x
  keep : ∀ i x, getS ρ i = .own x → getS ρ' i = .own x ∨ (Rep K F' (.ref (α i)) x ∧ ∀ y, getS ρ' i ≠ .own y)
theorem freeze (w : Wf K F H σ ρ α) (hc : ∀ i x, getS ρ i = .own x → ∃ o, H₀ (α i) = some o) (h : VOk K H₀ F H σ ρ α u v) (s : Sto) : ∃ F', Fz K H₀ H σ ρ (frz v ⟨ρ, s⟩).env α F F' u v := by
  cases v with
  | d x => exact ⟨F, w, h, Same.refl _, fun _ _ h => .inl h, fun _ _ h => h, fun _ _ h => .inl h⟩
  | tmp x =>
    obtain ⟨a, e, h0, hf, ho⟩ := h
    obtain ⟨xs, vs, ex, q, r⟩ := ho.ls
    have s : Same F (upd F a (.lst vs)) := same_upd hf
    refine ⟨upd F a (.lst vs), w.grow hf q fun i x z e => ?_, ?_, s, fun b o z => ?_, fun _ _ h => h, fun _ _ h => .inl h⟩
    · obtain ⟨o, z⟩ := hc i x z
      rw [e, h0] at z; cases z
    · rw [e]; exact ho.rep s (by rw [upd_same, q])
    · by_cases hb : b = a
      · subst hb; exact .inr (.inl ⟨h0, e, x, rfl⟩)
      · rw [upd_ne hb] at z; exact .inl z
  | bor i x =>
    obtain ⟨e, hσ, h⟩ := h
    show ∃ F', Fz K H₀ H σ ρ (setS ρ i (.dat x)) α F F' u (.bor i x)
    rcases h with h | h
    · obtain ⟨_, hf, ho⟩ := w.cell h
      obtain ⟨xs, vs, ex, q, r⟩ := ho.ls
      have s : Same F (upd F (α i) (.lst vs)) := same_upd hf
      have rp : Rep K (upd F (α i) (.lst vs)) u x := by rw [e]; exact ho.rep s (by rw [upd_same, q])
      have w1 : Wf K F H σ (setS ρ i .no) α := by
        refine ⟨w.sub, w.gt, by rw [setS_length]; exact w.len, fun j => ?_, fun j k y z e1 e2 => ?_⟩
        · rw [getS_setS]
          split
          · trivial
          · exact w.slot j
        · rw [getS_setS] at e1 e2
          split at e1
          · cases e1
          · split at e2
            · cases e2
            · exact w.inj j k y z e1 e2
      have hlt : i < ρ.length := by
        rcases Nat.lt_or_ge i ρ.length with z | z
        · exact z
        · rw [getS_out _ _ z] at h; cases h
      have w2 := w1.grow hf q (fun j y z ej => by
        rw [getS_setS] at z
        split at z
        · cases z
        · rename_i hn
          exact hn ⟨w.inj i j x y h z ej.symm, hlt⟩)
      have w3 := w2.setDat hσ rp
      have e3 : setS (setS ρ i .no) i (.dat x) = setS ρ i (.dat x) := setS_setS ρ i _ _
      rw [e3] at w3
      refine ⟨_, w3, rp, s, fun b o z => ?_, fun j y z => own_setS z, fun j y z => ?_⟩
      · by_cases hb : b = α i
        · subst hb; exact .inr (.inr ⟨i, x, h, rfl⟩)
        · rw [upd_ne hb] at z; exact .inl z
      · rw [getS_setS]
        split
        · rename_i hij
          have ej : j = i := hij.1.symm
          subst ej
          rw [h] at z; cases z
          exact .inr ⟨e ▸ rp, fun y q => by cases q⟩
        · exact .inl z
    · obtain ⟨h, hno⟩ := h
      refine ⟨F, w.setDat hσ h, h, Same.refl _, fun _ _ h => .inl h, fun j y z => own_setS z, fun j y z => ?_⟩
      rw [getS_setS]
      split
      · rename_i hij
        have ej : j = i := hij.1.symm
        subst ej
        exact absurd z (hno y)
      · exact .inl z
/-- several values -/
def tmpsOf : List V → List Vl → List V
  | u :: us, .tmp _ :: vs => u :: tmpsOf us vs
  | _ :: us, _ :: vs => tmpsOf us vs
  | _, _ => []
def VsOk (K : Fg) (H₀ F H : Hp) (σ : St) (ρ : List Sl) (α : Nat → Addr) : List V → List Vl → Prop
  | [], [] => True
  | u :: us, v :: vs => VOk K H₀ F H σ ρ α u v ∧ VsOk K H₀ F H σ ρ α us vs ∧ ∀ x, v = .tmp x → u ∉ tmpsOf us vs
  | _, _ => False
theorem VsOk.step (w : Wf K F H σ ρ α) (hs : Same H₀ H) (hc : ∀ i x, getS ρ i = .own x → ∃ o, H₀ (α i) = some o) (t : Tr K ρ ρ' α F H F' H') :
    ∀ {us : List V} {vs : List Vl}, VsOk K H₀ F H σ ρ α us vs → VsOk K H₀ F' H' σ ρ' α us vs
  | [], [], _ => trivial
  | _ :: _, _ :: _, ⟨a, b, c⟩ => ⟨a.step w hs hc t, VsOk.step w hs hc t b, c⟩
theorem VsOk.length : ∀ {us : List V} {vs : List Vl}, VsOk K H₀ F H σ ρ α us vs → us.length = vs.length
  | [], [], _ => rfl
  | _ :: _, _ :: _, ⟨_, b, _⟩ => by simp [VsOk.length b]
/-- a value at hand stays when another one is frozen -/
theorem VOk.frozen {u1 : V} {v1 : Vl} (hc : ∀ i x, getS ρ i = .own x → ∃ o, H₀ (α i) = some o) (z : Fz K H₀ H σ ρ ρ' α F F' u1 v1) (h : VOk K H₀ F H σ ρ α u v)
    (hn : ∀ x y, v = .tmp x → v1 = .tmp y → u ≠ u1) : VOk K H₀ F' H σ ρ' α u v := by
  cases v with
  | d x => exact Rep.mono z.sub h
  | tmp x =>
    obtain ⟨a, e, h0, hf, ho⟩ := h
    refine ⟨a, e, h0, ?_, ho.mono z.sub rfl⟩
    cases q : F' a with
    | none => rfl
    | some p =>
      rcases z.new a p q with y | ⟨_, y, y2, y3⟩ | ⟨i, x, y, e2⟩
      · rw [hf] at y; cases y
      · exact absurd (e.trans y.symm) (hn x y2 rfl y3)
      · obtain ⟨p, hp⟩ := hc i x y
        rw [← e2, h0] at hp; cases hp
  | bor i x =>
    obtain ⟨e, hσ, h⟩ := h
    refine ⟨e, hσ, ?_⟩
    rcases h with h | h
    · rcases z.keep i x h with q | q
      · exact .inl q
      · exact .inr ⟨e ▸ q.1, q.2⟩
    · exact .inr ⟨h.1.mono z.sub, fun y q => h.2 y (z.back i y q)⟩
theorem VsOk.frozen {u1 : V} {v1 : Vl} (hc : ∀ i x, getS ρ i = .own x → ∃ o, H₀ (α i) = some o) (z : Fz K H₀ H σ ρ ρ' α F F' u1 v1) :
    ∀ {us : List V} {vs : List Vl}, VsOk K H₀ F H σ ρ α us vs → (∀ x, v1 = .tmp x → u1 ∉ tmpsOf us vs) → VsOk K H₀ F' H σ ρ' α us vs
  | [], [], _, _ => trivial
  | u :: us, v :: vs, ⟨a, b, c⟩, hn => by
    refine ⟨a.frozen hc z fun x y e1 e2 e3 => ?_, VsOk.frozen hc z b fun x e q => hn x e ?_, c⟩
    · subst e1
      exact hn y e2 (by rw [e3]; exact List.mem_cons_self)
    · cases v <;> first | exact List.mem_cons_of_mem _ q | exact q
/-- all are frozen -/
structure Fzs (K : Fg) (H₀ H : Hp) (σ : St) (ρ ρ' : List Sl) (α : Nat → Addr) (F F' : Hp) (us : List V) (vs : List Vl) : Prop where
  wf : Wf K F' H σ ρ' α
  rep : Reps K F' us (vs.map Vl.rd)
  sub : Same F F'
  new : ∀ a o, F' a = some o → F a = some o ∨ H₀ a = none ∨ ∃ i x, getS ρ i = .own x ∧ a = α i
  back : ∀ i x, getS ρ' i = .own x → getS ρ i = .own x
  keep : ∀ i x, getS ρ i = .own x → getS ρ' i = .own x ∨ (Rep K F' (.ref (α i)) x ∧ ∀ y, getS ρ' i ≠ .own y)
theorem freezes (s : Sto) : ∀ {us : List V} {vs : List Vl} {ρ : List Sl} {F : Hp}, Wf K F H σ ρ α → (∀ i x, getS ρ i = .own x → ∃ o, H₀ (α i) = some o) → VsOk K H₀ F H σ ρ α us vs →
    ∃ F', Fzs K H₀ H σ ρ (frzs vs ⟨ρ, s⟩).env α F F' us vs
  | [], [], ρ, F, w, hc, _ => ⟨F, w, .nil, Same.refl _, fun _ _ h => .inl h, fun _ _ h => h, fun _ _ h => .inl h⟩
  | u :: us, v :: vs, ρ, F, w, hc, ⟨h1, h2, h3⟩ => by
    obtain ⟨F1, z⟩ := freeze w hc h1 s
    have ec : frz v ⟨ρ, s⟩ = ⟨(frz v ⟨ρ, s⟩).env, s⟩ := by cases v <;> rfl
    obtain ⟨F2, y⟩ := freezes s (us := us) (vs := vs) (ρ := (frz v ⟨ρ, s⟩).env) (F := F1) z.wf (fun i x q => hc i x (z.back i x q)) (h2.frozen hc z h3)
    rw [← ec] at y
    refine ⟨F2, y.wf, .cons (z.rep.mono y.sub) y.rep, z.sub.trans y.sub, fun a o q => ?_, fun i x q => z.back i x (y.back i x q), fun i x q => ?_⟩
    · rcases y.new a o q with q | q | ⟨i, x, q, e⟩
      · rcases z.new a o q with q | q | q
        · exact .inl q
        · exact .inr (.inl q.1)
        · exact .inr (.inr q)
      · exact .inr (.inl q)
      · exact .inr (.inr ⟨i, x, z.back i x q, e⟩)
    · rcases z.keep i x q with q | q
      · exact y.keep i x q
      · exact .inr ⟨q.1.mono y.sub, fun b p => q.2 b (y.back i b p)⟩
end
end Ev
end
section
set_option maxRecDepth 100000
set_option maxHeartbeats 4000000
/-! Xs1: an own exception over ValueError whose __init__ says super().__init__(f"..{x}") and self.x = x. -/
namespace Ev
open PySem PySem.W PySem.Calls PyProof.Rows PySem.HandSPX

/-- texts and numbers that an f-string takes -/
def FmtOk : Value → Prop
  | .str y _ => y.length ≤ 1000
  | .int i _ => i.natAbs.log2 < 1920
  | _ => False
/-- the body of such an __init__ -/
def sxBody (sup ini self f y : PySem.Str) (c : Const) (k : Nat) (p : List Pos) : List Stmt :=
  let q (n : Nat) : Pos := p.getD n default
  [.Expr (.Call (.Attribute (.Call (.Name sup (q 0)) [] [] (q 1)) ini (q 2)) [.JoinedStr [.Constant c k (q 3), .FormattedValue (.Name y (q 4)) (-1) none (q 5)] (q 6)] [] (q 7)) (q 8),
   .Assign [.Attribute (.Name self (q 9)) f (q 10)] (.Name y (q 11)) (q 12)]

section
variable {prog : Program} {w : World} {A : Around} {s : Shared} {K : Frag} {base h₀ : Heap} {L x C D f cc cda so : Addr} {m mg : PySem.Str → Option Value} {news : List (Addr × Obj)} {ox : Obj} {odx : Option Obj} {E : Value → Shared → Prop}
/-- super(), by the module's facts alone -/
theorem sx_node {body : List Stmt} {q : PySem.Str} {scope : Scope} {p0 p1 : Pos} {attr : PySem.Str} {whole : Sem Value} {fd : FuncData} {ar : Arg} {vs : Array Value} {file : PySem.Str} {tf : Tok} {oc ccl cl : Value} {od cdd cld : Option Addr} {osl ccs csl : Array (Option Value)} {cdD : ClassData} {Q : Value → Shared → Prop}
    (md : L2.Mod K mg h₀) (F : Fr h₀ L s.heap m) (N : News h₀ L s.heap news)
    (hf : K.lookup f = some ⟨oc, od, .func fd, osl⟩) (hp : (fd.params.posonlyargs ++ fd.params.args).head? = some ar) (hv : m ar.arg = some (.ref x)) (I : InstAt s.heap x ox C odx)
    (hcode : K.lookup cda = some ⟨ccl, cdd, .fields vs, ccs⟩) (hvs : vs[2]? = some (.str file tf)) (hfile : ((prog.main.file : PySem.Str) == file) = true)
    (hcell : K.lookup cc = some ⟨cl, cld, .cell (some (.ref D)), csl⟩) (hD : clsIn K D = some cdD) (hsub : mroIn K C (.ref D) = some true) (hsuper : mg "super" = none)
    (hat : (attr == ("__class__" : PySem.Str)) = false) (hks : scope.names.lookup ("super" : PySem.Str) = some .globalImplicit) (hkc : scope.names.lookup ("__class__" : PySem.Str) = some .free) (hka : scope.names.lookup ar.arg = some .local) (hk : scope.kind = .function)
    (htop : (prog.main.scope.names.lookup ("super" : PySem.Str)).isSome = false) (hboot : bootBuiltins "super" = some (.type "super"))
    (h : ∀ so h', Fr h₀ L h' m → News h₀ L h' ((so, ks_superObj D x C) :: news) → (∀ p ∈ news, p.1 < so) → Q (.ref so) { s with heap := h' }) :
    _root_.PySem.wpAt (model prog w) A (.func body (ksEnv q scope L f (.ref cda) cc)) (attributeBase (.Call (.Name "super" p0) [] [] p1) attr (ksEnv q scope L f (.ref cda) cc) whole) Q E s := by
  have X : K.In s.heap := md.kin.keeps F.keep
  obtain ⟨mb, gb, hb⟩ := md.blt
  obtain ⟨hh, g, d, t, os⟩ := s
  obtain ⟨oD, hD1, hD2⟩ : ∃ oD, hh.get? D = some oD ∧ oD.data = .cls cdD := by
    unfold clsIn at hD
    split at hD
    · rename_i c d cd' sl ho
      cases hD
      exact ⟨_, X _ _ ho, rfl⟩
    · cases hD
  refine ks_wpAt_super_base (env := ksEnv q scope L f (.ref cda) cc) hks hkc hat rfl (X _ _ hf) rfl hp rfl (X _ _ hcode) rfl hvs hfile htop ?_
  refine ks_loadName_global hk hks (loadGlobal_builtin (env := ksEnv q scope L f (.ref cda) cc) (md.glob.keeps F.keep) hsuper (gb.keeps F.keep) ((hb _ (by decide +kernel)).trans hboot) ⟨rfl, ?_⟩)
  refine wpAny_loadName_free hk hkc rfl ⟨_, X _ _ hcell, rfl⟩ ?_
  refine wpAny_loadName_local hk hka F.ns hv ?_
  refine ks_wpAny_isType_cls hD1 hD2 ⟨rfl, ?_⟩
  refine ks_wpAny_call_super hD1 hD2 I.at_ I.cls (fun c e => ?_) (looks_mroIn X hsub) (fun h' e k => ?_)
  · have := I.no
    unfold notCls at this
    rw [e] at this
    exact Bool.noConfusion this
  · obtain ⟨F', N', l'⟩ := ks_newsPush (s := ⟨hh, g, d, t, os⟩) F N rfl e k
    exact h _ _ F' N' l'
/-- f"..{y}" -/
theorem sx_fstr {env : Env} {c : Const} {k : Nat} {y : PySem.Str} {p3 p4 p5 p6 : Pos} {u : Value} {lit : PySem.Str} {Q : Value → Shared → Prop} (hc : c = Const.str lit) (hl : lit.length ≤ 1000) (hu : FmtOk u) (hn : s.heap.Ns env.locals m) (hy : m y = some u) (hkk : env.scope.kind = .function) (hyl : env.kindOf y = some .local) (hd : (y == ("__debug__" : PySem.Str)) = false)
    (h : ∀ out t t', Q (.str out t) { s with toks := t' }) : wpAny (model prog w) A (eval (.JoinedStr [.Constant c k p3, .FormattedValue (.Name y p4) (-1) none p5] p6) env) Q E s := by
  subst hc
  refine wpAny_JoinedStr ?_
  have e0 : evalEach [.Constant (Const.str lit) k p3, .FormattedValue (.Name y p4) (-1) none p5] env = [eval (.Constant (Const.str lit) k p3) env, eval (.FormattedValue (.Name y p4) (-1) none p5) env] := by first | rfl | simp [evalEach]
  rw [e0]
  show wpAny _ _ (eval (.Constant (Const.str lit) k p3) env) _ _ _
  have e1 : (PySem.Str.empty ++ lit).length = lit.length := by rw [strLen_append]; exact Nat.zero_add _
  have zz := sizeLine_eq
  refine wpAny_Constant_str ⟨lit, _, rfl, by rw [e1]; omega, ?_⟩
  show wpAny _ _ (eval (.FormattedValue (.Name y p4) (-1) none p5) env) _ _ _
  refine wpAny_FormattedValue_plain (ESX.ldL (m := m) hn hy ?_ hkk hyl hd)
  have fin : ∀ (out : PySem.Str) (t t' : Tok), out.length ≤ 3000 → (fun v s₁ => ∃ z t, v = Value.str z t ∧ (PySem.Str.empty ++ lit ++ z).length ≤ sizeLine ∧ Joins (model prog w) A E [] (PySem.Str.empty ++ lit ++ z) (fun out s₁ => out.length ≤ sizeLine ∧ Q (.str out s₁.toks) { s₁ with toks := s₁.toks + 1 }) s₁) (Value.str out t) { s with toks := t' } := fun out t t' ho => by
    have e2 : (PySem.Str.empty ++ lit ++ out).length ≤ sizeLine := by rw [strLen_append, e1]; omega
    exact ⟨out, t, rfl, e2, e2, h _ _ _⟩
  cases u with
  | str z t =>
    have hz : z.length ≤ 1000 := hu
    exact wpAny_formatField_str (fin z _ _ (by omega)) (fin z _ _ (by omega)) (by omega)
  | int i t =>
    have hz : i.natAbs.log2 < 1920 := hu
    have e3 := int_text_length_le (k := 1920) (by decide) hz
    have e4 : (PySem.Str.ofString (toString i)).length = (toString i).length := PySem.ofString_length _
    exact wpAny_formatField_int hz (fin _ _ _ (by rw [e4]; omega))
  | _ => exact False.elim hu
/-- the whole __init__ -/
theorem sx_init {q name qual : PySem.Str} {params : Arguments} {scope : Scope} {dV kV doc pm ct oc : Value} {an od : Option Addr} {osl : Array (Option Value)} {self y : PySem.Str} {c : Const} {k : Nat} {p : List Pos} {fld lit : PySem.Str} {ar : Arg}
    {vs : Array Value} {file : PySem.Str} {tf : Tok} {ccl cl : Value} {cdd cld : Option Addr} {ccs csl : Array (Option Value)} {cdD : ClassData} {u : Value} {t0 : Addr} {R : Result → Shared → Prop}
    (md : L2.Mod K mg base) (kb : ∀ b o, base.get? b = some o → s.heap.get? b = some o) (nb : base.get? x = none) (hx : s.heap.get? x = some (excObj C t0 none .none)) (hroom : A.depth < recursionLimit) (hu : FmtOk u)
    (T : L2.OexC K C) (hf : K.lookup f = some ⟨oc, od, .func (ksFn name qual params (sxBody "super" "__init__" self fld y c k p) scope dV kV doc pm an (.ref cda) ct cc), osl⟩) (hcd : codeIn K (.ref cda) qual = true) (hco : scope.isCoroutine = false) (hge : scope.isGenerator = false) (hk : scope.kind = .function)
    (hcl : ∀ x ∈ scope.names, x.2 ≠ .cell) (hbind : BindsTo s (ksFn name qual params (sxBody "super" "__init__" self fld y c k p) scope dV kV doc pm an (.ref cda) ct cc) ⟨[.ref x, u], []⟩ [(self, .ref x), (y, u)])
    (hp : (params.posonlyargs ++ params.args).head? = some ar) (har : ar.arg = self) (hsy : (y == self) = false)
    (hcode : K.lookup cda = some ⟨ccl, cdd, .fields vs, ccs⟩) (hvs : vs[2]? = some (.str file tf)) (hfile : ((prog.main.file : PySem.Str) == file) = true)
    (hcell : K.lookup cc = some ⟨cl, cld, .cell (some (.ref C)), csl⟩) (hD : clsIn K C = some cdD) (hsub : mroIn K C (.ref C) = some true) (hsuper : mg "super" = none)
    (hks : scope.names.lookup ("super" : PySem.Str) = some .globalImplicit) (hkc : scope.names.lookup ("__class__" : PySem.Str) = some .free) (hka : scope.names.lookup self = some .local) (hky : scope.names.lookup y = some .local)
    (htop : (prog.main.scope.names.lookup ("super" : PySem.Str)).isSome = false) (hds : (self == ("__debug__" : PySem.Str)) = false) (hdy : (y == ("__debug__" : PySem.Str)) = false) (hc : c = Const.str lit) (hlit : lit.length ≤ 1000)
    (ho : nsIn K cStatics "thirdparty.any" = some none) (hm : ks_superIn K C C "__init__" = some (some (.builtin "ValueError.__init__"))) (hB : subIn K (.ref C) (.type "ValueError") = some true)
    (q' : excInitIn K C HandSPX.veTail "ValueError.__new__" = true) (hno : findIn K (.ref C) fld = some none) (hline : ((p.getD 2 default).endLine == (p.getD 7 default).line) = true)
    (h : ∀ h' t' dx t1, (∀ b o, b ≠ x → s.heap.get? b = some o → h'.get? b = some o) → s.heap.objs.size ≤ dx → dx ≠ x → h'.get? x = some (excObj C t1 (some dx) .none) → h'.Ns1 dx (fun z => if z = fld then some u else none) → R (.ok (.ret .none)) { s with heap := h', toks := t' }) :
    codeAny (model prog w) A (.call (.ref f) ⟨[.ref x, u], []⟩) R s := by
  refine ks_codeAny_call_defAt (fd := ksFn name qual params (sxBody "super" "__init__" self fld y c k p) scope dV kV doc pm an (.ref cda) ct cc) (body := sxBody "super" "__init__" self fld y c k p) (binds := [(self, .ref x), (y, u)]) hroom (kb _ _ (md.kin _ _ hf)) rfl (md.nolimit.keeps kb) (codeRec_of (md.kin.keeps kb) hcd) rfl hbind hcl ?_ (fun h₁ hns hk₁ => ?_) hco hge hk
  · intro z hz
    rcases List.mem_cons.mp hz with rfl | hz
    · exact hka
    rcases List.mem_cons.mp hz with rfl | hz
    · exact hky
    · cases hz
  have stay : ∀ b o, base.get? b = some o → (hideAll s.heap [x]).get? b = some o := fun b o e => hideAll_get _ (kb b o e) fun hm => by
    rw [List.mem_singleton.mp hm, nb] at e; cases e
  have md₀ : L2.Mod K mg (hideAll s.heap [x]) := ⟨md.kin.keeps stay, md.glob.keeps stay, (let ⟨mb, a, b⟩ := md.blt; ⟨mb, a.keeps stay, b⟩), md.nolimit.keeps stay⟩
  have FR : Fr (hideAll s.heap [x]) s.heap.objs.size h₁ (fun z => List.lookup z [(self, Value.ref x), (y, u)].reverse) := ⟨hns, fun b o e => hk₁ b o (of_hideAll _ e), Nat.le_of_eq (hideAll_size _ _)⟩
  have N : News (hideAll s.heap [x]) s.heap.objs.size h₁ [(x, excObj C t0 none .none)] := fun z hz => by
    obtain rfl := List.mem_singleton.mp hz
    exact ⟨hk₁ _ _ hx, Nat.ne_of_lt (Heap.lt_size hx), hideAll_none _ (List.mem_singleton.mpr rfl)⟩
  have es : List.lookup self [(self, Value.ref x), (y, u)].reverse = some (.ref x) := by
    have : (self == y) = false := by rw [BEq.comm]; exact hsy
    simp [List.lookup, this]
  have ey : List.lookup y [(self, Value.ref x), (y, u)].reverse = some u := by simp [List.lookup]
  generalize hM : (fun z => List.lookup z [(self, Value.ref x), (y, u)].reverse) = mm at FR hns
  have es' : mm self = some (.ref x) := by rw [← hM]; exact es
  have ey' : mm y = some u := by rw [← hM]; exact ey
  show _root_.PySem.wpAt (model prog w) _ (.func (sxBody "super" "__init__" self fld y c k p) (ksEnv qual scope s.heap.objs.size f (.ref cda) cc)) (execs (sxBody "super" "__init__" self fld y c k p) (ksEnv qual scope s.heap.objs.size f (.ref cda) cc)) _ _ _
  have heq : ∀ (o ef : Expr) (apos pos : Pos), (apos.endLine == pos.line) = true → (∀ a b, ef ≠ .Starred a b) → (∃ vs q, ef = .JoinedStr vs q) → eval (.Call (.Attribute o "__init__" apos) [ef] [] pos) (ksEnv qual scope s.heap.objs.size f (.ref cda) cc) = (do
      let ov ← attributeBase o "__init__" (ksEnv qual scope s.heap.objs.size f (.ref cda) cc) (eval o (ksEnv qual scope s.heap.objs.size f (.ref cda) cc))
      standAt apos.atName
      let (f2, first) ← holding [ov] (getMethod ov "__init__" (do return (← importBound o (ksEnv qual scope s.heap.objs.size f (.ref cda) cc)).getD true))
      callWith pos f2 first (backTo pos (starEach [ef] (ksEnv qual scope s.heap.objs.size f (.ref cda) cc))) []) := fun o ef apos pos hl _ ⟨vs, q, e⟩ => by
    subst e
    rw [arm_eval_Call]
    have few : methodCallForm ([Expr.JoinedStr vs q].length + ([] : List Keyword).length) (backTo pos (starEach [.JoinedStr vs q] (ksEnv qual scope s.heap.objs.size f (.ref cda) cc))) (backToKw pos (keywordEach [] (ksEnv qual scope s.heap.objs.size f (.ref cda) cc))) = true := rfl
    unfold methodCall methodCallPos calleeOf
    rw [few, hl]
    simp only [Bool.not_true, Bool.false_or, if_true, pure_bind]
    rfl
  refine ks_wpAt_execs_cons (ks_wpAt_Expr_any (ks_wpAt_MethodCall ?_ (heq _ _ _ _ hline (fun _ _ z => by cases z) ⟨_, _, rfl⟩)) (by simp [interactive, ksEnv, envX, hk]) rfl)
  refine sx_node (cdD := cdD) md₀ FR N hf (by rw [show (ksFn name qual params (sxBody "super" "__init__" self fld y c k p) scope dV kV doc pm an (.ref cda) ct cc).params = params from rfl]; exact hp) (by rw [har]; exact es') (InstAt.of_exc0 N (List.mem_singleton.mpr rfl)) hcode hvs hfile hcell hD hsub hsuper (by decide +kernel) hks hkc (by rw [har]; exact hka) hk htop (by first | boot_by_name | rfl | kernel_rfl) ?_
  intro so h2 F2 N2 lt2
  refine kxs_method kxs_ValueError F2 md₀.kin N2 (List.mem_cons_self ..) (InstAt.of_exc0 N2 (List.mem_cons_of_mem _ (List.mem_singleton.mpr rfl))) ho hm hB (by decide +kernel) ?_
  intro mw h3 F3 N3 lt3
  refine kxs_callWith1 (i := "ValueError.__init__") (x := x) N3 (List.mem_cons_self ..) ?_
  refine spliced_more (sx_fstr hc hlit hu F3.ns ey' hk hky hdy fun out t t' => spliced_none ⟨kxs_at N3 (List.mem_cons_self ..), ?_⟩)
  refine kxs_call (t := t0) (dv := none) (c2 := .none) F3 md₀.kin N3 F.excBase_ValueError q' (List.mem_cons_self ..) (UpdF.tail ?_ (UpdF.tail ?_ (UpdF.head (fun _ h => nomatch h)))) (by rw [sizeLine_eq]; exact (by decide : 1 ≤ 16777216)) ?_
  · exact fun z => absurd (lt3 (x, excObj C t0 none .none) (List.mem_cons_of_mem _ (List.mem_singleton.mpr rfl))) (by rw [show mw = x from z]; exact Nat.lt_irrefl _)
  · exact fun z => absurd (lt2 (x, excObj C t0 none .none) (List.mem_singleton.mpr rfl)) (by rw [show so = x from z]; exact Nat.lt_irrefl _)
  intro t1 h4 F4 N4 lt4
  show _root_.PySem.wpAt _ _ _ (execs [_] _) _ _ _
  have hx4 : h4.get? x = some (excObj C t1 none .none) := (N4 (x, excObj C t1 none .none) (by simp)).1
  obtain ⟨nm, qq, NN, bs, bm, sn, sub, ab, col, dd, k0, k1, k2, k3, k5, hC, hbm⟩ := T.cls
  have hcl : clsIn K C = some { name := nm, bases := bs, mro := .ref C :: bm, ns := NN, qualname := qq, hasDict := true, slotNames := sn, subclasses := sub, abstract := ab, collection := col, hasDel := false } := by unfold clsIn; rw [hC] <;> rfl
  have K4 : K.In h4 := md₀.kin.keeps F4.keep
  refine wpAt_of_wpAny (wpAny_execs_cons (plainObj_wpAny_Assign_Attribute (ESX.ldL F4.ns ey' (ESX.ldL F4.ns es' ?_ hk hka hds) hk hky hdy) rfl))
  refine set_plain K4 (ox := excObj C t1 none .none) (od := none) ⟨hx4, rfl, rfl, trivial⟩ T.sa ?_
  refine PySem.HandSPX.exc_osa K4 hx4 hcl (show PySem.HandSPX.refsVE (.ref C :: bm) = true from hbm) rfl hno (fun h' tk' dx kk dn dne hx' hn => ?_)
  refine wpAny_execs_nil ?_
  refine h h' tk' dx t1 (fun b o hb e => kk b o hb (F4.keep b o (hideAll_get _ e fun hm => hb (List.mem_singleton.mp hm)))) ?_ dne hx' hn
  obtain ⟨oL, _, _, hL, _⟩ := F4.ns
  exact Nat.le_trans (Nat.le_of_lt (Heap.lt_size hL)) dn
end
end Ev
end
section
set_option maxRecDepth 100000
set_option maxHeartbeats 4000000
/-! Xs2: such an exception is made. -/
namespace Ev
open PySem PySem.W PySem.Calls PyProof.Rows PySem.HandSPX
open L2 (Cx PE PMk MkP Inv Vals RelV Gl Room PA thn upd Names)

def sxChk (self fld y : PySem.Str) : List Stmt → Bool
  | [.Expr (.Call (.Attribute (.Call (.Name sup _) [] [] _) ini p2) [.JoinedStr [.Constant (.str lit) _ _, .FormattedValue (.Name y1 _) n none _] _] [] p7) _, .Assign [.Attribute (.Name self1 _) f1 _] (.Name y2 _) _] =>
      sup == ("super" : PySem.Str) && ini == ("__init__" : PySem.Str) && y1 == y && y2 == y && self1 == self && f1 == fld && n == (-1 : Int) && decide (lit.length ≤ 1000) && p2.endLine == p7.line
  | _ => false
theorem sxChk_form {self fld y : PySem.Str} {b : List Stmt} (h : sxChk self fld y b = true) : ∃ (lit : PySem.Str) (k : Nat) (p : List Pos), b = sxBody "super" "__init__" self fld y (.str lit) k p ∧ lit.length ≤ 1000 ∧ ((p.getD 2 default).endLine == (p.getD 7 default).line) = true := by
  unfold sxChk at h
  split at h
  · rename_i sup p0 p1 ini p2 lit k p3 y1 p4 n p5 p6 p7 p8 self1 p9 f1 p10 y2 p11 p12
    simp only [Bool.and_eq_true, beq_iff_eq, decide_eq_true_eq] at h
    obtain ⟨⟨⟨⟨⟨⟨⟨⟨rfl, rfl⟩, rfl⟩, rfl⟩, rfl⟩, rfl⟩, rfl⟩, hl⟩, hp⟩ := h
    exact ⟨lit, k, [p0, p1, p2, p3, p4, p5, p6, p7, p8, p9, p10, p11, p12], rfl, hl, by simpa using hp⟩
  · cases h
/-- what the written part says of such a class -/
inductive SxC (prog : Program) (K : Frag) (C : Addr) (fld : PySem.Str) : Prop
  | mk {f cc cda : Addr} {qual : PySem.Str} {params : Arguments} {body : List Stmt} {scope : Scope} {dV kV doc pm ct oc : Value} {an od : Option Addr} {osl : Array (Option Value)} {self y : PySem.Str} {ar : Arg}
    {vs : Array Value} {file : PySem.Str} {tf : Tok} {ccl cl : Value} {cdd cld : Option Addr} {ccs csl : Array (Option Value)} {cdD : ClassData}
    (T : L2.OexC K C) (iC : findIn K (.ref C) "__init__" = some (some (.ref f))) (tI : typeIn K (.ref f) = some (.type "function"))
    (hf : K.lookup f = some ⟨oc, od, .func (ksFn "__init__" qual params body scope dV kV doc pm an (.ref cda) ct cc), osl⟩) (hcd : codeIn K (.ref cda) qual = true)
    (chk : sxChk self fld y body = true) (hco : scope.isCoroutine = false) (hge : scope.isGenerator = false) (hk : scope.kind = .function)
    (hcl : ∀ x ∈ scope.names, x.2 ≠ .cell) (hbind : ∀ (s : Shared) (a u : Value), BindsTo s (ksFn "__init__" qual params body scope dV kV doc pm an (.ref cda) ct cc) ⟨[a, u], []⟩ [(self, a), (y, u)])
    (hp : (params.posonlyargs ++ params.args).head? = some ar) (har : ar.arg = self) (hsy : (y == self) = false)
    (hcode : K.lookup cda = some ⟨ccl, cdd, .fields vs, ccs⟩) (hvs : vs[2]? = some (.str file tf)) (hfile : ((prog.main.file : PySem.Str) == file) = true)
    (hcell : K.lookup cc = some ⟨cl, cld, .cell (some (.ref C)), csl⟩) (hD : clsIn K C = some cdD) (hsub : mroIn K C (.ref C) = some true)
    (hks : scope.names.lookup ("super" : PySem.Str) = some .globalImplicit) (hkc : scope.names.lookup ("__class__" : PySem.Str) = some .free) (hka : scope.names.lookup self = some .local) (hky : scope.names.lookup y = some .local)
    (htop : (prog.main.scope.names.lookup ("super" : PySem.Str)).isSome = false) (hds : (self == ("__debug__" : PySem.Str)) = false) (hdy : (y == ("__debug__" : PySem.Str)) = false)
    (ho : nsIn K cStatics "thirdparty.any" = some none) (hm : ks_superIn K C C "__init__" = some (some (.builtin "ValueError.__init__"))) (hB : subIn K (.ref C) (.type "ValueError") = some true)
    (q' : excInitIn K C HandSPX.veTail "ValueError.__new__" = true) (hno : findIn K (.ref C) fld = some none) : SxC prog K C fld
/-- C(e): the exception's dict stands, its field in it -/
def tMkS (C : Addr) (fld : PySem.Str) (te : L2.TE) : L2.St → L2.Hp → L2.XK → Prop := fun σ H Q => te σ H fun v H1 => ((∃ y : PySem.Str, v = .str y ∧ y.length ≤ 1000) ∨ ∃ i : Int, v = .int i ∧ i.natAbs.log2 < 1920) ∧ ∀ d, H1 d = none → Q (.ref C) (some d) (upd H1 d (.xd [(fld, v)]))
theorem pmk_sx {X : Cx} {C : Addr} {fld x : PySem.Str} {e : Expr} {te : L2.TE} {p pos : Pos} {j : Nat} (S : SxC X.prog X.K C fld) (hr : Room (j + 1) X.A) (hg : Gl X x) (hm : X.mg x = some (.ref C)) (hs : X.mg "super" = none) (he : PE X e te)
    (hst : starEach [e] X.env = [(false, eval e X.env)]) (hdb : (x == ("__debug__" : PySem.Str)) = false) : PMk X (.Call (.Name x p) [e] [] pos) (tMkS C fld te) := by
  intro pins s σ H Q I h
  cases S with
  | @mk f cc cda qual params body scope dV kV doc pm ct oc an od osl self y ar vs file tf ccl cl cdd cld ccs csl cdD T iC tI hf hcd chk hco hge hk hcl hbind hp har hsy hcode hvs hfile hcell hD hsub hks hkc hka hky htop hds hdy ho hmm hB q' hno =>
  obtain ⟨lit, k, pp, rfl, hl, hline⟩ := sxChk_form chk
  obtain ⟨nm, q, N, bs, bm, sn, sub, ab, col, dd, k0, k1, k2, k3, k5, hC, hbm⟩ := T.cls
  refine wpAny_Call_Name_kw (L2.ld_glob I hg hm ?_ hdb)
  refine PySem.W.callWith_K (h₀ := X.base) I.ok.mod.kin T.kC ?_ (by rw [hst]; rfl) rfl
  refine spliced_more (thn (he.run pins s σ H _ I h) fun u s1 hh => spliced_none ?_) (by rw [hst]; rfl)
  obtain ⟨v, H1, I1, r1, hv, q1⟩ := hh
  refine ⟨I1.kIn, ?_⟩
  show wpAny _ _ (call (.ref C) [u]) _ _ _
  have hu : FmtOk u := by
    rcases hv with ⟨z, rfl, hz⟩ | ⟨i, rfl, hz⟩
    · obtain ⟨t, rfl⟩ := r1
      exact hz
    · obtain ⟨t, rfl⟩ := r1
      exact hz
  obtain ⟨hp1, g, dr, tk, os⟩ := s1
  have kk : ∀ b o, hp1.get? b = some o → ((hp1.push (PySem.W.kdv_tup [u])).push (PySem.HandSPX.excO C hp1.objs.size)).get? b = some o := fun b o e => Heap.get?_push_of_some _ (Heap.get?_push_of_some _ e)
  have hget : ((hp1.push (PySem.W.kdv_tup [u])).push (PySem.HandSPX.excO C hp1.objs.size)).get? (hp1.objs.size + 1) = some (PySem.HandSPX.excO C hp1.objs.size) := by heap_get
  have hnone : ∀ {b : Addr}, hp1.objs.size ≤ b → hp1.get? b = none := fun {b} hb => Heap.get?_none_of_le hb
  refine wpAny_call (PySem.HandSPX.call_own F.excBase_ValueError (fun Y => PySem.HandSPX.refsVE_contains Y bm hbm) (I1.kIn _ _ hC) (PySem.W.looks_findIn I1.kIn iC) (fun self => PySem.W.bind_fn I1.kIn self tI) (by rw [sizeLine_eq]; exact (by decide : 1 ≤ 16777216)) ?_)
  refine sx_init (x := hp1.objs.size + 1) (t0 := hp1.objs.size) (q := q) (lit := lit) I1.ok.mod (fun b o e => kk b o (I1.bk b o e)) ?_ hget (hr.make C [u] []).depth hu T hf hcd hco hge hk hcl (hbind _ _ _) hp har hsy hcode hvs hfile hcell hD hsub hs hks hkc hka hky htop hds hdy rfl hl ho hmm hB q' hno hline ?_
  · cases z : X.base.get? (hp1.objs.size + 1) with
    | none => rfl
    | some o =>
      have y := I1.bk _ _ z
      rw [hnone (Nat.le_succ _)] at y
      cases y
  intro h' t' dx t1 k1' hdx hne hx' hn
  have hsz2 : ((hp1.push (PySem.W.kdv_tup [u])).push (PySem.HandSPX.excO C hp1.objs.size)).objs.size = hp1.objs.size + 2 := by rw [Heap.size_push, Heap.size_push]
  have hdx' : hp1.objs.size ≤ dx := Nat.le_trans (Nat.le_add_right _ 2) (by rw [← hsz2]; exact hdx)
  obtain ⟨G, gk', ge'⟩ := L2.restrict h' fun b => decide (b ≠ hp1.objs.size + 1)
  have gk : ∀ b, b ≠ hp1.objs.size + 1 → G.get? b = h'.get? b := fun b hb => gk' b (decide_eq_true hb)
  have ge : G.get? (hp1.objs.size + 1) = none := ge' _ (by simp)
  have kG : ∀ b o, hp1.get? b = some o → G.get? b = some o := fun b o e => by
    have hb : b ≠ hp1.objs.size + 1 := Nat.ne_of_lt (Nat.lt_of_lt_of_le (Heap.lt_size e) (Nat.le_succ _))
    rw [gk b hb]
    exact k1' b o hb (kk b o e)
  have ok : L2.ObjOk X.prog X.w (upd H1 dx (.xd [(fld, v)])) G dx (.xd [(fld, v)]) := ⟨_, hn.at fun o y => (gk dx hne).trans y, L2.relO_put (mA := fun _ => none) r1 (fun _ => True.intro)⟩
  have J : Inv X pins σ (upd H1 dx (.xd [(fld, v)])) ⟨G, g, dr, t', os⟩ := I1.laid (t' := t') (a := dx) (o := .xd [(fld, v)]) (h' := G) kG hdx' ok
  have hna : H1 (hp1.objs.size + 1) = none := I1.hok.fresh (Nat.le_succ _)
  refine ⟨rfl, ⟨hp1.objs.size + 1, _, _, ⟨G, g, dr, t', os⟩, _, .ref C, some dx, rfl, J, fun b o e => ?_, ge, hx', ⟨rfl, rfl⟩, rfl, rfl, ?_, rfl, I1.bare, L2.raises_own T.exC T.tyC, q1 dx (I1.hok.fresh hdx')⟩⟩
  · have hb : b ≠ hp1.objs.size + 1 := fun z => by rw [z, ge] at e; cases e
    exact (gk b hb).symm.trans e
  · rw [L2.upd_ne (Ne.symm hne)]
    exact hna
end Ev
end
section
set_option maxRecDepth 100000
set_option maxHeartbeats 4000000
/-! Xt1: try .. except C as n: the exception lies among what is known while the suite runs. -/
namespace Ev
open PySem PySem.Spec PyProof.Rows L2

section
variable {X : Cx} {pins : List (Addr × Obj)} {σ : L2.St} {H : Hp} {s : Shared} {a C : Addr} {d : Option Addr} {oe : Obj} {vs : Array Value}
/-- an exception that was caught is taken among what is known -/
theorem adopt (I : Inv X pins σ H s) (ha : s.heap.get? a = some oe) (hz : Zc (.ref C) d oe) (hd : oe.data = .fields vs) (na : H a = none) (nL : a ≠ X.env.locals) (nC : ∀ x c, X.env.cells.lookup x = some c → c ≠ a) (n0 : X.s_0.heap.get? a = none) (np : ∀ p ∈ X.pn ++ pins, p.1 ≠ a) :
    Inv X pins σ (upd H a (xo a C d)) s := by
  refine ⟨I.ok, I.os, I.bare, ⟨I.base.keep, I.base.slot, fun b o e n hx => ?_, I.base.there, fun b xs e => ?_, fun b o v e => ?_, fun b ps e => ?_⟩, I.loc, I.cell, ?_, fun x c e => ?_, fun p hp => ?_, fun b o e => ?_, I.len⟩
  · rw [upd_ne fun z => by rw [z, n0] at e; cases e]
    exact I.base.free b o e n hx
  · have := I.base.tups b xs e
    rw [upd_ne fun z => by rw [z, na] at this; cases this]; exact this
  · have := I.base.frzs b o v e
    rw [upd_ne fun z => by rw [z, na] at this; cases this]; exact this
  · obtain ⟨more, this⟩ := I.base.tbls b ps e
    exact ⟨more, by rw [upd_ne fun z => by rw [z, na] at this; cases this]; exact this⟩
  · rw [upd_ne (Ne.symm nL)]; exact I.free
  · rw [upd_ne (nC x c e)]; exact I.freeC x c e
  · obtain ⟨h1, h2, h3⟩ := I.pin p hp
    exact ⟨h1, by rw [upd_ne (np p hp)]; exact h2, h3⟩
  · by_cases hb : b = a
    · subst hb
      rw [upd_same] at e
      cases e
      exact ⟨⟨oe, vs, ha, hz, hd⟩, ⟨_, ha⟩, fun h1 h2 z k => by
        obtain ⟨o1, v1, q1, q2, q3⟩ := z
        exact ⟨o1, v1, k _ q1, q2, q3⟩⟩
    · rw [upd_ne hb] at e
      refine (I.hok b o e).stay (fun c u hc r => r) (fun c hc => ?_) (fun c xs hc => ?_)
      · rw [upd_ne fun z => by rw [z, na] at hc; cases hc]; exact hc
      · rw [upd_ne fun z => by rw [z, na] at hc; cases hc]; exact hc
end

/-- what the clause 'except c as n' wishes of an exception of the body: slot i is n's -/
def wNm (K : PySem.W.Frag) (c : Value) (i : Nat) (ts : TS) (Wout : WX) (D : Ends) : WX := fun cls d σ H =>
  ∃ b C, cls = .ref C ∧ PySem.W.exmOne K cls c = some b ∧ (b = true → ∀ a, H a = none → ts { nx := fun σ' H' => D.nx (σ'.set i none) H', rt := D.rt, bk := fun σ' H' => D.bk (σ'.set i none) H', ct := fun σ' H' => D.ct (σ'.set i none) H' } (σ.set i (some (.ref a))) (upd H a (xo a C d))) ∧
    (b = false → Wout cls d σ H)
section
variable {X : Cx} {x n : Str} {c : Value} {i : Nat} {body suite : List Stmt} {b₀ : Stmt} {np pos pos' : Pos} {tb : WX → TS} {ts : TS} {Wout : WX}
theorem ps_try_nm (hex : X.ex = []) (hs : X.stack = X.env :: X.outer) (hf : X.env.frame = some X.env.locals) (hN : X.N.Nodup) (hi : X.N[i]? = some n) (hln : X.env.kindOf n = some .local) (hc : Names X x c) (tk : Takes X Wout)
    (hb : ∀ (W : WX) (pn : List (Addr × Obj)) (xe : Value → Shared → Prop), Takes (X.tr pn xe) W → PassesOwn (model X.prog X.w) X.A X.env xe → PSs (X.tr pn xe) body (tb W))
    (hsu : ∀ (a : Addr) (pn : List (Addr × Obj)), PSs (X.suite a pn) (b₀ :: suite) ts) :
    PS X (.Try body [.ExceptHandler (some (.Name x np)) (some n) (b₀ :: suite) pos'] [] [] pos) (fun D σ H => tb (wNm X.K c i ts Wout D) D σ H) := by
  refine ⟨fun pins s σ H D I h => ?_⟩
  have ok := I.ok
  have hfr : X.A.frames = some (X.env :: X.outer) := by rw [ok.frames, hs]
  have hloc : Loc X.env.scope n := .inl hln
  refine wpAny_Try_except ?_
  refine wpAny_mono ((hb (wNm X.K c i ts Wout D) (X.pn ++ pins) (fun e s₁ => wpAny (model X.prog X.w) X.A (noteFrame e X.env) (fun _ s₂ => wpAny (model X.prog X.w) X.A (setFlight e none) (fun _ s₃ =>
    wpAny (model X.prog X.w) X.A (handleBy e X.env [.ExceptHandler (some (.Name x np)) (some n) (b₀ :: suite) pos']) (SP X pins D) X.xe s₃) X.xe s₂) X.xe s₁) (fun u s' xx => ?_) PassesOwn.looking).run [] s σ H D (I.toTry _) h) (fun f s1 hsp => ?_) (fun e s1 he => he)
  · obtain ⟨a, B, sI, pins', σ', H', cls, d, rfl, J', nb, up, sky, na, os, ag, b, C, rfl, hb1, hyes, hno⟩ := xx
    have J : Inv X pins σ' H' sI := J'.ofTry ok
    have sky' : Sky B (X.env :: X.outer) a (Zc (.ref C) d) X.env.locals s'.heap := by rw [← hs]; exact sky
    show wpAny (model X.prog X.w) X.A (noteFrame (.ref a) X.env) _ _ _
    refine Sky.land Zc.steady hfr hf sky' fun h3 fl3 up3 => ?_
    have J3 : Inv X pins σ' H' { s' with heap := h3 } := J.landed nb fl3.1 (up.trans up3) os ag
    obtain ⟨oe3, vs3, he3, hz3, hd3⟩ := fl3.there
    have nfr : a ∉ frs (X.env :: X.outer) := fun hm => by
      obtain ⟨_, o', e', hnf⟩ := fl3.2.2.1.mem hm
      rw [he3] at e'; cases e'
      exact hnf _ hd3
    have nL : a ≠ X.env.locals := fun z => nfr (List.mem_filterMap.mpr ⟨X.env, List.mem_cons_self, by rw [hf, z]⟩)
    have nF : a ∉ X.fs := fun hm => by
      obtain ⟨e, he, q⟩ := List.mem_filterMap.mp hm
      exact nfr (List.mem_filterMap.mpr ⟨e, List.mem_cons_of_mem _ he, q⟩)
    have nI : sI.heap.get? a = none := by
      cases z : sI.heap.get? a with
      | none => rfl
      | some o =>
        have q := nb a o z (by rw [hs]; exact nfr)
        rw [fl3.2.1] at q; cases q
    have nC : ∀ x c, X.env.cells.lookup x = some c → c ≠ a := fun x c e z => by
      obtain ⟨v, o, q, _⟩ := J.cell x c e
      rw [z, nI] at q; cases q
    have n0 : X.s_0.heap.get? a = none := by
      cases z : X.s_0.heap.get? a with
      | none => rfl
      | some o =>
        by_cases hx : a ∈ X.ex
        · rw [hex] at hx; cases hx
        · obtain ⟨o', q⟩ := J.base.there a o z hx
          rw [nI] at q; cases q
    have npn : ∀ p ∈ X.pn ++ pins, p.1 ≠ a := fun p hp z => by
      have q := (J.pin p hp).1
      rw [z, nI] at q; cases q
    have S3 := J3.suite he3 hd3 na nL nF
    refine wpAny_handleBy_cons (codeAny_handlers_test ?_) (by intro q; cases q)
    have LT : PySem.W.Looks (model X.prog X.w) h3 (typeOf (.ref a)) (.ref C) := fun A Q E s k q => wpAny_typeOf_ref (k _ _ he3) (by rw [hz3.1]; exact q)
    have LM := PySem.W.exm_one (M := model X.prog X.w) (J3.kIn) LT hb1
    have test : ∀ {Q : Value → Shared → Prop} {E : Value → Shared → Prop}, Q c { s' with heap := h3 } → wpAny (model X.prog X.w) (X.A.mark (some (.ref a))) (eval (.Name x np) X.env) Q E { s' with heap := h3 } := fun {Q E} q => by
      obtain ⟨hg, hdbg, hm | ⟨hm, hv, hnn⟩⟩ := hc
      · exact ld_glob (X := X.suite a ((a, oe3) :: (X.pn ++ pins))) S3 hg hm q hdbg
      · exact ld_blt (X := X.suite a ((a, oe3) :: (X.pn ++ pins))) S3 hg hm hv q hnn hdbg
    refine test (LM.here ?_)
    cases b with
    | true =>
      refine codeAny_handlers_suite_as ?_
      refine HandSPX.lands_againZ fl3 fun h4 fl4 up4 => ?_
      have J4 : Inv X pins σ' H' { s' with heap := h4 } := J.landed nb fl4.1 ((up.trans up3).trans up4) os ag
      obtain ⟨oe4, vs4, he4, hz4, hd4⟩ := fl4.there
      have K4 := adopt J4 he4 hz4 hd4 na nL nC n0 npn
      have S4 : Inv (X.suite a (X.pn ++ pins)) [] σ' (upd H' a (xo a C d)) { s' with heap := h4 } := ⟨K4.ok.suite _ _, K4.os, K4.bare, K4.base, K4.loc, K4.cell, K4.free, K4.freeC, fun p hp => K4.pin p (by rw [List.append_nil] at hp; exact hp), K4.hok, K4.len⟩
      have un : ∀ {σ6 : L2.St} {H6 : Hp} {s6 : Shared}, Inv (X.suite a (X.pn ++ pins)) [] σ6 H6 s6 → Inv X pins σ6 H6 s6 := fun I6 => ⟨ok, I6.os, I6.bare, I6.base, I6.loc, I6.cell, I6.free, I6.freeC, fun p hp => I6.pin p (List.mem_append_left _ hp), I6.hok, I6.len⟩
      refine store_ok (X := X.suite a (X.pn ++ pins)) (v := .ref a) S4 hN hi hloc rfl (fun s5 S5 => ?_) (.inr hln)
      refine wpAny_mono ((hsu a (X.pn ++ pins)).run [] s5 _ _ _ S5 (hyes rfl a na)) (fun f s6 hsp => ?_) (fun _ _ z => False.elim z)
      have end_ : ∀ {σ6 : L2.St} {H6 : Hp} {Q : Shared → Prop}, Inv (X.suite a (X.pn ++ pins)) [] σ6 H6 s6 → (∀ s7, Inv X pins (σ6.set i none) H6 s7 → Q s7) →
          wpAny (model X.prog X.w) X.A (do bindName X.env n .none; unbindBehindTheSuite X.env n pos') (fun _ s7 => Q s7) X.xe s6 := fun {σ6 H6 Q} S6 hq => gone_ok (un S6) hN hi hln hq
      cases f with
      | next =>
        obtain ⟨σ6, H6, S6, q6⟩ := hsp
        exact end_ S6 fun s7 J7 => ⟨_, _, J7, q6⟩
      | brk =>
        obtain ⟨σ6, H6, S6, q6⟩ := hsp
        exact end_ S6 fun s7 J7 => ⟨_, _, J7, q6⟩
      | cont =>
        obtain ⟨σ6, H6, S6, q6⟩ := hsp
        exact end_ S6 fun s7 J7 => ⟨_, _, J7, q6⟩
      | ret u =>
        obtain ⟨v6, σ6, H6, S6, r6, q6⟩ := hsp
        exact end_ S6 fun s7 J7 => ⟨_, _, _, J7, r6, q6⟩
    | false =>
      show wpAny _ X.A (handleBy (.ref a) X.env []) _ _ _
      refine wpAny_handleBy_nil ?_
      obtain ⟨k1, k2, k3, oe, vs, T, oT, ts', he, hz, hd, h1, hr⟩ := id fl3
      unfold PySem.passOn
      refine wpAny_bind (wpAny_field he hd h1 ?_)
      rw [if_neg (show ¬ ((Value.ref T == Value.none) = true) from by simp)]
      have fin : wpAny (model X.prog X.w) X.A (setFlight (.ref a) X.env.frame) (fun _ s4 => wpAny (model X.prog X.w) X.A (throw (.ref a) : Sem Flow) (SP X pins D) X.xe s4) X.xe { s' with heap := h3 } := by
        rw [hf]
        refine HandSPX.setFlight_upZ fl3 fun h4 hh4 up4 => wpAny_throw (tk _ _ ?_)
        exact ⟨a, B, sI, pins, σ', H', .ref C, d, rfl, J, nb, (up.trans up3).trans up4, .inr (.inr (by rw [hs]; exact hh4)), na, os, ag, hno rfl⟩
      first
        | exact wpAny_bind (wpAny_pure (wpAny_bind fin))
        | exact wpAny_bind fin
  · cases f with
    | next =>
      obtain ⟨σ', H', J', q⟩ := hsp
      exact wpAny_execs_nil ⟨σ', H', J'.ofTry ok, q⟩
    | brk =>
      obtain ⟨σ', H', J', q⟩ := hsp
      exact ⟨σ', H', J'.ofTry ok, q⟩
    | cont =>
      obtain ⟨σ', H', J', q⟩ := hsp
      exact ⟨σ', H', J'.ofTry ok, q⟩
    | ret u =>
      obtain ⟨v, σ', H', J', r, q⟩ := hsp
      exact ⟨v, σ', H', J'.ofTry ok, r, q⟩
end
end Ev
end
section
set_option maxRecDepth 100000
set_option maxHeartbeats 1000000
/-! Ev3: what is written and what is clean; the readings. -/
namespace Ev
open PySem L2

/-- how the clean names stand in the text -/
structure Lk where
  hf : Nat → Bool
  hc : Nat → PySem.Str → Bool
  fn : Nat → PySem.Str
  /-- classes whose fields are read, whose methods are called, whose instances are made -/
  hk : Nat → Bool
  hm : Nat → Nat → Bool
  hn : Nat → Bool
  /-- exceptions that are raised or caught; no suite of an except clause -/
  hx : Nat → Bool
  cm : Bool
  /-- two functions of the text, one's result handed to the other, read as one call from outside -/
  c2 : Nat → Option (PySem.Str × PySem.Str)

def bopOk : BOp → Operator → Bool
  | .add, .Add => true | .sub, .Sub => true | .mul, .Mult => true | .fdiv, .FloorDiv => true | .mod, .Mod => true | .pow, .Pow => true | .band, .BitAnd => true
  | _, _ => false
def copOk : COp → CmpOp → Bool
  | .eq, .Eq => true | .ne, .NotEq => true | .lt, .Lt => true | .le, .LtE => true | .gt, .Gt => true | .ge, .GtE => true
  | .isin, .In => true | .nin, .NotIn => true | .is, .Is => true | .isnot, .IsNot => true
  | _, _ => false
def visB (sc : Scope) (x : PySem.Str) : Bool := match sc.names.lookup x with
  | some .local => true | some .cell => true | some .free => true | _ => false
def locB (sc : Scope) (x : PySem.Str) : Bool := match sc.names.lookup x with
  | some .local => true | some .cell => true | _ => false
def glB (sc : Scope) (x : PySem.Str) : Bool := (match sc.names.lookup x with
  | some .globalImplicit => true | _ => false) && !(x == ("__debug__" : PySem.Str)) && decide (x ≠ "__name__")
def varB (N : List PySem.Str) (sc : Scope) (i : Nat) (x : PySem.Str) : Bool := decide (N[i]? = some x) && visB sc x && !(x == ("__debug__" : PySem.Str)) && !(x == ("__classdict__" : PySem.Str))
def tgtB (N : List PySem.Str) (sc : Scope) (i : Nat) (x : PySem.Str) : Bool := decide (N[i]? = some x) && locB sc x
def bltName : Blt → PySem.Str
  | .len => "len" | .int => "int" | .ord => "ord" | .min => "min" | .max => "max" | .tuple => "tuple" | .list => "list" | .all => "all" | .any => "any" | .sum => "sum" | .sorted => "sorted"
def tyName : Ty → PySem.Str
  | .int => "int" | .bool => "bool" | .str => "str" | .tup => "tuple" | .lst => "list"
/-- every built-in name that the clean language speaks of -/
def bltNames : List PySem.Str := ["len", "int", "ord", "min", "max", "tuple", "list", "all", "any", "sum", "sorted", "isinstance", "bool", "str", "range", "enumerate", "zip", "reversed"]
def nmsOk (N : List PySem.Str) (sc : Scope) : List Nat → List Expr → Bool
  | [], [] => true
  | i :: is, .Name x _ :: es => tgtB N sc i x && nmsOk N sc is es
  | _, _ => false
def tgOk (N : List PySem.Str) (sc : Scope) : Tg → Expr → Bool
  | .nm i, .Name x _ => tgtB N sc i x
  | .tp is, .Tuple es _ _ => nmsOk N sc is es
  | _, _ => false
def tgIn (vs : List Nat) : Tg → Bool
  | .nm i => vs.contains i
  | .tp is => is.all vs.contains
/-- tuples of an iterator's own go to names of places -/
def wkT : Wk → Tg → Bool
  | .enum, .nm _ => false
  | .zip, .nm _ => false
  | .zipr _, .nm _ => false
  | .revdr, .nm _ => false
  | _, _ => true
def baseOk : Expr → Bool
  | .Name _ _ => true
  | .Attribute _ _ _ => true
  | .Subscript _ _ _ => true
  | _ => false
def noOdd : Expr → Bool
  | .Name _ _ => true
  | .Call _ _ _ _ => true
  | .Subscript _ _ _ => true
  | _ => false
def isIsl : E → Bool
  | .isl _ => true
  | _ => false
/-- what reversed(..) is of -/
def revArg (sc : Scope) : Expr → Option Expr
  | .Call (.Name g _) [a] [] _ => if glB sc g && g == ("reversed" : PySem.Str) then some a else none
  | _ => none
theorem revArg_form {sc : Scope} {b a : Expr} (h : revArg sc b = some a) : ∃ g p q, b = .Call (.Name g p) [a] [] q ∧ glB sc g = true ∧ g = ("reversed" : PySem.Str) := by
  unfold revArg at h
  split at h
  · split at h
    · rename_i q
      cases h
      simp only [Bool.and_eq_true, beq_iff_eq] at q
      exact ⟨_, _, _, rfl, q.1, q.2⟩
    · cases h
  · cases h
def nameOk : Expr → Bool
  | .Name _ _ => true
  | .Call (.Name _ _) (_ :: _) [] _ => true
  | _ => false
def ownOf (N : List PySem.Str) (vs : List Nat) : List (PySem.Str × Nat) := vs.map fun i => (N.getD i (PySem.Str.ofString ""), i)

/-- a display's keys: texts, unlike -/
def okKs : List (List Nat) → List (Option Expr) → Bool
  | [], [] => true
  | k :: ks, some (.Constant (.str y) _ _) :: r => decide (y.cps.toList = k) && okS y && !ks.contains k && okKs ks r
  | _, _ => false
section
variable (L : Lk) (N : List PySem.Str)
mutual
def okE (sc : Scope) : E → Expr → Bool
  | .v i, .Name x _ => varB N sc i x
  | .k g, .Name x _ => glB sc x && L.hc g x
  | .n, .Constant .none _ _ => true
  | .b x, .Constant (.bool y) _ _ => x == y
  | .i x, .Constant (.int y) _ _ => x == y
  | .s x, .Constant (.str y) _ _ => decide (y.cps.toList = x) && okS y
  | .bin o x y, .BinOp a p b _ => bopOk o p && okE sc x a && okE sc y b
  | .neg x, .UnaryOp .USub a _ => okE sc x a
  | .cmp o x y, .Compare a [p] [b] _ => copOk o p && okE sc x a && okE sc y b
  | .chain o p x y z, .Compare a [q, r] [b, d] _ => copOk o q && copOk p r && okE sc x a && okE sc y b && okE sc z d
  | .and x y, .BoolOp .And (a :: b :: rest) p => okE sc x a && (match rest with
    | [] => okE sc y b
    | _ => okE sc y (.BoolOp .And (b :: rest) p))
  | .or x y, .BoolOp .Or (a :: b :: rest) p => okE sc x a && (match rest with
    | [] => okE sc y b
    | _ => okE sc y (.BoolOp .Or (b :: rest) p))
  | .not x, .UnaryOp .Not a _ => okE sc x a
  | .ite t x y, .IfExp c a b _ => okE sc t c && okE sc x a && okE sc y b
  | .call g xs, .Call (.Name x _) as [] _ => (glB sc x && x == L.fn g && L.hf g && okEs sc xs as) || (match as with
    | [.Call (.Name y _) (b :: bs) [] _] => glB sc x && glB sc y && decide (L.c2 g = some (x, y)) && okEs sc xs (b :: bs)
    | _ => false)
  | .fld x g f, .Attribute a n _ => decide ((clsFields g)[f]? = some n) && L.hk g && baseOk a && okE sc x a
  | .meth g' g x xs, .Call (.Attribute a n apos) as [] pos => n == L.fn g && L.hm g' g && nameOk a && !as.isEmpty && decide (as.length < 29) && (apos.endLine == pos.line) && okE sc x a && okEs sc xs as
  | .new g xs, .Call (.Name x _) as [] _ => glB sc x && x == clsName g && L.hn g && !as.isEmpty && okEs sc xs as
  | .blt f xs, .Call (.Name x _) as [] _ => glB sc x && x == bltName f && !as.isEmpty && okEs sc xs as && L.cm
  | .isi x t, .Call (.Name f _) [a, .Name y _] [] _ => glB sc f && f == ("isinstance" : PySem.Str) && glB sc y && y == tyName t && okE sc x a
  | .ix x y, .Subscript a b _ => okE sc x a && okE sc y b
  | .sl x lo hi, .Subscript a (.Slice l h none _) _ => okE sc x a && okO sc lo l && okO sc hi h
  | .rev x, .Subscript a (.Slice none none (some (.UnaryOp .USub (.Constant (.int 1) _ _) _)) _) _ => okE sc x a
  | .dsp ks xs, .Dict kx as _ => okKs ks kx && okEs sc xs as && decide (kx.length = as.length) && !kx.isEmpty && decide (kx.length ≤ 15)
  | .tup xs, .Tuple as _ _ => okEs sc xs as && decide (as.length ≤ 1000)
  | .lst xs, .List as _ => okEs sc xs as && decide (as.length ≤ 1000)
  | .lc e t vs w xs cs, .ListComp elt [⟨tg, iter, ifs, k⟩] scope _ =>
      decide (k = 0) && blkC N sc scope (ownOf N vs) && tgOk N scope t tg && wkT w t && tgIn vs t && okE (relS scope sc) e elt && okEs (relS scope sc) cs ifs && okW sc xs w iter && L.cm
  | .isl x, a => noOdd a && okE sc x a
  | .orv x y, .BoolOp .Or [a, b] _ => okE sc x a && okE sc y b
  | _, _ => false
termination_by structural x => x
def okEs (sc : Scope) : List E → List Expr → Bool
  | [], [] => true
  | x :: xs, a :: as => okE sc x a && okEs sc xs as
  | _, _ => false
termination_by structural x => x
def okW (sc : Scope) : List E → Wk → Expr → Bool
  | [x], .seq, a => okE sc x a
  | [x], .rng1, .Call (.Name f _) [a] [] _ => glB sc f && f == ("range" : PySem.Str) && okE sc x a
  | [x, y], .rng2, .Call (.Name f _) [a, b] [] _ => glB sc f && f == ("range" : PySem.Str) && okE sc x a && okE sc y b
  | [x], .enum, .Call (.Name f _) [a] [] _ => glB sc f && f == ("enumerate" : PySem.Str) && okE sc x a
  | [x], .revd, .Call (.Name f _) [a] [] _ => glB sc f && f == ("reversed" : PySem.Str) && okE sc x a
  | [x], .revdr, .Call (.Name f _) [a] [] _ => glB sc f && f == ("enumerate" : PySem.Str) && (match revArg sc a with
    | some a' => okE sc x a'
    | none => false)
  | [x, y], .zip, .Call (.Name f _) [a, b] [] _ => glB sc f && f == ("zip" : PySem.Str) && okE sc x a && okE sc y b
  | [x, y], .zipr r, .Call (.Name f _) [a, b] [] _ => glB sc f && f == ("zip" : PySem.Str) && isIsl x && (match revArg sc a with
    | some a' => okE sc x a'
    | none => false) && (match (if r then revArg sc b else some b) with
    | some b' => okE sc y b'
    | none => false)
  | _, _, _ => false
termination_by structural x => x
def okO (sc : Scope) : Option E → Option Expr → Bool
  | none, none => true
  | some x, some a => okE sc x a
  | _, _ => false
termination_by structural x => x
end
end

/-! ### what an outcome must bring -/
def WpR {α : Type} (r : R α) (p : α → C → Prop) (q : Xc → C → Prop) : Prop := match r with
  | .st => False
  | .ok a c => p a c
  | .ex x c => q x c
theorem WpR.bind {α β : Type} {r : R α} {k : α → C → R β} {p : β → C → Prop} {q : Xc → C → Prop} (h : WpR (r.bind k) p q) : WpR r (fun a c => WpR (k a c) p q) q := by
  cases r <;> exact h
theorem WpR.mono {α : Type} {r : R α} {p p' : α → C → Prop} {q q' : Xc → C → Prop} (h : WpR r p q) (hp : ∀ a c, p a c → p' a c) (hq : ∀ x c, q x c → q' x c) : WpR r p' q' := by
  cases r with
  | st => exact h
  | ok a c => exact hp _ _ h
  | ex x c => exact hq _ _ h
theorem WpR.ofO {α : Type} {o : Option α} {c : C} {p : α → C → Prop} {q : Xc → C → Prop} (h : WpR (ofO o c) p q) : ∃ a, o = some a ∧ p a c := by
  cases o with
  | none => exact False.elim h
  | some a => exact ⟨a, rfl, h⟩

/-- a class of exceptions: which clauses take it -/
structure XCls (K : Fg) (c : Nat) (C : Addr) : Prop where
  at_ : clsAt K (100 + c) C
  xm : ∀ h D, h < 7 → clsAt K (100 + h) D → PySem.W.exmOne K (.ref C) (.ref D) = some (c == h)
/-- an exception, as it lies -/
def XOk (K : Fg) (F H : Hp) (cls : Value) (d : Option Addr) (x : Xc) : Prop := ∃ (C : Addr) (vs : List V) (fs : List (PySem.Str × V)), XCls K x.c C ∧ cls = .ref C ∧ (x.fs ≠ [] → ∃ a, d = some a ∧ F a = some (.xd fs)) ∧ fs = (clsFields (100 + x.c)).zip vs ∧ Reps K F vs x.fs

section
variable (K : Fg) (W : WX)
/-- an expression's end: value, state -/
def PV (σ : L2.St) (F H : Hp) (c : C) (α : Nat → Addr) (Q : VK) (v : Vl) (c' : C) : Prop :=
  ∀ u F' H', Wf K F' H' σ c'.env α → Tr K c.env c'.env α F H F' H' → VOk K H F' H' σ c'.env α u v → Q u H'
def PX (σ : L2.St) (F H : Hp) (c : C) (α : Nat → Addr) (x : Xc) (c' : C) : Prop :=
  ∀ cls d F' H', Wf K F' H' σ c'.env α → Tr K c.env c'.env α F H F' H' → XOk K F' H' cls d x → W cls d σ H'
def PVs (σ : L2.St) (F H : Hp) (c : C) (α : Nat → Addr) (Q : List V → Hp → Prop) (vs : List Vl) (c' : C) : Prop :=
  ∀ us F' H', Wf K F' H' σ c'.env α → Tr K c.env c'.env α F H F' H' → VsOk K H F' H' σ c'.env α us vs → Q us H'
def PB {β : Type} (σ : L2.St) (F H : Hp) (c : C) (α : Nat → Addr) (Q : β → Hp → Prop) (b : β) (c' : C) : Prop :=
  ∀ F' H', Wf K F' H' σ c'.env α → Tr K c.env c'.env α F H F' H' → Q b H'
def tV (r : C → R Vl) : TE := fun σ H Q => ∃ F c α, Wf K F H σ c.env α ∧ WpR (r c) (PV K σ F H c α Q) (PX K W σ F H c α)
def tVs (r : C → R (List Vl)) : TA := fun σ H Q => ∃ F c α, Wf K F H σ c.env α ∧ WpR (r c) (PVs K σ F H c α Q) (PX K W σ F H c α)
def tTt (r : C → R Bool) : TT := fun σ H Q => ∃ F c α, Wf K F H σ c.env α ∧ WpR (r c) (PB K σ F H c α Q) (PX K W σ F H c α)
end

theorem pe_mono {X : Cx} {e : Expr} {t t' : TE} (h : PE X e t) (m : ∀ σ H Q, t' σ H Q → t σ H Q) : PE X e t' := ⟨fun pins s σ H Q I q => h.run pins s σ H Q I (m σ H Q q)⟩
theorem pt_mono {X : Cx} {e : Expr} {t t' : TT} (h : PT X e t) (m : ∀ σ H Q, t' σ H Q → t σ H Q) : PT X e t' := ⟨fun pins s σ H Q I q => h.run pins s σ H Q I (m σ H Q q)⟩
theorem pa_mono {X : Cx} {e : List Expr} {t t' : TA} (h : PA X e t) (m : ∀ σ H Q, t' σ H Q → t σ H Q) : PA X e t' := ⟨fun pos pins s σ H Q I q => h.run pos pins s σ H Q I (m σ H Q q)⟩
theorem pe_or2 {X : Cx} {e : Expr} {t t' : TE} (h : PE X e t) (h' : PE X e t') : PE X e (fun σ H Q => t σ H Q ∨ t' σ H Q) := ⟨fun pins s σ H Q I q => q.elim (h.run pins s σ H Q I) (h'.run pins s σ H Q I)⟩

section
variable {K : Fg} {W : WX} {σ : L2.St} {F H F' H' : Hp} {c c' : C} {α : Nat → Addr}
theorem PX.on {x : Xc} {c1 c' : C} (t : Tr K c.env c1.env α F H F' H') (h : PX K W σ F H c α x c') : PX K W σ F' H' c1 α x c' :=
  fun cls d F2 H2 w t2 xk => h cls d F2 H2 w (t.trans t2) xk
theorem cells (w : Wf K F H σ c.env α) (t : Tr K c.env c'.env α F H F' H') : ∀ i x, getS c'.env i = .own x → ∃ o, H (α i) = some o := fun i x h => w.there (t.back i x h)
/-- one sub-expression -/
theorem s1 {r : C → R Vl} {k : Vl → C → R Vl} {Q : VK} {R' : V → Hp → Prop} (w : Wf K F H σ c.env α) (h : WpR ((r c).bind k) (PV K σ F H c α Q) (PX K W σ F H c α))
    (go : ∀ v c1 u F1 H1, Wf K F1 H1 σ c1.env α → Tr K c.env c1.env α F H F1 H1 → VOk K H F1 H1 σ c1.env α u v → WpR (k v c1) (PV K σ F H c α Q) (PX K W σ F H c α) → R' u H1) :
    tV K W r σ H R' :=
  ⟨F, c, α, w, h.bind.mono (fun v c1 hk u F1 H1 w1 t1 v1 => go v c1 u F1 H1 w1 t1 v1 hk) fun _ _ hq => hq⟩
end

/-- a class of the text -/
structure KOk (K : Fg) (g : Nat) (C : Addr) : Prop where
  at_ : clsAt K g C
  cls : Cls K C
  fld : ∀ n ∈ clsFields g, NoAttr K C n
/-- a class of exceptions without an __init__ of its own -/
structure XPl (K : Fg) (C : Addr) : Prop where
  ex : PySem.W.excIn K C PySem.HandSPX.veTail "ValueError.__new__" = true
  kp : PySem.W.keepIn K (.ref C) = true
  ini : PySem.W.findIn K (.ref C) "__init__" = some (some (.builtin "ValueError.__init__"))
  exC : PySem.W.subIn K (.ref C) (.type "BaseException") = some true
  tyC : PySem.W.typeIn K (.ref C) = some (.type "type")
/-- a class of exceptions whose fields are read -/
structure XRd (K : Fg) (c : Nat) (C : Addr) : Prop where
  at_ : clsAt K (100 + c) C
  xf : XfC K C
  no : ∀ n ∈ clsFields (100 + c), PySem.W.findIn K (.ref C) n = some none
/-- what is promised of an __init__ -/
def spN (K : Fg) (g : Nat) : Sp := fun vs H Q _ => ∃ a C dx us F ds fs, vs = .ref a :: us ∧ clsAt K g C ∧ H a = some (.ins C dx []) ∧ Same F H ∧ GoodT K H ∧ F a = none ∧ Reps K F us ds ∧ newD g ds = some fs ∧
  ∀ H' ws, (∀ b o, b ≠ a → H b = some o → (∀ ps, o ≠ .tbl ps) → H' b = some o) → TB K H H' → H' a = some (.ins C dx ((clsFields g).zip ws)) → Reps K F ws fs → Q .non H'
/-- .. of one that refuses its arguments -/
def spE (K : Fg) (g : Nat) : Sp := fun vs H _ E => ∃ a C dx us F ds x, vs = .ref a :: us ∧ clsAt K g C ∧ H a = some (.ins C dx []) ∧ Same F H ∧ GoodT K H ∧ F a = none ∧ Reps K F us ds ∧ newE g ds = some x ∧
  ∀ cls d F' H', Grow K H H' → Same F F' → Same F' H' → (∀ b o, F' b = some o → F b = some o ∨ Nw H b) → XOk K F' H' cls d x → E cls d H'
def spM (K : Fg) (g : Nat) : Sp := fun vs H Q E => spN K g vs H Q E ∨ spE K g vs H Q E
/-- all that the readings lean on -/
structure Hyp (L : Lk) (P : Pg) (call : CallT) (W : WX) (X : Cx) : Prop where
  calm : L.cm = true → X.calm = true
  nd : X.N.Nodup
  takes : Takes X W
  units : X.A.units + 100 < cLine
  blt : ∀ x ∈ bltNames, X.mg x = none
  consts : ∀ g d x, L.hc g x = true → P.cs g = some d → ∃ u v, X.mg x = some u ∧ RelV v u ∧ ∀ F, Rep X.K F v d
  cls : ∀ g, L.hk g = true → (g < 100 ∧ ∃ C, KOk X.K g C) ∨ ∃ c C, g = 100 + c ∧ XRd X.K c C
  xcl : ∀ g, L.hx g = true → ∃ C, XCls X.K g C ∧ X.mg (clsName (100 + g)) = some (.ref C) ∧ g < 7 ∧ X.mg "super" = none ∧ (∃ k, Room (k + 1) X.A) ∧ ((clsFields (100 + g) = [] ∧ XPl X.K C) ∨ ∃ f, clsFields (100 + g) = [f] ∧ SxC X.prog X.K C f)
  news : ∀ g, L.hn g = true → ∃ C f fd ps k, KOk X.K g C ∧ X.mg (clsName g) = some (.ref C) ∧ Mk X.K C f ∧ FnOk X.prog X.w X.K X.mg X.base (L2.CX X.prog X.w) k f fd ps (spM X.K g) ∧ Room (k + 1) X.A ∧ Binds X.K fd ps []
end Ev
end
section
set_option maxRecDepth 100000
set_option maxHeartbeats 1000000
/-! Ev4: operations by values. -/
namespace Ev
open PySem L2

/-- what an operation brings -/
def ROk (K : Fg) (F' H' H : Hp) (u : V) : Vl → Prop
  | .d x => Rep K F' u x
  | .tmp x => ∃ a, u = .ref a ∧ H a = none ∧ F' a = none ∧ Own K F' H' a x
  | .bor _ _ => False
def Res (K : Fg) (F H : Hp) (v : Vl) (Q : VK) : Prop :=
  ∀ u F' H', Grow K H H' → Same F F' → Same F' H' → (∀ a o, F' a = some o → F a = some o ∨ Nw H a) → ROk K F' H' H u v → Q u H'

section
variable {K : Fg} {F H : Hp} {Q : VK}
theorem Res.d {x : D} (s : Same F H) (h : Res K F H (.d x) Q) (u : V) (r : Rep K F u x) : Q u H := h u F H (Grow.refl _) (Same.refl _) s (fun _ _ q => .inl q) r
theorem free_sub {p : Addr} (s : Same F H) (hp : H p = none) : F p = none := s.free hp
theorem Res.newT {xs : List D} (s : Same F H) (h : Res K F H (.d (.tup xs)) Q) {vs : List V} (r : Reps K F vs xs) : ∀ p, H p = none → Q (.ref p) (upd H p (.tup vs)) := fun p hp => by
  have sf : Same F (upd F p (.tup vs)) := same_upd (free_sub s hp)
  refine h _ (upd F p (.tup vs)) _ (grow_upd hp) sf (s.both hp) (fun b o q => ?_) (.tup (.inl (.inl upd_same)) (r.mono sf))
  · by_cases e : b = p
    · subst e; exact .inr (.inl hp)
    · rw [upd_ne e] at q; exact .inl q
theorem Res.newL {xs : List D} (s : Same F H) (h : Res K F H (.tmp (.lst xs)) Q) {vs : List V} (r : Reps K F vs xs) : ∀ p, H p = none → Q (.ref p) (upd H p (.lst vs)) := fun p hp => by
  refine h _ F _ (grow_upd hp) (Same.refl _) (s.trans (same_upd hp)) (fun b o q => .inl q) ⟨p, rfl, hp, free_sub s hp, vs, upd_same, r⟩
theorem okS_app {x y : PySem.Str} (hx : okS x = true) (hy : okS y = true) : okS (x ++ y) = true := by
  have e : (x ++ y).cps = x.cps ++ y.cps := rfl
  unfold okS PyData.strOk at *
  rw [e, Array.all_append, hx, hy]; rfl
theorem app_list (x y : PySem.Str) : (x ++ y).cps.toList = x.cps.toList ++ y.cps.toList := by
  have e : (x ++ y).cps = x.cps ++ y.cps := rfl
  rw [e]; simp
theorem len_list (x : PySem.Str) : x.length = x.cps.toList.length := by simp [PySem.Str.length]
theorem line_eq : line = sizeLine := by rw [PySem.sizeLine_eq]; rfl
end

section
variable {X : Cx}
/-- list + list -/
theorem op_catR : OpR X (binaryOp .Add) (fun x y H Q => ∃ l b xs zs, x = .ref l ∧ y = .ref b ∧ SqL X.K H l xs ∧ SqL X.K H b zs ∧ xs.length + zs.length ≤ sizeLine ∧ ∀ p, H p = none → Q (.ref p) (upd H p (.lst (xs ++ zs)))) := by
  intro pins s σ H x y v u Q I rx ry h
  obtain ⟨l, b, xs, zs, rfl, rfl, hH, hB, hz, q⟩ := h
  cases rx
  cases ry
  obtain ⟨its, r, ⟨⟨cls, dd, data, sl⟩, n, e, hc, _, hd⟩, z⟩ := I.list hH
  obtain ⟨its2, r2, ⟨⟨cls2, dd2, data2, sl2⟩, n2, e2, hc2, _, hd2⟩, z2⟩ := I.list hB
  have hl := r.length
  have hl2 := r2.length
  simp only at hc hd hc2 hd2
  subst hc hd hc2 hd2
  refine concat_meets ⟨_, e, rfl⟩ ⟨_, e2, rfl⟩ noFill_list_add seq_list_add PySem.F.slot_list_add PySem.F.entry_list_add (PySem.F.args_list_add_2 _ _) (PyProof.Rows.list_addW l b its.toArray its2.toArray n n2 dd dd2 sl sl2 (by rw [List.size_toArray, List.size_toArray]; omega)) ⟨e, e2, ?_⟩
  have ea : its.toArray ++ its2.toArray = (its ++ its2).toArray := by simp
  rw [ea]
  exact ⟨.ref _, _, I.lnew (t' := s.toks) (r.append r2) (by rw [List.length_append]; omega), rfl, q _ I.fresh⟩

/-- the operators -/
def rBin (K : Fg) (o : BOp) : R2 := fun x y H Q => ∃ F dx dy v, Same F H ∧ Rdb K F H x dx ∧ Rdb K F H y dy ∧ binD o dx dy = some v ∧ Res K F H v Q
theorem some_if {c : Bool} {α : Type} {a v : α} (h : (if c = true then some a else none) = some v) : c = true ∧ a = v := by
  cases c
  · simp at h
  · simp at h; exact ⟨rfl, h⟩
theorem some_ifp {c : Prop} [Decidable c] {α : Type} {a v : α} (h : (if c then some a else none) = some v) : c ∧ a = v := by
  split at h
  · rename_i hc; exact ⟨hc, Option.some.inj h⟩
  · cases h
theorem bitAnd_nn {i j : Int} (hi : 0 ≤ i) (hj : 0 ≤ j) : Builtin.bitAnd i j = ((i.toNat &&& j.toNat : Nat) : Int) := by
  obtain ⟨a, rfl⟩ := Int.eq_ofNat_of_zero_le hi
  obtain ⟨b, rfl⟩ := Int.eq_ofNat_of_zero_le hj
  rfl
theorem o_add : OpR X (binaryOp .Add) (rBin X.K .add) := by
  intro pins s σ H x y v u Q I rx ry ⟨F, dx, dy, w, hs, hx, hy, e, hr⟩
  cases dx <;> cases dy <;> simp only [binD] at e <;> first | (cases e; done) | skip
  · cases e
    obtain rfl := hx.int
    obtain rfl := hy.int
    exact op_add pins s σ H _ _ v u Q I rx ry ⟨_, _, rfl, rfl, hr.d hs _ (.int _)⟩
  · obtain ⟨hl, e⟩ := some_ifp e
    subst e
    obtain ⟨a, rfl, ea, oa⟩ := hx.str
    obtain ⟨b, rfl, eb, ob⟩ := hy.str
    subst ea eb
    refine op_add_str pins s σ H _ _ v u Q I rx ry ⟨a, b, rfl, rfl, by rw [len_list, len_list, ← line_eq]; exact hl, hr.d hs _ ?_⟩
    rw [← app_list]
    exact .str _ (okS_app oa ob)
  · obtain ⟨hl, e⟩ := some_ifp e
    subst e
    obtain ⟨a, vs, rfl, ga, fa, ra⟩ := hx.tup hs
    obtain ⟨b, ws, rfl, gb, fb, rb⟩ := hy.tup hs
    refine op_catA pins s σ H _ _ v u Q I rx ry ⟨a, b, vs, ws, rfl, rfl, ga, gb, by rw [ra.length, rb.length, ← line_eq]; exact hl, fun hn => ?_, fun _ hn => ?_, fun _ _ => hr.newT hs (ra.app rb)⟩
    · subst hn
      cases ra
      exact hr.d hs _ (.tup fb rb)
    · subst hn
      cases rb
      refine hr.d hs _ (.tup fa ?_)
      rw [List.append_nil]; exact ra
  · obtain ⟨hl, e⟩ := some_ifp e
    subst e
    obtain ⟨a, vs, rfl, ga, ra⟩ := hx.list hs
    obtain ⟨b, ws, rfl, gb, rb⟩ := hy.list hs
    exact op_catR pins s σ H _ _ v u Q I rx ry ⟨a, b, vs, ws, rfl, rfl, ga, gb, by rw [ra.length, rb.length, ← line_eq]; exact hl, hr.newL hs (ra.app rb)⟩
theorem o_sub : OpR X (binaryOp .Sub) (rBin X.K .sub) := by
  intro pins s σ H x y v u Q I rx ry ⟨F, dx, dy, w, hs, hx, hy, e, hr⟩
  cases dx <;> cases dy <;> simp only [binD] at e <;> first | (cases e; done) | skip
  cases e
  obtain rfl := hx.int
  obtain rfl := hy.int
  exact op_sub pins s σ H _ _ v u Q I rx ry ⟨_, _, rfl, rfl, hr.d hs _ (.int _)⟩
theorem o_fdiv : OpR X (binaryOp .FloorDiv) (rBin X.K .fdiv) := by
  intro pins s σ H x y v u Q I rx ry ⟨F, dx, dy, w, hs, hx, hy, e, hr⟩
  cases dx <;> cases dy <;> simp only [binD] at e <;> first | (cases e; done) | skip
  obtain ⟨hc, e⟩ := some_if e
  subst e
  simp only [Bool.and_eq_true, decide_eq_true_eq] at hc
  obtain rfl := hx.int
  obtain rfl := hy.int
  exact op_fdiv pins s σ H _ _ v u Q I rx ry ⟨_, _, rfl, rfl, hc, hr.d hs _ (.int _)⟩
theorem o_mod : OpR X (binaryOp .Mod) (rBin X.K .mod) := by
  intro pins s σ H x y v u Q I rx ry ⟨F, dx, dy, w, hs, hx, hy, e, hr⟩
  cases dx <;> cases dy <;> simp only [binD] at e <;> first | (cases e; done) | skip
  obtain ⟨hc, e⟩ := some_ifp e
  subst e
  obtain rfl := hx.int
  obtain rfl := hy.int
  exact op_mod pins s σ H _ _ v u Q I rx ry ⟨_, _, rfl, rfl, hc, hr.d hs _ (.int _)⟩
theorem o_pow : OpR X (binaryOp .Pow) (rBin X.K .pow) := by
  intro pins s σ H x y v u Q I rx ry ⟨F, dx, dy, w, hs, hx, hy, e, hr⟩
  cases dx <;> cases dy <;> simp only [binD] at e <;> first | (cases e; done) | skip
  obtain ⟨hc, e⟩ := some_if e
  subst e
  simp only [Bool.and_eq_true, decide_eq_true_eq] at hc
  obtain rfl := hx.int
  obtain rfl := hy.int
  exact op_pow pins s σ H _ _ v u Q I rx ry ⟨_, _, rfl, rfl, ⟨hc.1.1, hc.1.2, hc.2⟩, hr.d hs _ (.int _)⟩
theorem o_band : OpR X (binaryOp .BitAnd) (rBin X.K .band) := by
  intro pins s σ H x y v u Q I rx ry ⟨F, dx, dy, w, hs, hx, hy, e, hr⟩
  cases dx <;> cases dy <;> simp only [binD] at e <;> first | (cases e; done) | skip
  obtain ⟨hc, e⟩ := some_if e
  subst e
  simp only [Bool.and_eq_true, decide_eq_true_eq] at hc
  obtain rfl := hx.int
  obtain rfl := hy.int
  refine op_and pins s σ H _ _ v u Q I rx ry ⟨_, _, rfl, rfl, ?_⟩
  show Q (.int (Builtin.bitAnd _ _)) H
  rw [bitAnd_nn hc.1 hc.2]
  exact hr.d hs _ (.int _)
theorem foldl_cps (x : Array Nat) : ∀ (k : Nat) (acc : Array Nat), ((List.replicate k x).foldl (· ++ ·) acc).toList = acc.toList ++ (List.replicate k x.toList).flatten
  | 0, acc => by simp
  | k + 1, acc => by rw [List.replicate_succ, List.foldl_cons, foldl_cps x k, List.replicate_succ, List.flatten_cons, Array.toList_append, List.append_assoc]
theorem foldl_ok (x : Array Nat) (hx : x.all (· < 0x110000) = true) : ∀ (k : Nat) (acc : Array Nat), acc.all (· < 0x110000) = true → ((List.replicate k x).foldl (· ++ ·) acc).all (· < 0x110000) = true
  | 0, acc, h => h
  | k + 1, acc, h => by
    rw [List.replicate_succ, List.foldl_cons]
    exact foldl_ok x hx k _ (by rw [Array.all_append, h, hx]; rfl)
theorem mul_cps (x : PySem.Str) (n : Int) (h0 : 0 ≤ n) (hx : okS x = true) : (Txt.mul x n).cps.toList = (List.replicate n.toNat x.cps.toList).flatten ∧ okS (Txt.mul x n) = true := by
  unfold Txt.mul
  by_cases h1 : n < 1
  · rw [if_pos h1]
    have e : n.toNat = 0 := by omega
    rw [e]; exact ⟨rfl, by simp [okS, PyData.strOk, Str.empty]⟩
  · rw [if_neg h1]
    by_cases h2 : (n == 1 || x.length == 0) = true
    · rw [if_pos h2]
      refine ⟨?_, hx⟩
      simp only [Bool.or_eq_true, beq_iff_eq] at h2
      rcases h2 with h2 | h2
      · subst h2; simp
      · have e : x.cps.toList = [] := by
          have : x.cps.toList.length = 0 := by rw [← len_list]; exact h2
          exact List.length_eq_zero_iff.mp this
        rw [e]
        induction n.toNat with
        | zero => rfl
        | succ k ih => rw [List.replicate_succ, List.flatten_cons, ← ih]; rfl
    · rw [if_neg h2]
      exact ⟨by rw [show (⟨(List.replicate n.toNat x.cps).foldl (· ++ ·) #[]⟩ : PySem.Str).cps = (List.replicate n.toNat x.cps).foldl (· ++ ·) #[] from rfl, foldl_cps]; simp, foldl_ok _ hx _ _ (by simp)⟩
theorem o_mul : OpR X (binaryOp .Mult) (rBin X.K .mul) := by
  intro pins s σ H x y v u Q I rx ry ⟨F, dx, dy, w, hs, hx, hy, e, hr⟩
  cases dx <;> cases dy <;> simp only [binD] at e <;> first | (cases e; done) | skip
  · obtain ⟨hc, e⟩ := some_if e
    subst e
    obtain rfl := hx.int
    obtain rfl := hy.int
    unfold okMul at hc
    simp only [Bool.or_eq_true, Bool.and_eq_true, decide_eq_true_eq] at hc
    exact op_mul pins s σ H _ _ v u Q I rx ry ⟨_, _, rfl, rfl, hc, hr.d hs _ (.int _)⟩
  · obtain ⟨hc, e⟩ := some_if e
    subst e
    simp only [Bool.and_eq_true, decide_eq_true_eq] at hc
    obtain ⟨a, rfl, ea, oa⟩ := hx.str
    obtain rfl := hy.int
    subst ea
    obtain ⟨t, rfl⟩ := rx
    obtain ⟨t', rfl⟩ := ry
    obtain ⟨e1, e2⟩ := mul_cps a _ hc.1.1 oa
    refine PySem.SB.mul (PyProof.Rows.mulOk_of 1000 1000 (by rw [len_list]; exact hc.2) hc.1.2 (by have := hc.1.1; omega) (by decide) (by decide)) fun t1 k => ?_
    refine ⟨.str _, H, I.tok _, ⟨_, rfl⟩, hr.d hs _ ?_⟩
    rw [← e1]
    exact .str _ e2
  · obtain ⟨hc, e⟩ := some_ifp e
    subst e
    simp only [Bool.and_eq_true, decide_eq_true_eq] at hc
    obtain ⟨⟨⟨h1, h2⟩, h3⟩, h4⟩ := hc
    obtain ⟨a, vs, rfl, ga, fa, ra⟩ := hx.tup hs
    obtain rfl := hy.int
    have hne : vs ≠ [] := by
      rintro rfl
      have := ra.length
      simp only [List.length_nil] at this
      have : _ = [] := List.eq_nil_of_length_eq_zero this.symm
      subst this
      simp at h1
    exact op_repT pins s σ H _ _ v u Q I rx ry ⟨a, _, vs, rfl, rfl, ga, hne, h2, h3, by rw [ra.length]; exact h4, hr.newT hs (ra.rep _)⟩

/-! ### comparisons -/
def rCmp (K : Fg) (o : COp) : R2 := fun x y H Q => ∃ F dx dy t, Same F H ∧ Rdb K F H x dx ∧ Rdb K F H y dy ∧ cmpD o dx dy = some t ∧ Q (.bl t) H
theorem strLt_eq : ∀ a b : List Nat, strLt a b = decide (a < b)
  | [], [] => by simp [strLt]
  | [], _ :: _ => by simp [strLt]
  | _ :: _, [] => by simp [strLt]
  | x :: a, y :: b => by
    rw [strLt, strLt_eq a b]
    by_cases h : x = y
    · subst h; simp
    · rw [if_neg h]
      by_cases h2 : x < y
      · simp [List.cons_lt_cons_iff, h, h2]
      · simp [List.cons_lt_cons_iff, h, h2]
theorem lexLt_eq : ∀ a b : List Int, lexLt a b = HT.lexLt a b
  | [], [] => rfl
  | [], _ :: _ => rfl
  | _ :: _, [] => rfl
  | x :: a, y :: b => by rw [lexLt, HT.lexLt_cons, lexLt_eq a b]
theorem ints_vs {K : Fg} {F : Hp} : ∀ {vs : List V} {ds : List D} {ns : List Int}, Reps K F vs ds → ints? ds = some ns → vs = ns.map V.int
  | _, _, _, .nil, e => by simp [ints?] at e; subst e; rfl
  | _, _, ns, .cons (d := d) (ds := ds) a b, e => by
    cases a with
    | int i =>
      simp only [ints?, Option.map_eq_some_iff] at e
      obtain ⟨ms, e1, rfl⟩ := e
      rw [ints_vs b e1]; rfl
    | _ => simp [ints?] at e
theorem getD_cons_succ' (x : Int) (l : List Int) (j : Nat) : (x :: l).getD (j + 1) 0 = l.getD j 0 := by simp
theorem lexAt_shift (e r : Nat → Bool) (z : Bool) : ∀ (k i : Nat), Ob.lexAt e r z (i + 1) k = Ob.lexAt (fun j => e (j + 1)) (fun j => r (j + 1)) z i k
  | 0, i => rfl
  | k + 1, i => by rw [Ob.lexAt_succ, Ob.lexAt_succ, lexAt_shift e r z k (i + 1)]
theorem le_nlt (a b : Int) : decide (a ≤ b) = !decide (b < a) := by rw [Bool.eq_iff_iff]; simp
theorem lexAt_le : ∀ (ns ms : List Int), Ob.lexAt (fun j => decide (ns.getD j 0 = ms.getD j 0)) (fun j => decide (ns.getD j 0 ≤ ms.getD j 0)) (decide (ns.length ≤ ms.length)) 0 (min ns.length ms.length) = !lexLt ms ns
  | [], [] => by simp [Ob.lexAt_zero, lexLt]
  | [], _ :: _ => by simp [Ob.lexAt_zero, lexLt]
  | _ :: _, [] => by simp [Ob.lexAt_zero, lexLt]
  | x :: ns, y :: ms => by
    have ek : min (x :: ns).length (y :: ms).length = min ns.length ms.length + 1 := by simp only [List.length_cons]; omega
    rw [ek, Ob.lexAt_succ, lexAt_shift]
    have ih := lexAt_le ns ms
    simp only [getD_cons_succ', List.length_cons, Nat.add_le_add_iff_right]
    rw [ih, lexLt]
    by_cases h : x = y
    · subst h; simp
    · have h' : ¬ y = x := fun e => h e.symm
      simp [h, h']
      exact le_nlt _ _
variable {pins : List (Addr × Obj)} {s : Shared} {σ : L2.St} {H F : Hp} {x y : V} {v u : Value}
theorem rd_reads (I : L2.Inv X pins σ H s) (hs : Same F H) {d : D} (hx : Rdb X.K F H x d) (hp : pln d = true) (rx : RelV x v) : ∃ as, Reads s.heap v (toPy d) as := Dp.reads I _ x v (hx.dp hs hp) rx
theorem depth_of (hs : Same F H) {K : Fg} {d : D} (hx : Rdb K F H x d) (h : shp d = true) : (toPy d).canLay0 = true := SeqAt.canLay_of_shaped (hx.shaped hs h)
theorem shp_iff {d : D} : shp d = true ↔ pln d = true ∧ dep d ≤ 64 := by simp [shp]
theorem o_eq (hu : X.A.units + 100 < cLine) : OpR X (compareOp .Eq) (rCmp X.K .eq) := by
  intro pins s σ H x y v u Q I rx ry ⟨F, dx, dy, t, hs, hx, hy, e, q⟩
  simp only [cmpD] at e
  obtain ⟨hc, e⟩ := some_if e
  subst e
  rw [Bool.and_eq_true] at hc
  refine op_eqD (by omega) pins s σ H x y v u Q I rx ry ⟨_, _, hx.dp hs (shp_iff.mp hc.1).1, hy.dp hs (shp_iff.mp hc.2).1, hx.shaped hs hc.1, hy.shaped hs hc.2, ?_⟩
  rw [eqv_py _ _ (shp_iff.mp hc.1).1 (shp_iff.mp hc.2).1]; exact q
theorem o_ne (hu : X.A.units + 100 < cLine) : OpR X (compareOp .NotEq) (rCmp X.K .ne) := by
  intro pins s σ H x y v u Q I rx ry ⟨F, dx, dy, t, hs, hx, hy, e, q⟩
  simp only [cmpD] at e
  obtain ⟨hc, e⟩ := some_if e
  subst e
  rw [Bool.and_eq_true] at hc
  refine op_neD (by omega) pins s σ H x y v u Q I rx ry ⟨_, _, hx.dp hs (shp_iff.mp hc.1).1, hy.dp hs (shp_iff.mp hc.2).1, hx.shaped hs hc.1, hy.shaped hs hc.2, ?_⟩
  rw [eqv_py _ _ (shp_iff.mp hc.1).1 (shp_iff.mp hc.2).1]; exact q
theorem ltD_cases {dx dy : D} {t : Bool} (e : ltD dx dy = some t) : (∃ i j, dx = .int i ∧ dy = .int j ∧ t = decide (i < j)) ∨ (∃ a b, dx = .str a ∧ dy = .str b ∧ t = strLt a b) ∨
    (∃ xs ys ns ms, dx = .tup xs ∧ dy = .tup ys ∧ ints? xs = some ns ∧ ints? ys = some ms ∧ t = lexLt ns ms) := by
  cases dx <;> cases dy <;> simp only [ltD] at e <;> first | (cases e; done) | skip
  · cases e; exact .inl ⟨_, _, rfl, rfl, rfl⟩
  · cases e; exact .inr (.inl ⟨_, _, rfl, rfl, rfl⟩)
  · split at e
    · cases e; exact .inr (.inr ⟨_, _, _, _, rfl, rfl, by assumption, by assumption, rfl⟩)
    · cases e
theorem o_lt (hu : X.A.units + 100 < cLine) : OpR X (compareOp .Lt) (rCmp X.K .lt) := by
  intro pins s σ H x y v u Q I rx ry ⟨F, dx, dy, t, hs, hx, hy, e, q⟩
  rcases ltD_cases e with ⟨i, j, rfl, rfl, rfl⟩ | ⟨a, b, rfl, rfl, rfl⟩ | ⟨xs, ys, ns, ms, rfl, rfl, e1, e2, rfl⟩
  · obtain rfl := hx.int
    obtain rfl := hy.int
    exact op_lt pins s σ H _ _ v u Q I rx ry ⟨_, _, rfl, rfl, q⟩
  · obtain ⟨a, rfl, ea, oa⟩ := hx.str
    obtain ⟨b, rfl, eb, ob⟩ := hy.str
    subst ea eb
    exact op_lt_str pins s σ H _ _ v u Q I rx ry ⟨_, _, rfl, rfl, by rw [← strLt_eq]; exact q⟩
  · obtain ⟨a, vs, rfl, ga, fa, ra⟩ := hx.tup hs
    obtain ⟨b, ws, rfl, gb, fb, rb⟩ := hy.tup hs
    rw [ints_vs ra e1] at ga
    rw [ints_vs rb e2] at gb
    exact op_ltT (by omega) pins s σ H _ _ v u Q I rx ry ⟨_, _, _, _, rfl, rfl, ga, gb, by rw [← lexLt_eq]; exact q⟩
/-- t > u, t >= u of tuples of ints -/
theorem tupAt {H : Hp} {K : Fg} {pins : List (Addr × Obj)} {a b : Addr} {ns ms : List Int} (I : L2.Inv X pins σ H s) (ga : SqT X.K H a (ns.map V.int)) (gb : SqT X.K H b (ms.map V.int)) :
    ∃ its its2 : Array Value, s.heap.IsTuple a its ∧ s.heap.IsTuple b its2 ∧ its.size = ns.length ∧ its2.size = ms.length ∧ (∀ j (z : j < its.size), ∃ t, its[j] = .int (ns.getD j 0) t) ∧ ∀ j (z : j < its2.size), ∃ t, its2[j] = .int (ms.getD j 0) t := by
  obtain ⟨l1, v1, p1, _⟩ := I.tuple ga
  obtain ⟨l2, v2, p2, _⟩ := I.tuple gb
  have i1 : PyProof.Rows.IntsAre l1 ns := Vals.ints v1
  have i2 : PyProof.Rows.IntsAre l2 ms := Vals.ints v2
  exact ⟨l1.toArray, l2.toArray, p1, p2, by rw [List.size_toArray]; exact i1.length, by rw [List.size_toArray]; exact i2.length, fun j z => PyProof.Rows.IntsAre.int_at i1 _ _ (by simp at z; simp [z]), fun j z => PyProof.Rows.IntsAre.int_at i2 _ _ (by simp at z; simp [z])⟩
theorem beq_dec (i j : Int) : (i == j) = decide (i = j) := by
  cases y : (i == j)
  · exact (decide_eq_false (beq_eq_false_iff_ne.mp y)).symm
  · exact (decide_eq_true (beq_iff_eq.mp y)).symm
theorem lexAt_gt2 : ∀ (ns ms : List Int), Ob.lexAt (fun j => decide (ns.getD j 0 = ms.getD j 0)) (fun j => decide (ms.getD j 0 < ns.getD j 0)) (decide (ns.length > ms.length)) 0 (min ns.length ms.length) = lexLt ms ns
  | [], [] => by simp [Ob.lexAt_zero, lexLt]
  | [], _ :: _ => by simp [Ob.lexAt_zero, lexLt]
  | _ :: _, [] => by simp [Ob.lexAt_zero, lexLt]
  | x :: ns, y :: ms => by
    have ek : min (x :: ns).length (y :: ms).length = min ns.length ms.length + 1 := by simp only [List.length_cons]; omega
    rw [ek, Ob.lexAt_succ, lexAt_shift]
    have ih := lexAt_gt2 ns ms
    simp only [getD_cons_succ', List.length_cons, gt_iff_lt, Nat.add_lt_add_iff_right] at ih ⊢
    rw [ih, lexLt]
    by_cases h : x = y
    · subst h; simp
    · have h' : ¬ y = x := fun e => h e.symm
      simp [h, h']
theorem lexAt_ge : ∀ (ns ms : List Int), Ob.lexAt (fun j => decide (ns.getD j 0 = ms.getD j 0)) (fun j => decide (ms.getD j 0 ≤ ns.getD j 0)) (decide (ns.length ≥ ms.length)) 0 (min ns.length ms.length) = !lexLt ns ms
  | [], [] => by simp [Ob.lexAt_zero, lexLt]
  | [], _ :: _ => by simp [Ob.lexAt_zero, lexLt]
  | _ :: _, [] => by simp [Ob.lexAt_zero, lexLt]
  | x :: ns, y :: ms => by
    have ek : min (x :: ns).length (y :: ms).length = min ns.length ms.length + 1 := by simp only [List.length_cons]; omega
    rw [ek, Ob.lexAt_succ, lexAt_shift]
    have ih := lexAt_ge ns ms
    simp only [getD_cons_succ', List.length_cons, ge_iff_le, Nat.add_le_add_iff_right] at ih ⊢
    rw [ih, lexLt]
    by_cases h : x = y
    · subst h; simp
    · have h' : ¬ y = x := fun e => h e.symm
      simp [h, h']
      exact le_nlt _ _
theorem op_gtT (hu : X.A.units < cLine) : OpR X (compareOp .Gt) (fun x y H Q => ∃ (a b : Addr) (ns ms : List Int), x = .ref a ∧ y = .ref b ∧ SqT X.K H a (ns.map V.int) ∧ SqT X.K H b (ms.map V.int) ∧ Q (.bl (lexLt ms ns)) H) := by
  intro pins s σ H x y v u Q I rx ry h
  obtain ⟨a, b, ns, ms, rfl, rfl, ga, gb, q⟩ := h
  cases rx
  cases ry
  obtain ⟨t1, t2, p1, p2, e1, e2, at1, at2⟩ := tupAt (K := X.K) I ga gb
  have R := Ob.RcOp.tuples_gt (A := X.A) (s := s) (e := fun j => decide (ns.getD j 0 = ms.getD j 0)) (r := fun j => decide (ms.getD j 0 < ns.getD j 0)) p1 p2 hu (fun j z1 z2 => by
    obtain ⟨t, et⟩ := at1 j z1
    obtain ⟨t', et'⟩ := at2 j z2
    rw [et, et']
    exact beq_dec _ _ ▸ SeqAt.EqAt.int_int _ _ _ _) (fun j z1 z2 _ => by
    obtain ⟨t, et⟩ := at1 j z1
    obtain ⟨t', et'⟩ := at2 j z2
    rw [et, et']
    exact Ob.RcOp.gt_int _ _ _ _)
  rw [e1, e2, lexAt_gt2] at R
  exact R X.prog X.w X.xe (EP X pins σ Q) ⟨.bl _, H, I, rfl, q⟩
theorem op_geT (hu : X.A.units < cLine) : OpR X (compareOp .GtE) (fun x y H Q => ∃ (a b : Addr) (ns ms : List Int), x = .ref a ∧ y = .ref b ∧ SqT X.K H a (ns.map V.int) ∧ SqT X.K H b (ms.map V.int) ∧ Q (.bl (!lexLt ns ms)) H) := by
  intro pins s σ H x y v u Q I rx ry h
  obtain ⟨a, b, ns, ms, rfl, rfl, ga, gb, q⟩ := h
  cases rx
  cases ry
  obtain ⟨t1, t2, p1, p2, e1, e2, at1, at2⟩ := tupAt (K := X.K) I ga gb
  have R := Ob.RcOp.tuples_ge (A := X.A) (s := s) (e := fun j => decide (ns.getD j 0 = ms.getD j 0)) (r := fun j => decide (ms.getD j 0 ≤ ns.getD j 0)) p1 p2 hu (fun j z1 z2 => by
    obtain ⟨t, et⟩ := at1 j z1
    obtain ⟨t', et'⟩ := at2 j z2
    rw [et, et']
    exact beq_dec _ _ ▸ SeqAt.EqAt.int_int _ _ _ _) (fun j z1 z2 _ => by
    obtain ⟨t, et⟩ := at1 j z1
    obtain ⟨t', et'⟩ := at2 j z2
    rw [et, et']
    exact Ob.RcOp.ge_int _ _ _ _)
  rw [e1, e2, lexAt_ge] at R
  exact R X.prog X.w X.xe (EP X pins σ Q) ⟨.bl _, H, I, rfl, q⟩
theorem o_gt (hu : X.A.units + 100 < cLine) : OpR X (compareOp .Gt) (rCmp X.K .gt) := by
  intro pins s σ H x y v u Q I rx ry ⟨F, dx, dy, t, hs, hx, hy, e, q⟩
  simp only [cmpD] at e
  rcases ltD_cases e with ⟨i, j, rfl, rfl, rfl⟩ | ⟨a, b, rfl, rfl, rfl⟩ | ⟨xs, ys, ns, ms, rfl, rfl, e1, e2, rfl⟩
  · obtain rfl := hx.int
    obtain rfl := hy.int
    exact op_gt pins s σ H _ _ v u Q I rx ry ⟨_, _, rfl, rfl, q⟩
  · obtain ⟨a, rfl, ea, oa⟩ := hx.str
    obtain ⟨b, rfl, eb, ob⟩ := hy.str
    subst ea eb
    exact op_gt_str pins s σ H _ _ v u Q I rx ry ⟨_, _, rfl, rfl, by rw [← strLt_eq]; exact q⟩
  · obtain ⟨a, vs, rfl, ga, fa, ra⟩ := hx.tup hs
    obtain ⟨b, ws, rfl, gb, fb, rb⟩ := hy.tup hs
    rw [ints_vs ra e2] at ga
    rw [ints_vs rb e1] at gb
    exact op_gtT (by omega) pins s σ H _ _ v u Q I rx ry ⟨_, _, _, _, rfl, rfl, ga, gb, q⟩
theorem o_le (hu : X.A.units + 100 < cLine) : OpR X (compareOp .LtE) (rCmp X.K .le) := by
  intro pins s σ H x y v u Q I rx ry ⟨F, dx, dy, t, hs, hx, hy, e, q⟩
  simp only [cmpD, Option.map_eq_some_iff] at e
  obtain ⟨t0, e, rfl⟩ := e
  rcases ltD_cases e with ⟨i, j, rfl, rfl, rfl⟩ | ⟨a, b, rfl, rfl, rfl⟩ | ⟨xs, ys, ns, ms, rfl, rfl, e1, e2, rfl⟩
  · obtain rfl := hx.int
    obtain rfl := hy.int
    refine op_le pins s σ H _ _ v u Q I rx ry ⟨j, i, rfl, rfl, ?_⟩
    show Q (.bl (decide (j ≤ i))) H
    rw [le_nlt]
    exact q
  · obtain ⟨a, rfl, ea, oa⟩ := hx.str
    obtain ⟨b, rfl, eb, ob⟩ := hy.str
    subst ea eb
    exact op_le_str pins s σ H _ _ v u Q I rx ry ⟨_, _, rfl, rfl, by rw [← strLt_eq]; exact q⟩
  · obtain ⟨a, vs, rfl, ga, fa, ra⟩ := hx.tup hs
    obtain ⟨b, ws, rfl, gb, fb, rb⟩ := hy.tup hs
    rw [ints_vs ra e2] at ga
    rw [ints_vs rb e1] at gb
    exact op_leT (by omega) pins s σ H _ _ v u Q I rx ry ⟨_, _, _, _, rfl, rfl, ga, gb, by rw [lexAt_le]; exact q⟩
theorem o_ge (hu : X.A.units + 100 < cLine) : OpR X (compareOp .GtE) (rCmp X.K .ge) := by
  intro pins s σ H x y v u Q I rx ry ⟨F, dx, dy, t, hs, hx, hy, e, q⟩
  simp only [cmpD, Option.map_eq_some_iff] at e
  obtain ⟨t0, e, rfl⟩ := e
  rcases ltD_cases e with ⟨i, j, rfl, rfl, rfl⟩ | ⟨a, b, rfl, rfl, rfl⟩ | ⟨xs, ys, ns, ms, rfl, rfl, e1, e2, rfl⟩
  · obtain rfl := hx.int
    obtain rfl := hy.int
    refine op_ge pins s σ H _ _ v u Q I rx ry ⟨i, j, rfl, rfl, ?_⟩
    show Q (.bl (decide (j ≤ i))) H
    rw [le_nlt]
    exact q
  · obtain ⟨a, rfl, ea, oa⟩ := hx.str
    obtain ⟨b, rfl, eb, ob⟩ := hy.str
    subst ea eb
    exact op_ge_str pins s σ H _ _ v u Q I rx ry ⟨_, _, rfl, rfl, by rw [← strLt_eq]; exact q⟩
  · obtain ⟨a, vs, rfl, ga, fa, ra⟩ := hx.tup hs
    obtain ⟨b, ws, rfl, gb, fb, rb⟩ := hy.tup hs
    rw [ints_vs ra e1] at ga
    rw [ints_vs rb e2] at gb
    exact op_geT (by omega) pins s σ H _ _ v u Q I rx ry ⟨_, _, _, _, rfl, rfl, ga, gb, q⟩
theorem anyA (xs : List D) (d : D) (h : plnA xs = true) (hd : pln d = true) : ((toPys xs).any fun z => PyData.eqv z (toPy d)) = xs.any fun z => deq z d := by
  induction xs with
  | nil => rfl
  | cons a l ih =>
    simp only [plnA, Bool.and_eq_true] at h
    simp only [toPys, List.any_cons, ih h.2, eqv_py a d h.1 hd]
theorem min_le' {a b : Nat} (h : a ≤ 64) : min a b ≤ 64 := Nat.le_trans (Nat.min_le_left _ _) h
/-! ### dicts of a display -/
theorem kD_eq (a b : Key) : deq (kD a) (kD b) = decide (a = b) := by
  cases a with
  | inl i =>
    cases b with
    | inl j =>
      show (i == j) = _
      by_cases h : i = j
      · subst h; simp
      · rw [decide_eq_false (fun e => h (Sum.inl.inj e))]; simp [h]
    | inr y => exact (decide_eq_false (fun e => by cases e)).symm
  | inr x =>
    cases b with
    | inl j => exact (decide_eq_false (fun e => by cases e)).symm
    | inr y =>
      show (x.cps.toList == y.cps.toList) = _
      by_cases h : x = y
      · subst h; simp
      · rw [decide_eq_false (fun e => h (Sum.inr.inj e))]
        rw [beq_eq_false_iff_ne]
        intro e
        apply h
        cases x; cases y
        congr 1
        exact Array.toList_inj.mp e
theorem hasK_val (k : Key) : ∀ kvs : List (Key × V), hasK (kvs.map fun p => kD p.1) (kD k) = (valV kvs k).isSome
  | [] => rfl
  | p :: r => by
    have ih := hasK_val k r
    unfold hasK at ih ⊢
    rw [List.map_cons, List.any_cons, kD_eq, ih]
    by_cases h : p.1 = k
    · rw [decide_eq_true h, valV_pos h]; rfl
    · rw [decide_eq_false h, valV_neg h]; rfl
theorem atK_val {K : Fg} {F : Hp} (k : Key) {d : D} : ∀ {kvs : List (Key × V)} {vs : List D}, Reps K F (kvs.map (·.2)) vs → atK (kvs.map fun p => kD p.1) vs (kD k) = some d → ∃ v, valV kvs k = some v ∧ Rep K F v d
  | [], _, .nil, h => by cases h
  | p :: r, _, .cons (d := d0) a b, h => by
    simp only [List.map_cons, atK, kD_eq] at h
    by_cases e : p.1 = k
    · rw [decide_eq_true e] at h
      cases h
      exact ⟨_, valV_pos e, a⟩
    · rw [decide_eq_false e] at h
      rw [valV_neg e]
      exact atK_val k b h
theorem Rdb.dct {K : Fg} {F H : Hp} (hs : Same F H) {x : V} {ks vs : List D} (hx : Rdb K F H x (.dct ks vs)) : ∃ a kvs, x = .ref a ∧ Rd H a (.dK kvs) ∧ ks = kvs.map (fun p => kD p.1) ∧ Reps K F (kvs.map (·.2)) vs := by
  rcases hx with h | ⟨a, e, h⟩
  · cases h with
    | dctK e1 e2 e3 e4 r =>
      subst e4
      exact ⟨_, _, rfl, rd_mono hs e1, e3, r⟩
  · exact False.elim h
/-- a text or a number as a key -/
theorem Rdb.key {K : Fg} {F H : Hp} {x : V} {d : D} (hx : Rdb K F H x d) (h : (∃ s, d = .str s) ∨ ∃ i, d = .int i) : ∃ k : Key, x = kV k ∧ d = kD k := by
  rcases h with ⟨s, rfl⟩ | ⟨i, rfl⟩
  · obtain ⟨y, rfl, e, _⟩ := hx.str
    exact ⟨.inr y, rfl, by rw [← e]; rfl⟩
  · exact ⟨.inl i, hx.int, rfl⟩
theorem inD_cases {dx dy : D} {t : Bool} (e : inD dx dy = some t) : (∃ ys, (dy = .lst ys ∨ dy = .tup ys) ∧ shp dx = true ∧ plnA ys = true ∧ depA ys ≤ 64 ∧ t = ys.any fun z => deq z dx) ∨
    (∃ c z, dx = .str [c] ∧ dy = .str z ∧ t = z.contains c) ∨ ∃ ks vs, dy = .dct ks vs ∧ ((∃ s, dx = .str s) ∨ ∃ i, dx = .int i) ∧ t = hasK ks dx := by
  cases dy <;> simp only [inD] at e <;> first | (cases e; done) | skip
  · right; left
    split at e
    · cases e; exact ⟨_, _, rfl, rfl, rfl⟩
    · cases e
  · left
    obtain ⟨hc, e⟩ := some_if e
    simp only [Bool.and_eq_true, decide_eq_true_eq] at hc
    exact ⟨_, .inr rfl, hc.1.1, hc.1.2, hc.2, e.symm⟩
  · left
    obtain ⟨hc, e⟩ := some_if e
    simp only [Bool.and_eq_true, decide_eq_true_eq] at hc
    exact ⟨_, .inl rfl, hc.1.1, hc.1.2, hc.2, e.symm⟩
  · right; right
    split at e
    · cases e; exact ⟨_, _, rfl, .inl ⟨_, rfl⟩, rfl⟩
    · cases e; exact ⟨_, _, rfl, .inr ⟨_, rfl⟩, rfl⟩
    · cases e
theorem str_one {x : PySem.Str} {c : Nat} (h : x.cps.toList = [c]) : x = ⟨#[c]⟩ := by
  cases x with
  | mk a =>
    have : a = #[c] := by
      apply Array.toList_inj.mp
      simpa using h
    rw [this]
theorem layA {F H : Hp} {K : Fg} {y : V} {ys : List D} (hs : Same F H) (hp : plnA ys = true) (hy : Rdb K F H y (.lst ys) ∨ Rdb K F H y (.tup ys)) : PyData.canLayAll0 (toPys ys) = true := by
  rcases hy with hy | hy
  · obtain ⟨_, _, _, _, r⟩ := hy.list hs
    exact r.lay hs hp
  · obtain ⟨_, _, _, _, _, r⟩ := hy.tup hs
    exact r.lay hs hp
theorem o_in (hu : X.A.units + 100 < cLine) : OpR X (compareOp .In) (rCmp X.K .isin) := by
  intro pins s σ H x y v u Q I rx ry ⟨F, dx, dy, t, hs, hx, hy, e, q⟩
  rcases inD_cases e with ⟨ys, hd, h1, h2, h3, rfl⟩ | ⟨c, z, rfl, rfl, rfl⟩ | ⟨ks, vs, rfl, hk, rfl⟩
  · have hp := shp_iff.mp h1
    obtain ⟨as, r1⟩ := rd_reads I hs hx hp.1 rx
    obtain ⟨bs, r2⟩ := rd_reads I hs hy (by rcases hd with rfl | rfl <;> simpa [pln] using h2) ry
    rcases hd with rfl | rfl
    · refine SeqAt.in_list_reads r2 r1 (layA hs h2 (.inl hy)) (depth_of hs hx h1) (by rw [dep_pys]; have := min_le' (b := (toPy dx).depth) h3; omega) ⟨.bl _, H, I, rfl, ?_⟩
      rw [anyA _ _ h2 hp.1]; exact q
    · refine SeqAt.in_tuple_reads r2 r1 (layA hs h2 (.inr hy)) (depth_of hs hx h1) (by rw [dep_pys]; have := min_le' (b := (toPy dx).depth) h3; omega) ⟨.bl _, H, I, rfl, ?_⟩
      rw [anyA _ _ h2 hp.1]; exact q
  · obtain ⟨a, rfl, ea, oa⟩ := hx.str
    obtain ⟨b, rfl, eb, ob⟩ := hy.str
    subst eb
    refine op_in_sign pins s σ H _ _ v u Q I rx ry ⟨c, b, by rw [str_one ea], rfl, ?_⟩
    rw [← List.contains_eq_mem]; exact q
  · obtain ⟨a, kvs, rfl, hr, rfl, rr⟩ := hy.dct hs
    obtain ⟨k, rfl, rfl⟩ := hx.key hk
    obtain rfl : u = Value.ref a := ry
    refine d_in (by omega) I (.inl ⟨kvs, k, hr, rfl, rfl⟩) rx fun s' I' => ⟨.bl _, H, I', rfl, ?_⟩
    rw [← hasK_val]; exact q
theorem o_nin (hu : X.A.units + 100 < cLine) : OpR X (compareOp .NotIn) (rCmp X.K .nin) := by
  intro pins s σ H x y v u Q I rx ry ⟨F, dx, dy, t, hs, hx, hy, e, q⟩
  simp only [cmpD, Option.map_eq_some_iff] at e
  obtain ⟨t0, e, rfl⟩ := e
  rcases inD_cases e with ⟨ys, hd, h1, h2, h3, rfl⟩ | ⟨c, z, rfl, rfl, rfl⟩ | ⟨ks, vs, rfl, hk, rfl⟩
  · have hp := shp_iff.mp h1
    obtain ⟨as, r1⟩ := rd_reads I hs hx hp.1 rx
    obtain ⟨bs, r2⟩ := rd_reads I hs hy (by rcases hd with rfl | rfl <;> simpa [pln] using h2) ry
    rcases hd with rfl | rfl
    · refine SeqAt.notIn_list_reads r2 r1 (layA hs h2 (.inl hy)) (depth_of hs hx h1) (by rw [dep_pys]; have := min_le' (b := (toPy dx).depth) h3; omega) ⟨.bl _, H, I, rfl, ?_⟩
      rw [anyA _ _ h2 hp.1]; exact q
    · refine SeqAt.notIn_tuple_reads r2 r1 (layA hs h2 (.inr hy)) (depth_of hs hx h1) (by rw [dep_pys]; have := min_le' (b := (toPy dx).depth) h3; omega) ⟨.bl _, H, I, rfl, ?_⟩
      rw [anyA _ _ h2 hp.1]; exact q
  · obtain ⟨a, rfl, ea, oa⟩ := hx.str
    obtain ⟨b, rfl, eb, ob⟩ := hy.str
    subst eb
    refine op_notIn_sign pins s σ H _ _ v u Q I rx ry ⟨c, b, by rw [str_one ea], rfl, ?_⟩
    rw [← List.contains_eq_mem]; exact q
  · obtain ⟨a, kvs, rfl, hr, rfl, rr⟩ := hy.dct hs
    obtain ⟨k, rfl, rfl⟩ := hx.key hk
    obtain rfl : u = Value.ref a := ry
    refine d_notIn (by omega) I (.inl ⟨kvs, k, hr, rfl, rfl⟩) rx fun s' I' => ⟨.bl _, H, I', rfl, ?_⟩
    rw [← hasK_val]; exact q
theorem isD_cases {K : Fg} {F H : Hp} {dx dy : D} {t : Bool} {x : V} (hx : Rdb K F H x dx) (e : isD dx dy = some t) : (∃ a b, dx = .bl a ∧ dy = .bl b ∧ t = decide (a = b)) ∨ (dy = .non ∧ t = decide (x = .non)) ∨ ((∃ b, dy = .bl b) ∧ (∀ a, x ≠ .bl a) ∧ t = false) := by
  cases dy <;> first | (cases dx <;> simp [isD] at e <;> done) | skip
  · right; left
    refine ⟨rfl, ?_⟩
    rcases hx with hx | ⟨a, ex, hx⟩
    · cases hx <;> simp [isD] at e <;> subst e <;> simp
    · obtain ⟨xs, vs, rfl, _⟩ := hx.ls
      simp [isD] at e; subst e; subst ex; simp
  · rename_i b
    cases hd : dx with
    | bl a =>
      left
      rw [hd] at e
      simp [isD] at e
      exact ⟨a, b, rfl, rfl, by rw [← e, Bool.beq_eq_decide_eq]⟩
    | _ =>
      right; right
      rw [hd] at e hx
      refine ⟨⟨b, rfl⟩, fun a z => ?_, ?_⟩
      · subst z
        rcases hx with hx | ⟨a, ex, _⟩
        · cases hx
        · cases ex
      · simp [isD] at e <;> exact e
theorem is_off {x : V} {v : Value} {b : Bool} (r : RelV x v) (h : ∀ a, x ≠ .bl a) : plainIs v (.bool b) = true ∧ v ≠ .bool b := by
  cases x with
  | bl a => exact absurd rfl (h a)
  | _ => first
    | (cases r; exact ⟨rfl, fun z => by cases z⟩)
    | (obtain ⟨t, rfl⟩ := r; exact ⟨rfl, fun z => by cases z⟩)
theorem op_isOff : OpR X (compareOp .Is) (fun x y H Q => ∃ b, y = .bl b ∧ (∀ a, x ≠ .bl a) ∧ Q (.bl false) H) := by
  intro pins s σ H x y v u Q I rx ry ⟨b, e, h, q⟩
  subst e
  cases (show u = Value.bool b from ry)
  obtain ⟨h1, h2⟩ := is_off (b := b) rx h
  exact wpAny_is_other h1 h2 ⟨.bl false, H, I, rfl, q⟩
theorem op_notOff : OpR X (compareOp .IsNot) (fun x y H Q => ∃ b, y = .bl b ∧ (∀ a, x ≠ .bl a) ∧ Q (.bl true) H) := by
  intro pins s σ H x y v u Q I rx ry ⟨b, e, h, q⟩
  subst e
  cases (show u = Value.bool b from ry)
  obtain ⟨h1, h2⟩ := is_off (b := b) rx h
  exact wpAny_isNot_other h1 h2 ⟨.bl true, H, I, rfl, q⟩
theorem o_is : OpR X (compareOp .Is) (rCmp X.K .is) := by
  intro pins s σ H x y v u Q I rx ry ⟨F, dx, dy, t, hs, hx, hy, e, q⟩
  rcases isD_cases hx e with ⟨a, b, rfl, rfl, rfl⟩ | ⟨rfl, rfl⟩ | ⟨⟨b, rfl⟩, h, rfl⟩
  · obtain rfl := hx.bl
    obtain rfl := hy.bl
    exact op_isBl pins s σ H _ _ v u Q I rx ry ⟨_, _, rfl, rfl, q⟩
  · obtain rfl := hy.non
    exact op_isN pins s σ H _ _ v u Q I rx ry ⟨rfl, q⟩
  · obtain rfl := hy.bl
    exact op_isOff pins s σ H _ _ v u Q I rx ry ⟨b, rfl, h, q⟩
theorem o_isnot : OpR X (compareOp .IsNot) (rCmp X.K .isnot) := by
  intro pins s σ H x y v u Q I rx ry ⟨F, dx, dy, t, hs, hx, hy, e, q⟩
  simp only [cmpD, Option.map_eq_some_iff] at e
  obtain ⟨t0, e, rfl⟩ := e
  rcases isD_cases hx e with ⟨a, b, rfl, rfl, rfl⟩ | ⟨rfl, rfl⟩ | ⟨⟨b, rfl⟩, h, rfl⟩
  · obtain rfl := hx.bl
    obtain rfl := hy.bl
    exact op_notBl pins s σ H _ _ v u Q I rx ry ⟨_, _, rfl, rfl, q⟩
  · obtain rfl := hy.non
    exact op_notN pins s σ H _ _ v u Q I rx ry ⟨rfl, q⟩
  · obtain rfl := hy.bl
    exact op_notOff pins s σ H _ _ v u Q I rx ry ⟨b, rfl, h, q⟩
theorem o_bin {o : BOp} {p : Operator} (h : bopOk o p = true) : OpR X (binaryOp p) (rBin X.K o) := by
  cases o <;> cases p <;> first | (cases h; done) | skip
  · exact o_add
  · exact o_sub
  · exact o_mul
  · exact o_fdiv
  · exact o_mod
  · exact o_pow
  · exact o_band
theorem o_cmp (hu : X.A.units + 100 < cLine) {o : COp} {p : CmpOp} (h : copOk o p = true) : OpR X (compareOp p) (rCmp X.K o) := by
  cases o <;> cases p <;> first | (cases h; done) | skip
  · exact o_eq hu
  · exact o_ne hu
  · exact o_lt hu
  · exact o_le hu
  · exact o_gt hu
  · exact o_ge hu
  · exact o_in hu
  · exact o_nin hu
  · exact o_is
  · exact o_isnot
end
end Ev
end
section
set_option maxRecDepth 100000
set_option maxHeartbeats 1000000
/-! Mmt: min and max of two values whose comparison wants the heap. -/
namespace PySem
open Sem (wp)
section
variable {prog : Program} {w : World} {A : Around} {R : Result → Shared → Prop} {I : Addr} {fp wr : List Addr} {P : Nat → Value → Prop} {St : Nat → Heap → Prop}
/-- behind the second item -/
theorem min_end (W : Walks prog w A.in1 I fp wr 2 P St) {T : Addr} (nT : T ∉ fp) {t : Shared} {x : Value} {c : Nat} (st : St 2 t.heap)
    (atT : t.heap.get? T = some { cls := .type "list", dict := none, data := .seq #[x, x] c, slots := #[] })
    (fin : ∀ h' tk, (∀ b o, b ∉ wr → b ≠ T → t.heap.get? b = some o → h'.get? b = some o) → R (.ok (.ret x)) { t with heap := h', toks := tk }) :
    codeAny (model prog w) A (.builtin "min.loop" ⟨[.ref I, .none, .ref T], []⟩) R t := by
  have nw : T ∉ wr := fun z => nT (W.sub _ z)
  refine codeAny_builtin F.entry_min_loop ?_; rw [Around.under_plainId F.plain_min_loop _]
  show wpAny _ A.in1 (seqItems? (.ref T) >>= _) _ _ t
  refine wpAny_bind (wpAny_seqItems atT rfl ?_)
  show wpAny _ A.in1 (tryCatch (pyNext (.ref I)) _ >>= _) _ _ t
  refine wpAny_bind (wpAny_tryCatch (W.done t _ _ st fun h1 tk k1 => ?_))
  have at1 := k1 T _ nw atT
  show wpAny _ A.in1 (updateSeq T (fun _ => #[]) >>= _) _ _ _
  refine wpAny_bind (wpAny_updateSeq at1 rfl (wpAny_bind (wpAny_letGo (wpAny_pure ?_))))
  exact fin _ tk fun b o nb ne e => (Heap.get?_update_other _ _ (Ne.symm ne)).trans (k1 b o nb e)
/-- at the second item -/
theorem min_mid (W : Walks prog w A.in1 I fp wr 2 P St) {T : Addr} (nT : T ∉ fp) {t : Shared} {x : Value} {c : Nat} {r : Bool} (st : St 1 t.heap)
    (atT : t.heap.get? T = some { cls := .type "list", dict := none, data := .seq #[x, x] c, slots := #[] })
    (cmp : ∀ (y : Value) (h1 : Heap) (tk : Nat) (Q E : Value → Shared → Prop), P 1 y → (∀ b o, b ∉ wr → t.heap.get? b = some o → h1.get? b = some o) → Q (.bool r) { t with heap := h1, toks := tk } → wpAny (model prog w) A.in1 (richCompare .Lt y x) Q E { t with heap := h1, toks := tk })
    (fin : ∀ y h' tk, P 1 y → (∀ b o, b ∉ wr → b ≠ T → t.heap.get? b = some o → h'.get? b = some o) → R (.ok (.ret (if r then y else x))) { t with heap := h', toks := tk }) :
    codeAny (model prog w) A (.builtin "min.loop" ⟨[.ref I, .none, .ref T], []⟩) R t := by
  have nw : T ∉ wr := fun z => nT (W.sub _ z)
  have nm : (toString "min" ++ toString ".loop" : String) = "min.loop" := by decide +kernel
  refine codeAny_builtin F.entry_min_loop ?_; rw [Around.under_plainId F.plain_min_loop _]
  show wpAny _ A.in1 (seqItems? (.ref T) >>= _) _ _ t
  refine wpAny_bind (wpAny_seqItems atT rfl ?_)
  show wpAny _ A.in1 (tryCatch (pyNext (.ref I)) _ >>= _) _ _ t
  refine wpAny_bind (wpAny_tryCatch (W.item 1 t _ _ (by decide) st fun y h1 tk py st1 k1 => ?_))
  have at1 := k1 T _ nw atT
  show wpAny _ A.in1 (tryCatch (holding [y, y] (richCompare .Lt y x >>= _)) _ >>= _) _ _ _
  refine wpAny_bind (wpAny_tryCatch (wpAny_holding (wpAny_bind (cmp y h1 tk _ _ py k1 ?_))))
  refine wpAny_bind (wpAny_holding (wpAny_truthy_bool (wpAny_bind (wpAny_letGo (wpAny_pure ?_)))))
  cases r with
  | true =>
    simp only [if_true]
    refine wpAny_bind (wpAny_updateSeq at1 rfl (wpAny_bind (wpAny_letGo ?_)))
    rw [nm]
    refine wpAny_pure ⟨plainId_quiet F.plain_min_loop _, min_end W nT (W.frame _ _ _ st1 fun b hb o e => (Heap.get?_update_other _ _ (fun z : T = b => nT (z ▸ hb))).trans e) (Heap.get?_update_self _ at1 rfl) fun h2 tk2 k2 => ?_⟩
    exact fin y h2 tk2 py fun b o nb ne e => k2 b o nb ne ((Heap.get?_update_other _ _ (Ne.symm ne)).trans (k1 b o nb e))
  | false =>
    simp only [Bool.false_eq_true, if_false]
    refine wpAny_bind (wpAny_letGo ?_)
    rw [nm]
    refine wpAny_pure ⟨plainId_quiet F.plain_min_loop _, min_end W nT st1 at1 fun h2 tk2 k2 => ?_⟩
    exact fin y h2 tk2 py fun b o nb ne e => k2 b o nb ne (k1 b o nb e)
/-- at the first item -/
theorem min_first (W : Walks prog w A.in1 I fp wr 2 P St) {T : Addr} (nT : T ∉ fp) {t : Shared} {c : Nat} {r : Bool} (st : St 0 t.heap)
    (atT : t.heap.get? T = some { cls := .type "list", dict := none, data := .seq #[] c, slots := #[] })
    (cmp : ∀ (x y : Value) (h1 : Heap) (tk : Nat) (Q E : Value → Shared → Prop), P 0 x → P 1 y → (∀ b o, b ∉ wr → b ≠ T → t.heap.get? b = some o → h1.get? b = some o) → Q (.bool r) { t with heap := h1, toks := tk } → wpAny (model prog w) A.in1 (richCompare .Lt y x) Q E { t with heap := h1, toks := tk })
    (fin : ∀ x y h' tk, P 0 x → P 1 y → (∀ b o, b ∉ wr → b ≠ T → t.heap.get? b = some o → h'.get? b = some o) → R (.ok (.ret (if r then y else x))) { t with heap := h', toks := tk }) :
    codeAny (model prog w) A (.builtin "min.loop" ⟨[.ref I, .none, .ref T], []⟩) R t := by
  have nw : T ∉ wr := fun z => nT (W.sub _ z)
  have nm : (toString "min" ++ toString ".loop" : String) = "min.loop" := by decide +kernel
  refine codeAny_builtin F.entry_min_loop ?_; rw [Around.under_plainId F.plain_min_loop _]
  show wpAny _ A.in1 (seqItems? (.ref T) >>= _) _ _ t
  refine wpAny_bind (wpAny_seqItems atT rfl ?_)
  show wpAny _ A.in1 (tryCatch (pyNext (.ref I)) _ >>= _) _ _ t
  refine wpAny_bind (wpAny_tryCatch (W.item 0 t _ _ (by decide) st fun x h1 tk px st1 k1 => ?_))
  have at1 := k1 T _ nw atT
  show wpAny _ A.in1 (updateSeq T (fun _ => #[x, x]) >>= _) _ _ _
  refine wpAny_bind (wpAny_updateSeq at1 rfl ?_)
  rw [nm]
  have kk : ∀ b o, b ∉ wr → b ≠ T → t.heap.get? b = some o → (h1.update T fun ob => { ob with data := .seq #[x, x] c }).get? b = some o := fun b o nb ne e => (Heap.get?_update_other _ _ (Ne.symm ne)).trans (k1 b o nb e)
  refine wpAny_pure ⟨plainId_quiet F.plain_min_loop _, min_mid W nT (r := r) (W.frame _ _ _ st1 fun b hb o e => (Heap.get?_update_other _ _ (fun z : T = b => nT (z ▸ hb))).trans e) (Heap.get?_update_self _ at1 rfl) (fun y h2 tk2 Q E py k2 q => ?_) fun y h2 tk2 py k2 => ?_⟩
  · exact cmp x y h2 tk2 Q E px py (fun b o nb ne e => k2 b o nb ((Heap.get?_update_other _ _ (Ne.symm ne)).trans (k1 b o nb e))) q
  · exact fin x y h2 tk2 px py fun b o nb ne e => k2 b o nb ne ((Heap.get?_update_other _ _ (Ne.symm ne)).trans (k1 b o nb e))
end
section
variable {prog : Program} {w : World} {A : Around} {E : Value → Shared → Prop} {t : Shared}
/-- min of two values that can be compared wherever the old objects stand -/
theorem min_two {x y : Value} {r : Bool} {Q : Value → Shared → Prop} (hh : A.handled = none)
    (cmp : ∀ (h1 : Heap) (tk : Nat) (Q E : Value → Shared → Prop), (∀ b o, t.heap.get? b = some o → h1.get? b = some o) → Q (.bool r) { t with heap := h1, toks := tk } → wpAny (model prog w) A.in1 (richCompare .Lt y x) Q E { t with heap := h1, toks := tk })
    (fin : ∀ h' tk, (∀ b o, t.heap.get? b = some o → h'.get? b = some o) → Q (if r then y else x) { t with heap := h', toks := tk }) :
    wpAny (model prog w) A (call (.builtin "min") [x, y]) Q E t := by
  have nm : (toString "min" ++ toString ".loop" : String) = "min.loop" := by decide +kernel
  refine call_function_tree F.kind_min F.plain_min F.entry_min (F.args_min2 _ _) ?_
  show wpAny _ A.in1 (Builtin.Builtins.bindParams "min" ["key", "default"] 0 ⟨[], []⟩ >>= _) _ _ t
  have bp : Builtin.Builtins.bindParams "min" ["key", "default"] 0 ⟨[], []⟩ = pure [none, none] := rfl
  refine wpAny_bind (wpAny_of_eq bp ?_)
  show wpAny _ A.in1 (newTuple [x, y] >>= _) _ _ t
  refine wpAny_bind (wpAny_newObj_type ?_)
  have tu : (t.heap.push { cls := .type "tuple", data := .seq #[x, y] }).IsTuple t.heap.objs.size #[x, y] := ⟨_, Heap.get?_push_size _ rfl, rfl, 0, rfl⟩
  refine wpAny_bind (wpAny_pyIter_tuple tu ?_)
  have sz : (t.heap.push { cls := .type "tuple", data := .seq #[x, y] }).objs.size = t.heap.objs.size + 1 := Heap.size_push ..
  refine wpAny_bind (wpAny_newObj_type ?_)
  rw [nm]
  have W := Walks.tuple (prog := prog) (w := w) (A := A.in1) hh (t.heap.push { cls := .type "tuple", data := .seq #[x, y] }).objs.size t.heap.objs.size (by rw [sz]; exact Nat.ne_of_lt (Nat.lt_succ_self t.heap.objs.size)) #[x, y]
  have sz2 : ∀ o : Obj, ((t.heap.push { cls := .type "tuple", data := .seq #[x, y] }).push o).objs.size = t.heap.objs.size + 2 := fun o => by rw [Heap.size_push, sz]
  have old : ∀ (o1 o2 : Obj) (b : Addr) (o : Obj), t.heap.get? b = some o → (((t.heap.push { cls := .type "tuple", data := .seq #[x, y] }).push o1).push o2).get? b = some o := fun o1 o2 b o e => Heap.get?_push_of_some _ (Heap.get?_push_of_some _ (Heap.get?_push_of_some _ e))
  have lt : ∀ (b : Addr) (o : Obj), t.heap.get? b = some o → b < t.heap.objs.size := fun b o e => Heap.lt_size e
  have e0 : ∀ v : Value, (#[x, y] : Array Value)[0]? = some v → v = x := fun v e => by simpa using e.symm
  have e1 : ∀ v : Value, (#[x, y] : Array Value)[1]? = some v → v = y := fun v e => by simpa using e.symm
  refine wpAny_pure ⟨plainId_quiet F.plain_min_loop _, min_first W (r := r) ?_ ⟨⟨_, Heap.get?_push_of_some _ (Heap.get?_push_size _ rfl), rfl, rfl⟩, (tu.push _).push _⟩ (Heap.get?_push_size _ rfl) (fun u v h1 tk Q E pu pv k q => ?_) fun u v h1 tk pu pv k => ?_⟩
  · show ((t.heap.push _).push _).objs.size ∉ _
    rw [sz2, sz]
    simp
  · rw [e0 u pu, e1 v pv]
    refine cmp h1 tk Q E (fun b o e => k b o (fun z => ?_) (fun z => ?_) (old _ _ b o e)) q
    · have := lt b o e
      rw [List.mem_singleton.mp z, sz] at this
      exact Nat.lt_irrefl t.heap.objs.size (Nat.lt_of_succ_lt this)
    · have := lt b o e
      rw [z, sz2] at this
      exact Nat.lt_irrefl t.heap.objs.size (Nat.lt_of_succ_lt (Nat.lt_of_succ_lt this))
  · rw [e0 u pu, e1 v pv]
    refine fin h1 tk fun b o e => k b o (fun z => ?_) (fun z => ?_) (old _ _ b o e)
    · have := lt b o e
      rw [List.mem_singleton.mp z, sz] at this
      exact Nat.lt_irrefl t.heap.objs.size (Nat.lt_of_succ_lt this)
    · have := lt b o e
      rw [z, sz2] at this
      exact Nat.lt_irrefl t.heap.objs.size (Nat.lt_of_succ_lt (Nat.lt_of_succ_lt this))
end
section
variable {prog : Program} {w : World} {A : Around} {R : Result → Shared → Prop} {I : Addr} {fp wr : List Addr} {P : Nat → Value → Prop} {St : Nat → Heap → Prop}
/-- behind the second item -/
theorem max_end (W : Walks prog w A.in1 I fp wr 2 P St) {T : Addr} (nT : T ∉ fp) {t : Shared} {x : Value} {c : Nat} (st : St 2 t.heap)
    (atT : t.heap.get? T = some { cls := .type "list", dict := none, data := .seq #[x, x] c, slots := #[] })
    (fin : ∀ h' tk, (∀ b o, b ∉ wr → b ≠ T → t.heap.get? b = some o → h'.get? b = some o) → R (.ok (.ret x)) { t with heap := h', toks := tk }) :
    codeAny (model prog w) A (.builtin "max.loop" ⟨[.ref I, .none, .ref T], []⟩) R t := by
  have nw : T ∉ wr := fun z => nT (W.sub _ z)
  refine codeAny_builtin F.entry_max_loop ?_; rw [Around.under_plainId F.plain_max_loop _]
  show wpAny _ A.in1 (seqItems? (.ref T) >>= _) _ _ t
  refine wpAny_bind (wpAny_seqItems atT rfl ?_)
  show wpAny _ A.in1 (tryCatch (pyNext (.ref I)) _ >>= _) _ _ t
  refine wpAny_bind (wpAny_tryCatch (W.done t _ _ st fun h1 tk k1 => ?_))
  have at1 := k1 T _ nw atT
  show wpAny _ A.in1 (updateSeq T (fun _ => #[]) >>= _) _ _ _
  refine wpAny_bind (wpAny_updateSeq at1 rfl (wpAny_bind (wpAny_letGo (wpAny_pure ?_))))
  exact fin _ tk fun b o nb ne e => (Heap.get?_update_other _ _ (Ne.symm ne)).trans (k1 b o nb e)
/-- at the second item -/
theorem max_mid (W : Walks prog w A.in1 I fp wr 2 P St) {T : Addr} (nT : T ∉ fp) {t : Shared} {x : Value} {c : Nat} {r : Bool} (st : St 1 t.heap)
    (atT : t.heap.get? T = some { cls := .type "list", dict := none, data := .seq #[x, x] c, slots := #[] })
    (cmp : ∀ (y : Value) (h1 : Heap) (tk : Nat) (Q E : Value → Shared → Prop), P 1 y → (∀ b o, b ∉ wr → t.heap.get? b = some o → h1.get? b = some o) → Q (.bool r) { t with heap := h1, toks := tk } → wpAny (model prog w) A.in1 (richCompare .Gt y x) Q E { t with heap := h1, toks := tk })
    (fin : ∀ y h' tk, P 1 y → (∀ b o, b ∉ wr → b ≠ T → t.heap.get? b = some o → h'.get? b = some o) → R (.ok (.ret (if r then y else x))) { t with heap := h', toks := tk }) :
    codeAny (model prog w) A (.builtin "max.loop" ⟨[.ref I, .none, .ref T], []⟩) R t := by
  have nw : T ∉ wr := fun z => nT (W.sub _ z)
  have nm : (toString "max" ++ toString ".loop" : String) = "max.loop" := by decide +kernel
  refine codeAny_builtin F.entry_max_loop ?_; rw [Around.under_plainId F.plain_max_loop _]
  show wpAny _ A.in1 (seqItems? (.ref T) >>= _) _ _ t
  refine wpAny_bind (wpAny_seqItems atT rfl ?_)
  show wpAny _ A.in1 (tryCatch (pyNext (.ref I)) _ >>= _) _ _ t
  refine wpAny_bind (wpAny_tryCatch (W.item 1 t _ _ (by decide) st fun y h1 tk py st1 k1 => ?_))
  have at1 := k1 T _ nw atT
  show wpAny _ A.in1 (tryCatch (holding [y, y] (richCompare .Gt y x >>= _)) _ >>= _) _ _ _
  refine wpAny_bind (wpAny_tryCatch (wpAny_holding (wpAny_bind (cmp y h1 tk _ _ py k1 ?_))))
  refine wpAny_bind (wpAny_holding (wpAny_truthy_bool (wpAny_bind (wpAny_letGo (wpAny_pure ?_)))))
  cases r with
  | true =>
    simp only [if_true]
    refine wpAny_bind (wpAny_updateSeq at1 rfl (wpAny_bind (wpAny_letGo ?_)))
    rw [nm]
    refine wpAny_pure ⟨plainId_quiet F.plain_max_loop _, max_end W nT (W.frame _ _ _ st1 fun b hb o e => (Heap.get?_update_other _ _ (fun z : T = b => nT (z ▸ hb))).trans e) (Heap.get?_update_self _ at1 rfl) fun h2 tk2 k2 => ?_⟩
    exact fin y h2 tk2 py fun b o nb ne e => k2 b o nb ne ((Heap.get?_update_other _ _ (Ne.symm ne)).trans (k1 b o nb e))
  | false =>
    simp only [Bool.false_eq_true, if_false]
    refine wpAny_bind (wpAny_letGo ?_)
    rw [nm]
    refine wpAny_pure ⟨plainId_quiet F.plain_max_loop _, max_end W nT st1 at1 fun h2 tk2 k2 => ?_⟩
    exact fin y h2 tk2 py fun b o nb ne e => k2 b o nb ne (k1 b o nb e)
/-- at the first item -/
theorem max_first (W : Walks prog w A.in1 I fp wr 2 P St) {T : Addr} (nT : T ∉ fp) {t : Shared} {c : Nat} {r : Bool} (st : St 0 t.heap)
    (atT : t.heap.get? T = some { cls := .type "list", dict := none, data := .seq #[] c, slots := #[] })
    (cmp : ∀ (x y : Value) (h1 : Heap) (tk : Nat) (Q E : Value → Shared → Prop), P 0 x → P 1 y → (∀ b o, b ∉ wr → b ≠ T → t.heap.get? b = some o → h1.get? b = some o) → Q (.bool r) { t with heap := h1, toks := tk } → wpAny (model prog w) A.in1 (richCompare .Gt y x) Q E { t with heap := h1, toks := tk })
    (fin : ∀ x y h' tk, P 0 x → P 1 y → (∀ b o, b ∉ wr → b ≠ T → t.heap.get? b = some o → h'.get? b = some o) → R (.ok (.ret (if r then y else x))) { t with heap := h', toks := tk }) :
    codeAny (model prog w) A (.builtin "max.loop" ⟨[.ref I, .none, .ref T], []⟩) R t := by
  have nw : T ∉ wr := fun z => nT (W.sub _ z)
  have nm : (toString "max" ++ toString ".loop" : String) = "max.loop" := by decide +kernel
  refine codeAny_builtin F.entry_max_loop ?_; rw [Around.under_plainId F.plain_max_loop _]
  show wpAny _ A.in1 (seqItems? (.ref T) >>= _) _ _ t
  refine wpAny_bind (wpAny_seqItems atT rfl ?_)
  show wpAny _ A.in1 (tryCatch (pyNext (.ref I)) _ >>= _) _ _ t
  refine wpAny_bind (wpAny_tryCatch (W.item 0 t _ _ (by decide) st fun x h1 tk px st1 k1 => ?_))
  have at1 := k1 T _ nw atT
  show wpAny _ A.in1 (updateSeq T (fun _ => #[x, x]) >>= _) _ _ _
  refine wpAny_bind (wpAny_updateSeq at1 rfl ?_)
  rw [nm]
  have kk : ∀ b o, b ∉ wr → b ≠ T → t.heap.get? b = some o → (h1.update T fun ob => { ob with data := .seq #[x, x] c }).get? b = some o := fun b o nb ne e => (Heap.get?_update_other _ _ (Ne.symm ne)).trans (k1 b o nb e)
  refine wpAny_pure ⟨plainId_quiet F.plain_max_loop _, max_mid W nT (r := r) (W.frame _ _ _ st1 fun b hb o e => (Heap.get?_update_other _ _ (fun z : T = b => nT (z ▸ hb))).trans e) (Heap.get?_update_self _ at1 rfl) (fun y h2 tk2 Q E py k2 q => ?_) fun y h2 tk2 py k2 => ?_⟩
  · exact cmp x y h2 tk2 Q E px py (fun b o nb ne e => k2 b o nb ((Heap.get?_update_other _ _ (Ne.symm ne)).trans (k1 b o nb e))) q
  · exact fin x y h2 tk2 px py fun b o nb ne e => k2 b o nb ne ((Heap.get?_update_other _ _ (Ne.symm ne)).trans (k1 b o nb e))
end
section
variable {prog : Program} {w : World} {A : Around} {E : Value → Shared → Prop} {t : Shared}
/-- max of two values that can be compared wherever the old objects stand -/
theorem max_two {x y : Value} {r : Bool} {Q : Value → Shared → Prop} (hh : A.handled = none)
    (cmp : ∀ (h1 : Heap) (tk : Nat) (Q E : Value → Shared → Prop), (∀ b o, t.heap.get? b = some o → h1.get? b = some o) → Q (.bool r) { t with heap := h1, toks := tk } → wpAny (model prog w) A.in1 (richCompare .Gt y x) Q E { t with heap := h1, toks := tk })
    (fin : ∀ h' tk, (∀ b o, t.heap.get? b = some o → h'.get? b = some o) → Q (if r then y else x) { t with heap := h', toks := tk }) :
    wpAny (model prog w) A (call (.builtin "max") [x, y]) Q E t := by
  have nm : (toString "max" ++ toString ".loop" : String) = "max.loop" := by decide +kernel
  refine call_function_tree F.kind_max F.plain_max F.entry_max (F.args_max2 _ _) ?_
  show wpAny _ A.in1 (Builtin.Builtins.bindParams "max" ["key", "default"] 0 ⟨[], []⟩ >>= _) _ _ t
  have bp : Builtin.Builtins.bindParams "max" ["key", "default"] 0 ⟨[], []⟩ = pure [none, none] := rfl
  refine wpAny_bind (wpAny_of_eq bp ?_)
  show wpAny _ A.in1 (newTuple [x, y] >>= _) _ _ t
  refine wpAny_bind (wpAny_newObj_type ?_)
  have tu : (t.heap.push { cls := .type "tuple", data := .seq #[x, y] }).IsTuple t.heap.objs.size #[x, y] := ⟨_, Heap.get?_push_size _ rfl, rfl, 0, rfl⟩
  refine wpAny_bind (wpAny_pyIter_tuple tu ?_)
  have sz : (t.heap.push { cls := .type "tuple", data := .seq #[x, y] }).objs.size = t.heap.objs.size + 1 := Heap.size_push ..
  refine wpAny_bind (wpAny_newObj_type ?_)
  rw [nm]
  have W := Walks.tuple (prog := prog) (w := w) (A := A.in1) hh (t.heap.push { cls := .type "tuple", data := .seq #[x, y] }).objs.size t.heap.objs.size (by rw [sz]; exact Nat.ne_of_lt (Nat.lt_succ_self t.heap.objs.size)) #[x, y]
  have sz2 : ∀ o : Obj, ((t.heap.push { cls := .type "tuple", data := .seq #[x, y] }).push o).objs.size = t.heap.objs.size + 2 := fun o => by rw [Heap.size_push, sz]
  have old : ∀ (o1 o2 : Obj) (b : Addr) (o : Obj), t.heap.get? b = some o → (((t.heap.push { cls := .type "tuple", data := .seq #[x, y] }).push o1).push o2).get? b = some o := fun o1 o2 b o e => Heap.get?_push_of_some _ (Heap.get?_push_of_some _ (Heap.get?_push_of_some _ e))
  have lt : ∀ (b : Addr) (o : Obj), t.heap.get? b = some o → b < t.heap.objs.size := fun b o e => Heap.lt_size e
  have e0 : ∀ v : Value, (#[x, y] : Array Value)[0]? = some v → v = x := fun v e => by simpa using e.symm
  have e1 : ∀ v : Value, (#[x, y] : Array Value)[1]? = some v → v = y := fun v e => by simpa using e.symm
  refine wpAny_pure ⟨plainId_quiet F.plain_max_loop _, max_first W (r := r) ?_ ⟨⟨_, Heap.get?_push_of_some _ (Heap.get?_push_size _ rfl), rfl, rfl⟩, (tu.push _).push _⟩ (Heap.get?_push_size _ rfl) (fun u v h1 tk Q E pu pv k q => ?_) fun u v h1 tk pu pv k => ?_⟩
  · show ((t.heap.push _).push _).objs.size ∉ _
    rw [sz2, sz]
    simp
  · rw [e0 u pu, e1 v pv]
    refine cmp h1 tk Q E (fun b o e => k b o (fun z => ?_) (fun z => ?_) (old _ _ b o e)) q
    · have := lt b o e
      rw [List.mem_singleton.mp z, sz] at this
      exact Nat.lt_irrefl t.heap.objs.size (Nat.lt_of_succ_lt this)
    · have := lt b o e
      rw [z, sz2] at this
      exact Nat.lt_irrefl t.heap.objs.size (Nat.lt_of_succ_lt (Nat.lt_of_succ_lt this))
  · rw [e0 u pu, e1 v pv]
    refine fin h1 tk fun b o e => k b o (fun z => ?_) (fun z => ?_) (old _ _ b o e)
    · have := lt b o e
      rw [List.mem_singleton.mp z, sz] at this
      exact Nat.lt_irrefl t.heap.objs.size (Nat.lt_of_succ_lt this)
    · have := lt b o e
      rw [z, sz2] at this
      exact Nat.lt_irrefl t.heap.objs.size (Nat.lt_of_succ_lt (Nat.lt_of_succ_lt this))
end
end PySem
end
section
set_option maxRecDepth 100000
set_option maxHeartbeats 1000000
/-! Ev5t: min and max of two tuples of ints. -/
namespace Ev
open PySem L2 PyProof.Rows
theorem lexAt_gt : ∀ (ns ms : List Int), Ob.lexAt (fun j => decide (ms.getD j 0 = ns.getD j 0)) (fun j => decide (ns.getD j 0 < ms.getD j 0)) (decide (ms.length > ns.length)) 0 (min ms.length ns.length) = lexLt ns ms
  | [], [] => by simp [Ob.lexAt_zero, lexLt]
  | [], _ :: _ => by simp [Ob.lexAt_zero, lexLt]
  | _ :: _, [] => by simp [Ob.lexAt_zero, lexLt]
  | x :: ns, y :: ms => by
    have ek : min (y :: ms).length (x :: ns).length = min ms.length ns.length + 1 := by simp only [List.length_cons]; omega
    rw [ek, Ob.lexAt_succ, lexAt_shift]
    have ih := lexAt_gt ns ms
    simp only [getD_cons_succ', List.length_cons, gt_iff_lt, Nat.add_lt_add_iff_right] at ih ⊢
    rw [ih, lexLt]
    by_cases h : x = y
    · subst h; simp
    · have h' : ¬ y = x := fun e => h e.symm
      simp [h, h']
theorem un1 {A : Around} (h : A.units + 100 < cLine) : A.in1.units < cLine := by
  have e : A.in1.units ≤ A.units + 1 := by
    first
    | exact Nat.le_refl _
    | exact Nat.le_succ _
  omega
section
variable {X : Cx}
theorem call_min2T (hc : X.calm = true) (hu : X.A.units + 100 < cLine) : CallR X (.builtin "min") (fun xs H Q => ∃ (a b : Addr) (ns ms : List Int), xs = [.ref a, .ref b] ∧ SqT X.K H a (ns.map V.int) ∧ SqT X.K H b (ms.map V.int) ∧ Q (.ref (if lexLt ms ns then b else a)) H) := by
  intro pins s σ H xs us Q I r h
  obtain ⟨a, b, ns, ms, rfl, ga, gb, q⟩ := h
  obtain ⟨u, w', rfl, r1, r2⟩ := vals2 r
  cases r1
  cases r2
  obtain ⟨its, v1, p1, _⟩ := I.tuple ga
  obtain ⟨its2, v2, p2, _⟩ := I.tuple gb
  have i1 : IntsAre its.toArray.toList ns := intsAre_of v1
  have i2 : IntsAre its2.toArray.toList ms := intsAre_of v2
  refine min_two (r := lexLt ms ns) (I.ok.hd hc) (fun h1 tk Q' E' k q' => ?_) fun h' tk k => ⟨_, H, I.kept k, ?_, q⟩
  · have t1 : IsTup h1 a its.toArray := ⟨_, k _ _ p1.choose_spec.1, p1.choose_spec.2⟩
    have t2 : IsTup h1 b its2.toArray := ⟨_, k _ _ p2.choose_spec.1, p2.choose_spec.2⟩
    have := HT.lt_tupInts (prog := X.prog) (w := X.w) (A := X.A.in1) (s := { s with heap := h1, toks := tk }) (Q := Q') (E := E') t2 t1 i2 i1 (un1 hu) (by rw [← lexLt_eq]; exact q')
    exact this
  · cases lexLt ms ns <;> rfl
theorem call_max2T (hc : X.calm = true) (hu : X.A.units + 100 < cLine) : CallR X (.builtin "max") (fun xs H Q => ∃ (a b : Addr) (ns ms : List Int), xs = [.ref a, .ref b] ∧ SqT X.K H a (ns.map V.int) ∧ SqT X.K H b (ms.map V.int) ∧ Q (.ref (if lexLt ns ms then b else a)) H) := by
  intro pins s σ H xs us Q I r h
  obtain ⟨a, b, ns, ms, rfl, ga, gb, q⟩ := h
  obtain ⟨u, w', rfl, r1, r2⟩ := vals2 r
  cases r1
  cases r2
  obtain ⟨its, v1, p1, _⟩ := I.tuple ga
  obtain ⟨its2, v2, p2, _⟩ := I.tuple gb
  have i1 : IntsAre its ns := Vals.ints v1
  have i2 : IntsAre its2 ms := Vals.ints v2
  have e1 : its.toArray.size = ns.length := by rw [List.size_toArray]; exact i1.length
  have e2 : its2.toArray.size = ms.length := by rw [List.size_toArray]; exact i2.length
  have at1 : ∀ j (z : j < its.toArray.size), ∃ t, its.toArray[j] = .int (ns.getD j 0) t := fun j z => PyProof.Rows.IntsAre.int_at i1 _ _ (by simp at z; simp [z])
  have at2 : ∀ j (z : j < its2.toArray.size), ∃ t, its2.toArray[j] = .int (ms.getD j 0) t := fun j z => PyProof.Rows.IntsAre.int_at i2 _ _ (by simp at z; simp [z])
  refine max_two (r := lexLt ns ms) (I.ok.hd hc) (fun h1 tk Q' E' k q' => ?_) fun h' tk k => ⟨_, H, I.kept k, ?_, q⟩
  · have t1 : IsTup h1 a its.toArray := ⟨_, k _ _ p1.choose_spec.1, p1.choose_spec.2⟩
    have t2 : IsTup h1 b its2.toArray := ⟨_, k _ _ p2.choose_spec.1, p2.choose_spec.2⟩
    have R := Ob.RcOp.tuples_gt (A := X.A.in1) (s := { s with heap := h1, toks := tk }) (e := fun j => decide (ms.getD j 0 = ns.getD j 0)) (r := fun j => decide (ns.getD j 0 < ms.getD j 0)) t2 t1
      (un1 hu) (fun j z1 z2 => by
      obtain ⟨t, et⟩ := at2 j z1
      obtain ⟨t', et'⟩ := at1 j z2
      rw [et, et']
      have z : (ms.getD j 0 == ns.getD j 0) = decide (ms.getD j 0 = ns.getD j 0) := by
        cases y : (ms.getD j 0 == ns.getD j 0)
        · exact (decide_eq_false (beq_eq_false_iff_ne.mp y)).symm
        · exact (decide_eq_true (beq_iff_eq.mp y)).symm
      exact z ▸ SeqAt.EqAt.int_int _ _ _ _) (fun j z1 z2 _ => by
      obtain ⟨t, et⟩ := at2 j z1
      obtain ⟨t', et'⟩ := at1 j z2
      rw [et, et']
      exact Ob.RcOp.gt_int _ _ _ _)
    rw [e1, e2, lexAt_gt] at R
    exact R X.prog X.w E' Q' q'
  · cases lexLt ns ms <;> rfl
end
end Ev
end
section
set_option maxRecDepth 100000
set_option maxHeartbeats 1000000
/-! Ev5: subscripts, slices, truth, built-in functions by values. -/
namespace Ev
open PySem L2
section
variable {X : Cx}
theorem atI_get {K : Fg} {F : Hp} {vs : List V} {ds : List D} {i : Int} {d : D} (r : Reps K F vs ds) (h : atI ds i = some d) : ∃ v, L2.atI vs i = some v ∧ Rep K F v d := by
  unfold atI at h
  unfold L2.atI
  rw [r.length]
  have e : L2.ixN ds.length i = ixN ds.length i := rfl
  rw [e]
  cases q : ixN ds.length i with
  | none => rw [q] at h; cases h
  | some j =>
    rw [q] at h
    exact r.get h
theorem okS_mem {x : PySem.Str} (h : okS x = true) {c : Nat} (hc : c ∈ x.cps.toList) : c < 0x110000 := by
  unfold okS PyData.strOk at h
  rw [← Array.all_toList, List.all_eq_true] at h
  simpa using h c hc
theorem okS_of {x : PySem.Str} (h : ∀ c ∈ x.cps.toList, c < 0x110000) : okS x = true := by
  unfold okS PyData.strOk
  rw [← Array.all_toList, List.all_eq_true]
  intro c hc
  simpa using h c hc
theorem rep_sign {K : Fg} {F : Hp} {c : Nat} (h : c < 0x110000) : Rep K F (.str ⟨#[c]⟩) (.str [c]) := .str ⟨#[c]⟩ (okS_of (by simp; exact h))
theorem some_ifO {c : Prop} [Decidable c] {α : Type} {a : Option α} {v : α} (h : (if c then a else none) = some v) : c ∧ a = some v := by
  split at h
  · rename_i hc; exact ⟨hc, h⟩
  · cases h
def rIx (K : Fg) : R2 := fun x y H Q => ∃ F dx dy d, Same F H ∧ Rdb K F H x dx ∧ Rdb K F H y dy ∧ ixD dx dy = some d ∧ ∀ u, Rep K F u d → Q u H
theorem x_ix (hu : X.A.units + 100 < cLine) : IxR X (rIx X.K) := by
  intro ve se pins s σ H x y v u Q I rx ry ⟨F, dx, dy, d, hs, hx, hy, e, q⟩ hsub
  cases dx <;> cases dy <;> simp only [ixD] at e <;> first | (cases e; done) | skip
  · obtain ⟨hl, e0⟩ := some_ifO e
    obtain ⟨c, e1, rfl⟩ := Option.map_eq_some_iff.mp e0
    obtain ⟨a, rfl, ea, oa⟩ := hx.str
    obtain rfl := hy.int
    subst ea
    have hm : c ∈ a.cps.toList := by
      unfold atI at e1
      obtain ⟨j, _, e2⟩ := Option.bind_eq_some_iff.mp e1
      exact List.mem_of_getElem? e2
    exact ix_str ve se pins s σ H _ _ v u Q I rx ry ⟨a, _, c, rfl, rfl, by rw [len_list, ← line_eq]; exact hl, e1, q _ (rep_sign (okS_mem oa hm))⟩ hsub
  · obtain ⟨a, vs, rfl, ga, fa, ra⟩ := hx.tup hs
    obtain rfl := hy.int
    obtain ⟨w, e1, rw1⟩ := atI_get ra e
    exact ix_tup ve se pins s σ H _ _ v u Q I rx ry ⟨a, vs, _, w, rfl, rfl, ga, e1, q _ rw1⟩ hsub
  · obtain ⟨a, vs, rfl, ga, ra⟩ := hx.list hs
    obtain rfl := hy.int
    obtain ⟨w, e1, rw1⟩ := atI_get ra e
    exact ix_list ve se pins s σ H _ _ v u Q I rx ry ⟨a, vs, _, w, rfl, rfl, ga, e1, q _ rw1⟩ hsub
  · obtain ⟨a, kvs, rfl, hr, rfl, rr⟩ := hx.dct hs
    obtain ⟨k, rfl, ek⟩ := hy.key (.inl ⟨_, rfl⟩)
    rw [ek] at e
    obtain ⟨w, e1, rw1⟩ := atK_val k rr e
    obtain rfl : v = Value.ref a := rx
    have g : DGet H a (kV k) (some w) := .inl ⟨kvs, k, hr, rfl, e1.symm⟩
    exact PyProof.Rows.tail_any (dict_typeIs I g) PySem.F.slot_dict_getitem.lookup (d_getItem (by omega) I g ry fun w' s3 I3 rw' => ⟨w, H, I3, rw', q _ rw1⟩) hsub
theorem cut_reps {K : Fg} {F : Hp} {vs : List V} {ds : List D} (r : Reps K F vs ds) (lo hi : Option Int) : Reps K F (cutV vs lo hi) (cut ds lo hi) := by
  unfold cutV cut
  rw [r.length]
  exact Reps.take _ (Reps.drop _ r)
def rSl (K : Fg) : V → Option Int → Option Int → Hp → VK → Prop := fun x lo hi H Q => ∃ F dx w, Same F H ∧ Rdb K F H x dx ∧ slD dx lo hi = some w ∧ Res K F H w Q
theorem cut_whole {xs : List V} {lo hi : Option Int} (h : HT.sIx xs.length 0 lo = 0 ∧ HT.sIx xs.length xs.length hi = xs.length) : cutV xs lo hi = xs := by
  unfold cutV
  rw [h.1, h.2]; simp
theorem x_sl : SlR X (rSl X.K) := by
  intro pins s σ H x v vl vu lo hi sl Q I rx hsl pl pu ⟨F, dx, w, hs, hx, e, hr⟩
  cases dx <;> simp only [slD] at e <;> first | (cases e; done) | skip
  · obtain ⟨hl, e⟩ := some_ifp e
    subst e
    obtain ⟨a, rfl, ea, oa⟩ := hx.str
    subst ea
    refine sl_str pins s σ H _ v vl vu lo hi sl Q I rx hsl pl pu ⟨a, rfl, by rw [len_list, ← line_eq]; exact hl, hr.d hs _ ?_⟩
    have e2 : (cutS a lo hi).cps.toList = cut a.cps.toList lo hi := by
      unfold cutS cut
      rw [len_list]
      simp; rfl
    rw [← e2]
    refine .str _ (okS_of fun c hc => okS_mem oa ?_)
    rw [e2] at hc
    exact List.mem_of_mem_drop (List.mem_of_mem_take hc)
  · cases e
    obtain ⟨a, vs, rfl, ga, fa, ra⟩ := hx.tup hs
    refine sl_tupA pins s σ H _ v vl vu lo hi sl Q I rx hsl pl pu ⟨a, vs, rfl, ga, fun hw => hr.d hs _ (.tup fa ?_), fun _ => hr.newT hs (cut_reps ra lo hi)⟩
    have := cut_reps ra lo hi
    rw [cut_whole hw] at this
    exact this
  · cases e
    obtain ⟨a, vs, rfl, ga, ra⟩ := hx.list hs
    exact sl_list pins s σ H _ v vl vu lo hi sl Q I rx hsl pl pu ⟨a, vs, rfl, ga, hr.newL hs (cut_reps ra lo hi)⟩
/-- truth -/
theorem x_tru {K : Fg} {F H : Hp} {x : V} {d : D} {t : Bool} (hs : Same F H) (hx : Rdb K F H x d) (e : truD d = some t) : TruV K x H t := by
  cases d <;> simp only [truD] at e <;> first | (cases e; done) | skip
  · cases e; obtain rfl := hx.non; rfl
  · cases e; obtain rfl := hx.bl; rfl
  · cases e; obtain rfl := hx.int; rfl
  · obtain ⟨hl, e⟩ := some_ifp e
    subst e
    obtain ⟨a, rfl, ea, oa⟩ := hx.str
    subst ea
    refine ⟨by rw [len_list, ← line_eq]; exact hl, ?_⟩
    rw [len_list]
    cases a.cps.toList with
    | nil => rfl
    | cons c r => simp [bne]; omega
  · cases e
    obtain ⟨a, vs, rfl, ga, fa, ra⟩ := hx.tup hs
    exact .inr (.inl ⟨vs, ga, by cases ra <;> rfl⟩)
  · cases e
    obtain ⟨a, vs, rfl, ga, ra⟩ := hx.list hs
    exact .inl ⟨vs, ga, by cases ra <;> rfl⟩

/-! ### built-in functions -/
inductive Rdbs (K : Fg) (F H : Hp) : List V → List D → Prop
  | nil : Rdbs K F H [] []
  | cons {v : V} {vs : List V} {d : D} {ds : List D} : Rdb K F H v d → Rdbs K F H vs ds → Rdbs K F H (v :: vs) (d :: ds)
def rBlt (K : Fg) (f : Blt) : List V → Hp → VK → Prop := fun xs H Q => ∃ F ds w, Same F H ∧ Rdbs K F H xs ds ∧ bltD f ds = some w ∧ Res K F H w Q
def bltVal : Blt → Value
  | .len => .builtin "len" | .int => .type "int" | .ord => .builtin "ord" | .min => .builtin "min" | .max => .builtin "max" | .tuple => .type "tuple" | .list => .type "list"
  | .all => .builtin "all" | .any => .builtin "any" | .sum => .builtin "sum" | .sorted => .builtin "sorted"
theorem Rdbs.one {K : Fg} {F H : Hp} {xs : List V} {d : D} (h : Rdbs K F H xs [d]) : ∃ x, xs = [x] ∧ Rdb K F H x d := by
  cases h with
  | cons a b => cases b; exact ⟨_, rfl, a⟩
theorem Rdbs.two {K : Fg} {F H : Hp} {xs : List V} {d e : D} (h : Rdbs K F H xs [d, e]) : ∃ x y, xs = [x, y] ∧ Rdb K F H x d ∧ Rdb K F H y e := by
  cases h with
  | cons a b =>
    obtain ⟨y, rfl, b1⟩ := b.one
    exact ⟨_, _, rfl, a, b1⟩
theorem bools_vs {K : Fg} {F : Hp} : ∀ {vs : List V} {ds : List D} {bs : List Bool}, Reps K F vs ds → bools? ds = some bs → vs = bs.map V.bl
  | _, _, _, .nil, e => by simp [bools?] at e; subst e; rfl
  | _, _, bs, .cons (d := d) (ds := ds) a b, e => by
    cases a with
    | bl i =>
      simp only [bools?, Option.map_eq_some_iff] at e
      obtain ⟨ms, e1, rfl⟩ := e
      rw [bools_vs b e1]; rfl
    | _ => simp [bools?] at e
theorem minL_mem : ∀ (r : List Int) (m : Int), minL m r = m ∨ minL m r ∈ r
  | [], m => .inl rfl
  | x :: r, m => by
    unfold minL
    rcases minL_mem r (if x < m then x else m) with h | h
    · rw [h]; split
      · exact .inr List.mem_cons_self
      · exact .inl rfl
    · exact .inr (List.mem_cons_of_mem _ h)
theorem minL_le : ∀ (r : List Int) (m : Int), minL m r ≤ m ∧ ∀ y ∈ r, minL m r ≤ y
  | [], m => ⟨Int.le_refl _, by simp⟩
  | x :: r, m => by
    unfold minL
    obtain ⟨h1, h2⟩ := minL_le r (if x < m then x else m)
    have h3 : (if x < m then x else m) ≤ m ∧ (if x < m then x else m) ≤ x := by split <;> omega
    refine ⟨by omega, fun y hy => ?_⟩
    rcases List.mem_cons.mp hy with rfl | hy
    · omega
    · exact h2 y hy
theorem maxL_mem : ∀ (r : List Int) (m : Int), maxL m r = m ∨ maxL m r ∈ r
  | [], m => .inl rfl
  | x :: r, m => by
    unfold maxL
    rcases maxL_mem r (if m < x then x else m) with h | h
    · rw [h]; split
      · exact .inr List.mem_cons_self
      · exact .inl rfl
    · exact .inr (List.mem_cons_of_mem _ h)
theorem maxL_le : ∀ (r : List Int) (m : Int), m ≤ maxL m r ∧ ∀ y ∈ r, y ≤ maxL m r
  | [], m => ⟨Int.le_refl _, by simp⟩
  | x :: r, m => by
    unfold maxL
    obtain ⟨h1, h2⟩ := maxL_le r (if m < x then x else m)
    have h3 : m ≤ (if m < x then x else m) ∧ x ≤ (if m < x then x else m) := by split <;> omega
    refine ⟨by omega, fun y hy => ?_⟩
    rcases List.mem_cons.mp hy with rfl | hy
    · omega
    · exact h2 y hy
theorem d1 {f : Blt} {ds : List D} {w : Vl} (e : bltD f ds = some w) (h : f ≠ .min ∧ f ≠ .max) : ∃ d, ds = [d] ∧ blt1 f d = some w := by
  rcases ds with _ | ⟨d, _ | ⟨d2, _ | ⟨d3, r⟩⟩⟩
  · cases e
  · exact ⟨d, rfl, e⟩
  · cases f <;> first | exact absurd rfl h.1 | exact absurd rfl h.2 | (cases e)
  · cases e
theorem d2 {f : Blt} {ds : List D} {w : Vl} (e : bltD f ds = some w) : (∃ d, ds = [d] ∧ blt1 f d = some w) ∨ ∃ d d', ds = [d, d'] ∧ blt2 f d d' = some w := by
  rcases ds with _ | ⟨d, _ | ⟨d2, _ | ⟨d3, r⟩⟩⟩
  · cases e
  · exact .inl ⟨d, rfl, e⟩
  · exact .inr ⟨d, d2, rfl, e⟩
  · cases e
theorem b_len : CallR X (.builtin "len") (rBlt X.K .len) := by
  intro pins s σ H xs us Q I r ⟨F, ds, w, hs, hxs, e, hr⟩
  obtain ⟨d, rfl, e0⟩ := d1 e (by decide)
  replace e := e0
  obtain ⟨x, rfl, hx⟩ := hxs.one
  cases d <;> first | (cases e; done) | simp only [blt1] at e
  · obtain ⟨hl, e⟩ := some_ifp e
    subst e
    obtain ⟨a, rfl, ea, oa⟩ := hx.str
    subst ea
    have hl' : a.length ≤ sizeLine := by rw [len_list, ← line_eq]; exact hl
    refine call_len pins s σ H _ us Q I r ⟨_, a.length, rfl, ⟨hl', rfl⟩, ?_⟩
    rw [len_list]; exact hr.d hs _ (.int _)
  · cases e
    obtain ⟨a, vs, rfl, ga, fa, ra⟩ := hx.tup hs
    refine call_len pins s σ H _ us Q I r ⟨_, vs.length, rfl, .inr ⟨vs, ga, rfl⟩, ?_⟩
    rw [ra.length]; exact hr.d hs _ (.int _)
  · cases e
    obtain ⟨a, vs, rfl, ga, ra⟩ := hx.list hs
    refine call_len pins s σ H _ us Q I r ⟨_, vs.length, rfl, .inl ⟨vs, ga, rfl⟩, ?_⟩
    rw [ra.length]; exact hr.d hs _ (.int _)
theorem b_int : CallR X (.type "int") (rBlt X.K .int) := by
  intro pins s σ H xs us Q I r ⟨F, ds, w, hs, hxs, e, hr⟩
  obtain ⟨d, rfl, e0⟩ := d1 e (by decide)
  replace e := e0
  obtain ⟨x, rfl, hx⟩ := hxs.one
  cases d <;> first | (cases e; done) | simp only [blt1] at e
  · cases e
    obtain rfl := hx.bl
    exact call_int1 pins s σ H _ us Q I r (.inr ⟨_, rfl, hr.d hs _ (.int _)⟩)
  · cases e
    obtain rfl := hx.int
    exact call_int1 pins s σ H _ us Q I r (.inl ⟨_, rfl, hr.d hs _ (.int _)⟩)
theorem b_ord : CallR X (.builtin "ord") (rBlt X.K .ord) := by
  intro pins s σ H xs us Q I r ⟨F, ds, w, hs, hxs, e, hr⟩
  obtain ⟨d, rfl, e0⟩ := d1 e (by decide)
  replace e := e0
  obtain ⟨x, rfl, hx⟩ := hxs.one
  cases d with
  | str l =>
    rcases l with _ | ⟨c, _ | ⟨c2, l⟩⟩
    · cases e
    · cases e
      obtain ⟨a, rfl, ea, oa⟩ := hx.str
      rw [str_one ea] at r
      exact call_ord pins s σ H _ us Q I r ⟨_, rfl, rfl, hr.d hs _ (.int _)⟩
    · cases e
  | _ => cases e
theorem b_min (hc : X.calm = true) (hu : X.A.units + 100 < cLine) : CallR X (.builtin "min") (rBlt X.K .min) := by
  intro pins s σ H xs us Q I r ⟨F, ds, w, hs, hxs, e, hr⟩
  rcases d2 e with ⟨d, rfl, e0⟩ | ⟨d, d', rfl, e0⟩ <;> replace e := e0
  · obtain ⟨x, rfl, hx⟩ := hxs.one
    cases d <;> first | (cases e; done) | simp only [blt1] at e
    obtain ⟨a, vs, rfl, ga, ra⟩ := hx.list hs
    split at e
    · rename_i i l ei
      cases e
      rw [ints_vs ra ei] at ga
      refine cr_min hc pins s σ H _ us Q I r ⟨a, _, rfl, ga, by simp, fun m hm hle => ?_⟩
      have em : m = minL i l := by
        have h1 := minL_le l i
        have h2 : m ≤ minL i l := by
          rcases minL_mem l i with h | h
          · rw [h]; exact hle i List.mem_cons_self
          · exact hle _ (List.mem_cons_of_mem _ h)
        rcases List.mem_cons.mp hm with h | h
        · omega
        · have := h1.2 m h; omega
      rw [em]; exact hr.d hs _ (.int _)
    · cases e
  · obtain ⟨x, y, rfl, hx, hy⟩ := hxs.two
    cases d <;> first | (cases e; done) | skip
    · cases d' <;> first | (cases e; done) | skip
      cases e
      obtain rfl := hx.int
      obtain rfl := hy.int
      exact call_min2 hc pins s σ H _ us Q I r ⟨_, _, rfl, hr.d hs _ (.int _)⟩
    · cases d' <;> first | (cases e; done) | skip
      simp only [blt2, Option.bind_eq_some_iff, Option.some.injEq] at e
      obtain ⟨ns, e1, ms, e2, rfl⟩ := e
      obtain ⟨a, vs, rfl, ga, fa, ra⟩ := hx.tup hs
      obtain ⟨b, ws, rfl, gb, fb, rb⟩ := hy.tup hs
      have ga' := ga
      have gb' := gb
      rw [ints_vs ra e1] at ga'
      rw [ints_vs rb e2] at gb'
      refine call_min2T hc hu pins s σ H _ us Q I r ⟨a, b, ns, ms, rfl, ga', gb', hr.d hs _ ?_⟩
      cases lexLt ms ns
      · exact .tup fa ra
      · exact .tup fb rb
theorem b_max (hc : X.calm = true) (hu : X.A.units + 100 < cLine) : CallR X (.builtin "max") (rBlt X.K .max) := by
  intro pins s σ H xs us Q I r ⟨F, ds, w, hs, hxs, e, hr⟩
  rcases d2 e with ⟨d, rfl, e0⟩ | ⟨d, d', rfl, e0⟩ <;> replace e := e0
  · obtain ⟨x, rfl, hx⟩ := hxs.one
    cases d <;> first | (cases e; done) | simp only [blt1] at e
    obtain ⟨a, vs, rfl, ga, ra⟩ := hx.list hs
    split at e
    · rename_i i l ei
      cases e
      rw [ints_vs ra ei] at ga
      refine cr_max hc pins s σ H _ us Q I r ⟨a, _, rfl, ga, by simp, fun m hm hle => ?_⟩
      have em : m = maxL i l := by
        have h1 := maxL_le l i
        have h2 : maxL i l ≤ m := by
          rcases maxL_mem l i with h | h
          · rw [h]; exact hle i List.mem_cons_self
          · exact hle _ (List.mem_cons_of_mem _ h)
        rcases List.mem_cons.mp hm with h | h
        · omega
        · have := h1.2 m h; omega
      rw [em]; exact hr.d hs _ (.int _)
    · cases e
  · obtain ⟨x, y, rfl, hx, hy⟩ := hxs.two
    cases d <;> first | (cases e; done) | skip
    · cases d' <;> first | (cases e; done) | skip
      cases e
      obtain rfl := hx.int
      obtain rfl := hy.int
      exact call_max2 hc pins s σ H _ us Q I r ⟨_, _, rfl, hr.d hs _ (.int _)⟩
    · cases d' <;> first | (cases e; done) | skip
      simp only [blt2, Option.bind_eq_some_iff, Option.some.injEq] at e
      obtain ⟨ns, e1, ms, e2, rfl⟩ := e
      obtain ⟨a, vs, rfl, ga, fa, ra⟩ := hx.tup hs
      obtain ⟨b, ws, rfl, gb, fb, rb⟩ := hy.tup hs
      have ga' := ga
      have gb' := gb
      rw [ints_vs ra e1] at ga'
      rw [ints_vs rb e2] at gb'
      refine call_max2T hc hu pins s σ H _ us Q I r ⟨a, b, ns, ms, rfl, ga', gb', hr.d hs _ ?_⟩
      cases lexLt ns ms
      · exact .tup fa ra
      · exact .tup fb rb
theorem b_tuple : CallR X (.type "tuple") (rBlt X.K .tuple) := by
  intro pins s σ H xs us Q I r ⟨F, ds, w, hs, hxs, e, hr⟩
  obtain ⟨d, rfl, e0⟩ := d1 e (by decide)
  replace e := e0
  obtain ⟨x, rfl, hx⟩ := hxs.one
  cases d <;> first | (cases e; done) | simp only [blt1] at e
  · cases e
    obtain ⟨a, vs, rfl, ga, fa, ra⟩ := hx.tup hs
    exact call_tuple_of pins s σ H _ us Q I r ⟨a, vs, rfl, .inr ⟨ga, hr.d hs _ (.tup fa ra)⟩⟩
  · cases e
    obtain ⟨a, vs, rfl, ga, ra⟩ := hx.list hs
    exact call_tuple_of pins s σ H _ us Q I r ⟨a, vs, rfl, .inl ⟨ga, hr.newT hs ra⟩⟩
theorem b_list : CallR X (.type "list") (rBlt X.K .list) := by
  intro pins s σ H xs us Q I r ⟨F, ds, w, hs, hxs, e, hr⟩
  obtain ⟨d, rfl, e0⟩ := d1 e (by decide)
  replace e := e0
  obtain ⟨x, rfl, hx⟩ := hxs.one
  cases d <;> first | (cases e; done) | simp only [blt1] at e
  · cases e
    obtain ⟨a, vs, rfl, ga, fa, ra⟩ := hx.tup hs
    exact call_list_of pins s σ H _ us Q I r ⟨a, vs, rfl, .inr ga, hr.newL hs ra⟩
  · cases e
    obtain ⟨a, vs, rfl, ga, ra⟩ := hx.list hs
    exact call_list_of pins s σ H _ us Q I r ⟨a, vs, rfl, .inl ga, hr.newL hs ra⟩
theorem b_all (hc : X.calm = true) : CallR X (.builtin "all") (rBlt X.K .all) := by
  intro pins s σ H xs us Q I r ⟨F, ds, w, hs, hxs, e, hr⟩
  obtain ⟨d, rfl, e0⟩ := d1 e (by decide)
  replace e := e0
  obtain ⟨x, rfl, hx⟩ := hxs.one
  cases d <;> first | (cases e; done) | simp only [blt1] at e
  obtain ⟨bs, e1, rfl⟩ := Option.map_eq_some_iff.mp e
  obtain ⟨a, vs, rfl, ga, ra⟩ := hx.list hs
  rw [bools_vs ra e1] at ga
  exact cr_all hc pins s σ H _ us Q I r ⟨a, bs, rfl, ga, hr.d hs _ (.bl _)⟩
theorem b_any (hc : X.calm = true) : CallR X (.builtin "any") (rBlt X.K .any) := by
  intro pins s σ H xs us Q I r ⟨F, ds, w, hs, hxs, e, hr⟩
  obtain ⟨d, rfl, e0⟩ := d1 e (by decide)
  replace e := e0
  obtain ⟨x, rfl, hx⟩ := hxs.one
  cases d <;> first | (cases e; done) | simp only [blt1] at e
  obtain ⟨bs, e1, rfl⟩ := Option.map_eq_some_iff.mp e
  obtain ⟨a, vs, rfl, ga, ra⟩ := hx.list hs
  rw [bools_vs ra e1] at ga
  exact cr_any hc pins s σ H _ us Q I r ⟨a, bs, rfl, ga, hr.d hs _ (.bl _)⟩
theorem b_sum (hc : X.calm = true) : CallR X (.builtin "sum") (rBlt X.K .sum) := by
  intro pins s σ H xs us Q I r ⟨F, ds, w, hs, hxs, e, hr⟩
  obtain ⟨d, rfl, e0⟩ := d1 e (by decide)
  replace e := e0
  obtain ⟨x, rfl, hx⟩ := hxs.one
  cases d <;> first | (cases e; done) | simp only [blt1] at e
  obtain ⟨ns, e1, rfl⟩ := Option.map_eq_some_iff.mp e
  obtain ⟨a, vs, rfl, ga, ra⟩ := hx.list hs
  rw [ints_vs ra e1] at ga
  exact cr_sum hc pins s σ H _ us Q I r ⟨a, ns, rfl, ga, hr.d hs _ (.int _)⟩
theorem insI_perm (x : Int) : ∀ l, (insI x l).Perm (x :: l)
  | [] => .refl _
  | y :: r => by
    unfold insI
    split
    · exact .refl _
    · exact ((insI_perm x r).cons y).trans (.swap x y r)
theorem sortI_perm : ∀ l, (sortI l).Perm l
  | [] => .refl _
  | x :: r => (insI_perm x _).trans ((sortI_perm r).cons x)
theorem insI_sorted (x : Int) : ∀ l, l.Pairwise (· ≤ ·) → (insI x l).Pairwise (· ≤ ·)
  | [], _ => List.pairwise_singleton _ _
  | y :: r, h => by
    unfold insI
    have h2 := List.pairwise_cons.mp h
    split
    · rename_i hxy
      refine List.pairwise_cons.mpr ⟨fun z hz => ?_, h⟩
      rcases List.mem_cons.mp hz with rfl | hz
      · exact hxy
      · have := h2.1 z hz; omega
    · rename_i hxy
      refine List.pairwise_cons.mpr ⟨fun z hz => ?_, insI_sorted x r h2.2⟩
      rcases List.mem_cons.mp ((insI_perm x r).mem_iff.mp hz) with rfl | hz
      · omega
      · exact h2.1 z hz
theorem sortI_sorted : ∀ l, (sortI l).Pairwise (· ≤ ·)
  | [] => .nil
  | x :: r => insI_sorted x _ (sortI_sorted r)
theorem sorted_uniq {a b : List Int} (h : a.Perm b) (ha : a.Pairwise (· ≤ ·)) (hb : b.Pairwise (· ≤ ·)) : a = b :=
  h.eq_of_pairwise (fun x y _ _ h1 h2 => Int.le_antisymm h1 h2) ha hb
theorem ints_rep {K : Fg} {F : Hp} : ∀ ns : List Int, Reps K F (ns.map V.int) (ns.map D.int)
  | [] => .nil
  | n :: r => .cons (.int n) (ints_rep r)
theorem b_sorted : CallR X (.builtin "sorted") (rBlt X.K .sorted) := by
  intro pins s σ H xs us Q I r ⟨F, ds, w, hs, hxs, e, hr⟩
  obtain ⟨d, rfl, e0⟩ := d1 e (by decide)
  replace e := e0
  obtain ⟨x, rfl, hx⟩ := hxs.one
  cases d <;> first | (cases e; done) | simp only [blt1] at e
  obtain ⟨ns, e1, rfl⟩ := Option.map_eq_some_iff.mp e
  obtain ⟨a, vs, rfl, ga, ra⟩ := hx.list hs
  rw [ints_vs ra e1] at ga
  refine cr_sortedI pins s σ H _ us Q I r ⟨a, ns, rfl, ga, fun ns' p hp hsr hn => ?_⟩
  rw [sorted_uniq (hp.trans (sortI_perm ns).symm) hsr (sortI_sorted ns)]
  exact hr.newL hs (ints_rep _) p hn
/-- isinstance -/
def tyVal : Ty → String
  | .int => "int" | .bool => "bool" | .str => "str" | .tup => "tuple" | .lst => "list"
def rIsiE (K : Fg) (t : Ty) : List V → Hp → VK → Prop := fun xs H Q => ∃ F x d b, xs = [x, .ty (tyVal t)] ∧ Same F H ∧ Rdb K F H x d ∧ isiD d t = some b ∧ Q (.bl b) H
theorem b_isi {t : Ty} : CallR X (.builtin "isinstance") (rIsiE X.K t) := by
  intro pins s σ H xs us Q I r h
  obtain ⟨F, x, d, b, rfl, hs, hx, e, q⟩ := h
  have go : ∀ (y : V) (n : String), TyX X.K H y (.type n) → Vals [y, .ty (tyVal t)] us → kitB n (tyVal t) = some b → wpAny (model X.prog X.w) X.A (call (.builtin "isinstance") us) (EP X pins σ Q) X.xe s :=
    fun y n h r k => call_isi pins s σ H [y, .ty (tyVal t)] us Q I r ⟨y, .ty (tyVal t), .type n, .type (tyVal t), b, rfl, .ty _, h, kit_ty k, q⟩
  cases d <;> first | (cases t <;> cases e; done) | skip
  · obtain rfl := hx.non
    refine go _ _ (.base .non) r ?_
    cases t <;> cases e <;> decide +kernel
  · obtain rfl := hx.bl
    refine go _ _ (.base (.bl _)) r ?_
    cases t <;> cases e <;> decide +kernel
  · obtain rfl := hx.int
    refine go _ _ (.base (.int _)) r ?_
    cases t <;> cases e <;> decide +kernel
  · obtain ⟨a, rfl, _, _⟩ := hx.str
    refine go _ _ (.base (.str _)) r ?_
    cases t <;> cases e <;> decide +kernel
  · obtain ⟨a, vs, rfl, ga, fa, ra⟩ := hx.tup hs
    have ht : TyX X.K H (.ref a) (.type "tuple") := by
      rcases ga with (ga | ⟨o, ga⟩) | ⟨o, its, n, k1, k2, _⟩
      · exact .base (.tup ga)
      · exact .fTuple ga
      · exact .kTuple k1 k2
    refine go _ _ ht r ?_
    cases t <;> cases e <;> decide +kernel
  · obtain ⟨a, vs, rfl, ga, ra⟩ := hx.list hs
    have ht : TyX X.K H (.ref a) (.type "list") := by
      rcases ga with (ga | ⟨o, ga⟩) | ⟨o, its, n, k1, k2, _⟩
      · exact .base (.lst ga)
      · exact .base (.frz ga)
      · exact .kList k1 k2
    refine go _ _ ht r ?_
    cases t <;> cases e <;> decide +kernel
end
end Ev
end
section
set_option maxRecDepth 100000
set_option maxHeartbeats 1000000
/-! Ev5b: a tuple turned round. -/
namespace Ev
open PySem L2 PyProof.Rows
section
variable {prog : Program} {w : World} {A : Around} {E : Value → Shared → Prop} {s : Shared}
theorem adjust_rev (n : Nat) : Builtin.Slice.sliceAdjust none none (-1) (n : Int) = ((n : Int) - 1, -1) := by
  have h1 : ((-1 : Int) < 0) := by omega
  unfold Builtin.Slice.sliceAdjust
  simp only [h1, if_true]
theorem places_rev (n : Nat) : Builtin.Slice.slicePlaces ((n : Int) - 1) (-1) (-1) = n := by
  unfold Builtin.Slice.slicePlaces
  have h1 : ¬ ((-1 : Int) > 0) := by omega
  simp only [h1, if_false]
  have h2 : (-(-1 : Int)) = 1 := by omega
  rw [h2, Int.ediv_one]
  split <;> omega
theorem fm_map {α β : Type} {f : α → Option β} {g : α → β} : ∀ l : List α, (∀ m ∈ l, f m = some (g m)) → l.filterMap f = l.map g
  | [], _ => rfl
  | x :: l, h => by
    rw [List.filterMap_cons, h x List.mem_cons_self, List.map_cons, fm_map l fun m hm => h m (List.mem_cons_of_mem _ hm)]
theorem pick_rev (xs : Array Value) : ((List.range xs.size).filterMap fun (m : Nat) => xs[(((xs.size : Nat) : Int) - 1 + (m : Int) * -1).toNat]?).toArray = xs.toList.reverse.toArray := by
  congr 1
  apply List.ext_getElem?
  intro i
  have e : (List.range xs.size).filterMap (fun (m : Nat) => xs[(((xs.size : Nat) : Int) - 1 + (m : Int) * -1).toNat]?) = (List.range xs.size).map fun m => xs.toList.reverse.getD m default := by
    refine fm_map _ fun m hm => ?_
    have hm := List.mem_range.mp hm
    have e1 : (((xs.size : Nat) : Int) - 1 + (m : Int) * -1).toNat = xs.size - 1 - m := by omega
    have h2 : xs.size - 1 - m < xs.size := by omega
    rw [e1, Array.getElem?_eq_getElem h2]
    have h3 : m < xs.toList.reverse.length := by simpa using hm
    simp only [List.getD_eq_getElem?_getD]
    rw [List.getElem?_eq_getElem h3, List.getElem_reverse]
    simp
  rw [e, List.getElem?_map]
  by_cases hi : i < xs.size
  · have h3 : i < xs.toList.reverse.length := by simpa using hi
    rw [List.getElem?_range hi, List.getElem?_eq_getElem h3]
    simp only [Option.map_some, List.getD_eq_getElem?_getD, List.getElem?_eq_getElem h3, Option.getD_some]
  · rw [List.getElem?_eq_none (by simp; omega), List.getElem?_eq_none (by simp; omega)]
    rfl
theorem sliceApplied_rev {sl : Addr} {vl vu vs : Value} {n : Nat} {Q : Int × Int × Nat → Shared → Prop} (hs : s.heap.IsSliceOf sl vl vu vs) (pl : IsPart vl none) (pu : IsPart vu none) (ps : IsPart vs (some (-1)))
    (h : Q ((n : Int) - 1, -1, n) s) : wpAny (model prog w) A (Builtin.Slice.sliceApplied (.ref sl) (pure (n : Int))) Q E s := by
  obtain ⟨os, hos, hcs, hds⟩ := id hs
  unfold Builtin.Slice.sliceApplied Builtin.Slice.sliceFields
  refine wpAny_bind (wpAny_bind (wpAny_field hos hds (x := vl) rfl (wpAny_bind (wpAny_field hos hds (x := vu) rfl (wpAny_bind (wpAny_field hos hds (x := vs) rfl (wpAny_pure ?_)))))))
  refine wpAny_bind (HT.slicePart_ ps ?_)
  show wpAny _ _ (if ((-1 : Int) == 0) = true then _ else _) _ _ s
  rw [if_neg (by decide)]
  refine wpAny_bind (HT.slicePart_ pl (wpAny_bind (HT.slicePart_ pu (wpAny_bind (wpAny_pure ?_)))))
  show wpAny _ _ (match Builtin.Slice.sliceAdjust none none (-1) (n : Int) with | (lo, hi) => pure (lo, (-1 : Int), Builtin.Slice.slicePlaces lo hi (-1))) _ _ s
  rw [adjust_rev n]
  show wpAny _ _ (pure ((n : Int) - 1, (-1 : Int), Builtin.Slice.slicePlaces ((n : Int) - 1) (-1) (-1))) _ _ s
  rw [places_rev]
  exact wpAny_pure h
theorem getItem_tuple_rev {t sl : Addr} {items : Array Value} {vl vu vs : Value} {Q : Value → Shared → Prop} (ht : IsTup s.heap t items) (hs : s.heap.IsSliceOf sl vl vu vs) (pl : IsPart vl none) (pu : IsPart vu none) (ps : IsPart vs (some (-1)))
    (h : Q (.ref s.heap.objs.size) { s with heap := s.heap.push { cls := .type "tuple", data := .seq items.toList.reverse.toArray } })
    (hsz : items.size ≤ sizeLine) : wpAny (model prog w) A (getItem (.ref t) (.ref sl)) Q E s := by
  have htake : sizeOk (.seq items.toList.reverse.toArray) := by
    show items.toList.reverse.toArray.size ≤ sizeLine
    rw [List.size_toArray, List.length_reverse, Array.length_toList]
    exact hsz
  obtain ⟨os, hos, hcs, hds⟩ := id hs
  have hTs : s.TypeIs (.ref sl) "slice" := ⟨os, hos, hcs⟩
  unfold getItem
  try with_reducible refine wpAny_holding ?_
  first | refine wpAny_bind (wpAny_pure ?_) | skip
  refine wpAny_bind (wpAny_sequenceKey ht.typeIs (by decide) ?_)
  refine wpAny_bind (wpAny_callSpecial?_slot (name := Str.ofString "__getitem__") ht.typeIs PyProof.Rows.slot_tuple_getitem
    (wpAny_call_entry PyProof.Rows.slot_tuple_getitem ht.typeIs entry_tuple_getitem ?_ (args_tuple_getitem _ _)))
  show wpAny _ _ (Builtin.Tuple.tupleItemsOf (.ref t) >>= _) _ _ s
  refine wpAny_bind (tupleItemsOf_ ht ?_)
  refine wpAny_bind (wpAny_typeOf hTs ?_)
  rw [if_pos (by decide)]
  refine wpAny_bind (sliceApplied_rev hs pl pu ps ?_)
  have hno : ¬ ((((items.size : Int) - 1) == 0 && (-1 : Int) == 1 && items.size == items.size) = true) := by
    intro q
    rw [Bool.and_eq_true, Bool.and_eq_true] at q
    exact absurd q.1.2 (by decide)
  show wpAny _ _ (if (((items.size : Int) - 1) == 0 && (-1 : Int) == 1 && items.size == items.size) = true then _ else _) _ _ s
  rw [if_neg hno, pick_rev]
  first
    | exact wpAny_bind (m := Builtin.Tuple.tupleExact _) (wpAny_newObj_type (wpAny_pure ⟨_, rfl, wpAny_pure h⟩) htake)
    | exact wpAny_bind (m := Builtin.Tuple.tupleExact _) (wpAny_newObj_type (wpAny_bind (wpAny_pure (wpAny_pure ⟨_, rfl, wpAny_pure h⟩))) htake)
    | exact wpAny_bind (wpAny_bind (m := Builtin.Tuple.tupleExact _) (wpAny_newObj_type (wpAny_pure (wpAny_pure ⟨_, rfl, wpAny_pure h⟩)) htake))
    | exact wpAny_bind (wpAny_bind (m := Builtin.Tuple.tupleExact _) (wpAny_newObj_type (wpAny_pure ⟨_, rfl, wpAny_pure h⟩) htake))
end
section
variable {X : Cx}
/-- t[::-1] -/
def tRevT (K : PySem.W.Frag) (te : TE) : TE := fun σ H Q => te σ H fun x H1 => ∃ a xs, x = .ref a ∧ SqT K H1 a xs ∧ ∀ p, H1 p = none → Q (.ref p) (upd H1 p (.tup xs.reverse))
theorem pe_revT {e : Expr} {te : TE} {k : Nat} {p1 p2 p3 pos : Pos} (he : PE X e te) : PE X (.Subscript e (.Slice none none (some (.UnaryOp .USub (.Constant (.int 1) k p1) p2)) p3) pos) (tRevT X.K te) := by
  refine ⟨fun pins s σ H Q I h => ?_⟩
  refine Subscript_ (thn (he.run pins s σ H _ I h) fun v s1 ⟨x, H1, I1, r1, q1⟩ => ?_)
  obtain ⟨a, xs, ex, hx, q⟩ := q1
  subst ex
  cases r1
  have hst : PO X (some (.UnaryOp .USub (.Constant (.int 1) k p1) p2)) (tPart (tUn (rU fun i => .int (-i)) (tC (.int 1)))) := po_some (pe_un un_neg pe_int)
  refine wpAny_Slice (thn (po_none.run pins s1 σ H1 (fun o H2 => o = none ∧ H2 = H1) I1 ⟨rfl, rfl⟩) fun vl s2 ⟨l, H2, I2, pl, el, e2⟩ => ?_)
  subst el e2
  refine thn (po_none.run pins s2 σ H2 (fun o H3 => o = none ∧ H3 = H2) I2 ⟨rfl, rfl⟩) fun vu s3 ⟨u, H3, I3, pu, eu, e3⟩ => ?_
  subst eu e3
  refine thn (hst.run pins s3 σ H3 (fun o H4 => o = some (-1) ∧ H4 = H3) I3 ⟨1, rfl, -1, rfl, rfl, rfl⟩) fun vs s4 ⟨o, H4, I4, ps, eo, e4⟩ => ?_
  subst eo e4
  have I5 : Inv X pins σ H4 { s4 with heap := s4.heap.push { cls := .type "slice", data := .fields #[vl, vu, vs] } } := I4.kept (t' := s4.toks) fun b ob q => Heap.get?_push_of_some _ q
  obtain ⟨its, r, ht, hz⟩ := I5.tuple hx
  have hlen := r.length
  show wpAny (model X.prog X.w) X.A (subscriptTail e (.Slice none none (some (.UnaryOp .USub (.Constant (.int 1) k p1) p2)) p3) (.ref a) (.ref s4.heap.objs.size)) (EP X pins σ Q) X.xe { s4 with heap := s4.heap.push { cls := .type "slice", data := .fields #[vl, vu, vs] } }
  refine tail_any (ops := [.ref a, .ref s4.heap.objs.size]) ht.typeIs PyProof.Rows.slot_tuple_getitem.lookup ?_ (by with_unfolding_all rfl)
  refine getItem_tuple_rev ht (Heap.IsSliceOf.new _ vl vu vs) pl pu ps ?_ (by rw [List.size_toArray]; omega)
  refine ⟨.ref _, _, I5.laid (t' := s4.toks) (o := .tup xs.reverse) (fun b ob q => Heap.get?_push_of_some _ q) (Nat.le_refl _) ?_, rfl, q _ (I5.hok.fresh (Nat.le_refl _))⟩
  exact ⟨by rw [List.length_reverse]; exact hz, _, r.reverse, IsTup.new _ _⟩
end
end Ev
end
section
set_option maxRecDepth 100000
set_option maxHeartbeats 1000000
/-! Ev6: expressions keep what the readings say. -/
namespace Ev
open PySem L2

def ResX (K : Fg) (F H : Hp) (x : Xc) (E : XK) : Prop :=
  ∀ cls d F' H', Grow K H H' → Same F F' → Same F' H' → (∀ a o, F' a = some o → F a = some o ∨ Nw H a) → XOk K F' H' cls d x → E cls d H'
/-- a function's promise -/
def spC (K : Fg) (call : CallT) (g : Nat) : Sp := fun vs H Q E => ∃ F ds s, Same F H ∧ GoodT K H ∧ Reps K F vs ds ∧ (match call g ds s with
  | .st => False
  | .ok v _ => Res K F H v.vl Q
  | .ex x _ => ResX K F H x E)
structure FOk (L : Lk) (call : CallT) (X : Cx) (g : Nat) : Prop where
  ok : ∃ f fd ps k, FnOk X.prog X.w X.K X.mg X.base (L2.CX X.prog X.w) k f fd ps (spC X.K call g) ∧ Room k X.A ∧ X.mg (L.fn g) = some (.ref f) ∧ PySem.W.keepIn X.K (.ref f) = true ∧ Binds X.K fd ps []
/-- no exception comes -/
abbrev noE : XK := fun _ _ _ => False
structure F2Ok (L : Lk) (call : CallT) (X : Cx) (g : Nat) (x y : PySem.Str) : Prop where
  ok : ∃ f1 fd1 ps1 k1 sp1 f2 fd2 ps2 k2 sp2, (FnOk X.prog X.w X.K X.mg X.base (L2.CX X.prog X.w) k1 f1 fd1 ps1 sp1 ∧ Room k1 X.A ∧ X.mg y = some (.ref f1) ∧ PySem.W.keepIn X.K (.ref f1) = true ∧ Binds X.K fd1 ps1 []) ∧
    (FnOk X.prog X.w X.K X.mg X.base (L2.CX X.prog X.w) k2 f2 fd2 ps2 sp2 ∧ Room k2 X.A ∧ X.mg x = some (.ref f2) ∧ PySem.W.keepIn X.K (.ref f2) = true ∧ Binds X.K fd2 ps2 []) ∧
    ∀ us H Q E, spC X.K call g us H Q E → sp1 us H (fun v H1 => sp2 [v] H1 Q noE) noE
structure Fns (L : Lk) (P : Pg) (call : CallT) (X : Cx) : Prop where
  fns : ∀ g, L.hf g = true → FOk L call X g
  c2 : ∀ g x y, L.c2 g = some (x, y) → F2Ok L call X g x y

section
variable {K : Fg} {W : WX} {σ : L2.St} {F H F₁ H₁ F' H' : Hp} {c c₁ c' : C} {α : Nat → Addr} {ρ ρ' : List Sl}
/-- a step that only makes -/
theorem Wf.res (w : Wf K F H σ ρ α) (hs : Grow K H H') (fs : Same F F') (s' : Same F' H') (new : ∀ a o, F' a = some o → F a = some o ∨ Nw H a) : Wf K F' H' σ ρ α ∧ Tr K ρ ρ α F H F' H' := by
  refine ⟨⟨s', w.gt.tabs hs.tabs, w.len, fun i => ?_, w.inj⟩, ⟨hs, fs, fun a o q => (new a o q).elim .inl fun z => .inr (.inl z), fun _ _ q => q, fun _ _ q => .inl q⟩⟩
  have k := w.slot i
  cases e : getS ρ i with
  | no => trivial
  | dat x =>
    rw [e] at k
    obtain ⟨v, k1, k2⟩ := k
    exact ⟨v, k1, k2.mono fs⟩
  | own x =>
    rw [e] at k
    obtain ⟨k1, k2, k3⟩ := k
    obtain ⟨xs0, vs0, _, q, _⟩ := k3.ls
    refine ⟨k1, ?_, k3.mono fs (by rw [q]; exact hs _ _ q)⟩
    cases z : F' (α i) with
    | none => rfl
    | some p =>
      rcases new _ p z with y | y
      · rw [k2] at y; cases y
      · exact (y.no q).elim
theorem ROk.vok {u : V} {v : Vl} {H₀ : Hp} (hs : Same H₀ H) (h : ROk K F' H' H u v) : VOk K H₀ F' H' σ ρ α u v := by
  cases v with
  | d x => exact h
  | tmp x =>
    obtain ⟨a, e, h0, hf, ho⟩ := h
    exact ⟨a, e, hs.free h0, hf, ho⟩
  | bor i x => exact False.elim h
theorem res_of {Q : VK} {v : Vl} (p : PV K σ F H c α Q v c₁) (w : Wf K F₁ H₁ σ c₁.env α) (t : Tr K c.env c₁.env α F H F₁ H₁) : Res K F₁ H₁ v Q := by
  intro u F' H' hs fs s' new r
  obtain ⟨w', t'⟩ := w.res hs fs s' new
  exact p u F' H' w' (t.trans t') (r.vok t.same)
/-- a sub-expression, from a state on the way -/
theorem sn {r : C → R Vl} {β : Type} {k : Vl → C → R β} {okP : β → C → Prop} {R' : V → Hp → Prop} (w : Wf K F₁ H₁ σ c₁.env α) (t : Tr K c.env c₁.env α F H F₁ H₁)
    (h : WpR ((r c₁).bind k) okP (PX K W σ F H c α))
    (go : ∀ v c₂ u F₂ H₂, Wf K F₂ H₂ σ c₂.env α → Tr K c₁.env c₂.env α F₁ H₁ F₂ H₂ → VOk K H₁ F₂ H₂ σ c₂.env α u v → WpR (k v c₂) okP (PX K W σ F H c α) → R' u H₂) :
    tV K W r σ H₁ R' :=
  ⟨F₁, c₁, α, w, h.bind.mono (fun v c₂ hk u F₂ H₂ w₂ t₂ v₂ => go v c₂ u F₂ H₂ w₂ t₂ v₂ hk) fun _ _ hq => hq.on t⟩
theorem snT {r : C → R Bool} {β : Type} {k : Bool → C → R β} {okP : β → C → Prop} {R' : Bool → Hp → Prop} (w : Wf K F₁ H₁ σ c₁.env α) (t : Tr K c.env c₁.env α F H F₁ H₁)
    (h : WpR ((r c₁).bind k) okP (PX K W σ F H c α))
    (go : ∀ b c₂ F₂ H₂, Wf K F₂ H₂ σ c₂.env α → Tr K c₁.env c₂.env α F₁ H₁ F₂ H₂ → WpR (k b c₂) okP (PX K W σ F H c α) → R' b H₂) :
    tTt K W r σ H₁ R' :=
  ⟨F₁, c₁, α, w, h.bind.mono (fun b c₂ hk F₂ H₂ w₂ t₂ => go b c₂ F₂ H₂ w₂ t₂ hk) fun _ _ hq => hq.on t⟩
theorem VOk.on {u : V} {v : Vl} (w : Wf K F H σ c.env α) (t : Tr K c.env c₁.env α F H F₁ H₁) (w₁ : Wf K F₁ H₁ σ c₁.env α) (t₁ : Tr K c₁.env c'.env α F₁ H₁ F' H') (h : VOk K H F₁ H₁ σ c₁.env α u v) : VOk K H F' H' σ c'.env α u v :=
  h.step w₁ t.same (cells w t) t₁
/-- the rest, from a state on the way -/
theorem rest {r : C → R Vl} {Q : VK} (w : Wf K F₁ H₁ σ c₁.env α) (t : Tr K c.env c₁.env α F H F₁ H₁) (h : WpR (r c₁) (PV K σ F H c α Q) (PX K W σ F H c α)) : tV K W r σ H₁ Q :=
  ⟨F₁, c₁, α, w, h.mono (fun v c₂ p u F₂ H₂ w₂ t₂ v₂ => p u F₂ H₂ w₂ (t.trans t₂) (by
    cases v with
    | d x => exact v₂
    | tmp x =>
      obtain ⟨a, e, h0, hf, ho⟩ := v₂
      exact ⟨a, e, t.same.free h0, hf, ho⟩
    | bor i x => exact v₂)) fun _ _ hq => hq.on t⟩
theorem restT {r : C → R Bool} {Q : Bool → Hp → Prop} (w : Wf K F₁ H₁ σ c₁.env α) (t : Tr K c.env c₁.env α F H F₁ H₁) (h : WpR (r c₁) (PB K σ F H c α Q) (PX K W σ F H c α)) : tTt K W r σ H₁ Q :=
  ⟨F₁, c₁, α, w, h.mono (fun v c₂ p F₂ H₂ w₂ t₂ => p F₂ H₂ w₂ (t.trans t₂)) fun _ _ hq => hq.on t⟩
end

section
variable {X : Cx} {W : WX} {L : Lk} {P : Pg} {call : CallT} {a b d : Expr} {ra rb rd : C → R Vl} {pos : Pos}
theorem vis_of {sc : Scope} {x : PySem.Str} (h : visB sc x = true) : Vis sc x := by
  unfold visB at h
  unfold Vis
  split at h <;> simp_all
theorem loc_of {sc : Scope} {x : PySem.Str} (h : locB sc x = true) : L2.Loc sc x := by
  unfold locB at h
  unfold L2.Loc
  split at h <;> simp_all
theorem gl_of {x : PySem.Str} (h : glB X.env.scope x = true) : Gl X x ∧ (x == ("__debug__" : PySem.Str)) = false ∧ x ≠ "__name__" := by
  unfold glB at h
  simp only [Bool.and_eq_true, decide_eq_true_eq, Bool.not_eq_true'] at h
  refine ⟨?_, h.1.2, h.2⟩
  have q := h.1.1
  unfold Gl Env.kindOf
  split at q <;> simp_all
theorem e_var {i : Nat} {x : PySem.Str} (h : varB X.N X.env.scope i x = true) : PE X (.Name x pos) (tV X.K W (rdV i)) := by
  unfold varB at h
  simp only [Bool.and_eq_true, decide_eq_true_eq, Bool.not_eq_true'] at h
  refine pe_mono (pe_var (i := i) h.1.1.1 (vis_of h.1.1.2) h.1.2 h.2) fun σ H Q ⟨F, c, α, w, hw⟩ => ?_
  unfold rdV C.get at hw
  have k := w.slot i
  cases e : getS c.env i with
  | no => rw [e] at hw; exact False.elim hw
  | dat x =>
    rw [e] at hw k
    obtain ⟨v, k1, k2⟩ := k
    exact ⟨v, k1, hw v F H w .refl k2⟩
  | own x =>
    rw [e] at hw k
    obtain ⟨k1, k2, k3⟩ := k
    exact ⟨_, k1, hw _ F H w .refl ⟨rfl, k1, .inl e⟩⟩
theorem e_con {e : Expr} {v : V} {dd : D} (h : PE X e (tC v)) (r : ∀ F, Rep X.K F v dd) : PE X e (tV X.K W fun c => .ok (.d dd) c) :=
  pe_mono h fun σ H Q ⟨F, c, α, w, hw⟩ => hw v F H w .refl (r F)
theorem e_str {x : PySem.Str} {l : List Nat} {k : Nat} (h1 : x.cps.toList = l) (h2 : okS x = true) : PE X (.Constant (.str x) k pos) (tV X.K W fun c => .ok (.d (.str l)) c) := by
  subst h1
  exact e_con pe_str fun F => .str x h2
theorem e_glob (hy : Hyp L P call W X) {g : Nat} {x : PySem.Str} (h : glB X.env.scope x = true) (hc : L.hc g x = true) : PE X (.Name x pos) (tV X.K W fun c => ofO ((P.cs g).map Vl.d) c) := by
  obtain ⟨h1, h2, _⟩ := gl_of h
  cases q : P.cs g with
  | none => exact ⟨fun pins s σ H Q I ⟨F, c, α, w, hw⟩ => False.elim hw⟩
  | some dd =>
    obtain ⟨u, v, m1, m2, m3⟩ := hy.consts g dd x hc q
    exact e_con (pe_glob h1 m1 m2 h2) m3
theorem e_bin {o : BOp} {p : Operator} (hp : bopOk o p = true) (ha : PE X a (tV X.K W ra)) (hb : PE X b (tV X.K W rb)) :
    PE X (.BinOp a p b pos) (tV X.K W fun c => (ra c).bind fun v c => (rb c).bind fun u c => ofO (binD o v.rd u.rd) c) := by
  refine pe_mono (pe_op (o_bin hp) ha hb) fun σ H Q ⟨F, c, α, w, hw⟩ => ?_
  refine sn w .refl hw fun v c1 u1 F1 H1 w1 t1 v1 h1 => ?_
  refine sn w1 t1 h1 fun v' c2 u2 F2 H2 w2 t2 v2 h2 => ?_
  obtain ⟨z, e, hz⟩ := h2.ofO
  exact ⟨F2, _, _, z, w2.sub, (v1.on w t1 w1 t2).rdb w2, v2.rdb w2, e, res_of hz w2 (t1.trans t2)⟩
theorem e_neg (ha : PE X a (tV X.K W ra)) : PE X (.UnaryOp .USub a pos) (tV X.K W fun c => (ra c).bind fun v c => match v.rd with
    | .int i => .ok (.d (.int (-i))) c
    | _ => .st) := by
  refine pe_mono (pe_un un_neg ha) fun σ H Q ⟨F, c, α, w, hw⟩ => ?_
  refine sn w .refl hw fun v c1 u1 F1 H1 w1 t1 v1 h1 => ?_
  have q := v1.rdb w1
  cases e : v.rd with
  | int i =>
    rw [e] at h1 q
    exact ⟨i, q.int, h1 _ F1 H1 w1 t1 (.int _)⟩
  | _ => rw [e] at h1; exact False.elim h1
theorem no_set {b : Expr} {op : CmpOp} (h : ∀ x y z, b ≠ .Set x y z) : behindInMarks op b = false := by
  cases b <;> first | rfl | exact absurd rfl (h _ _ _)
theorem c2 {o : COp} {Q : V → Hp → Prop} {β : Type} {σ : L2.St} {F H : Hp} {c : C} {α : Nat → Addr} {k : Option Bool → C → R β} {okP : β → C → Prop} (w : Wf X.K F H σ c.env α)
    (hw : WpR ((ra c).bind fun v c => (rb c).bind fun u c => k (cmpD o v.rd u.rd) c) okP (PX X.K W σ F H c α))
    (go : ∀ z c2 F2 H2, Wf X.K F2 H2 σ c2.env α → Tr X.K c.env c2.env α F H F2 H2 → WpR (k z c2) okP (PX X.K W σ F H c α) → ∃ t, z = some t ∧ Q (.bl t) H2) : tOp (rCmp X.K o) (tV X.K W ra) (tV X.K W rb) σ H Q := by
  refine sn w .refl hw fun v c1 u1 F1 H1 w1 t1 v1 h1 => ?_
  refine sn w1 t1 h1 fun v' c2 u2 F2 H2 w2 t2 v2 h2 => ?_
  obtain ⟨t, e, q⟩ := go _ c2 F2 H2 w2 (t1.trans t2) h2
  exact ⟨F2, _, _, t, w2.sub, (v1.on w t1 w1 t2).rdb w2, v2.rdb w2, e, q⟩
theorem e_cmp (hy : Hyp L P call W X) {o : COp} {p : CmpOp} (hp : copOk o p = true) (hm : ∀ x y z, b ≠ .Set x y z) (ha : PE X a (tV X.K W ra)) (hb : PE X b (tV X.K W rb)) :
    PE X (.Compare a [p] [b] pos) (tV X.K W fun c => (ra c).bind fun v c => (rb c).bind fun u c => ofO ((cmpD o v.rd u.rd).map fun t => .d (.bl t)) c) := by
  refine pe_mono (pe_cmpR (o_cmp hy.units hp) ha hb (no_set hm)) fun σ H Q ⟨F, c, α, w, hw⟩ => ?_
  refine c2 (k := fun z c => ofO (z.map fun t => Vl.d (.bl t)) c) w hw fun z c2 F2 H2 w2 t2 h2 => ?_
  obtain ⟨y, e, q⟩ := h2.ofO
  obtain ⟨t, e1, rfl⟩ := Option.map_eq_some_iff.mp e
  exact ⟨t, e1, q _ F2 H2 w2 t2 (.bl _)⟩
theorem t_cmp (hy : Hyp L P call W X) {o : COp} {p : CmpOp} (hp : copOk o p = true) (hm : ∀ x y z, b ≠ .Set x y z) (ha : PE X a (tV X.K W ra)) (hb : PE X b (tV X.K W rb)) :
    PT X (.Compare a [p] [b] pos) (tTt X.K W fun c => (ra c).bind fun v c => (rb c).bind fun u c => ofO (cmpD o v.rd u.rd) c) := by
  refine pt_mono (pt_cmpR (o_cmp hy.units hp) ha hb (no_set hm)) fun σ H Q ⟨F, c, α, w, hw⟩ => ?_
  refine c2 (k := fun z c => ofO z c) w hw fun z c2 F2 H2 w2 t2 h2 => ?_
  obtain ⟨y, e, q⟩ := h2.ofO
  exact ⟨y, e, y, rfl, q F2 H2 w2 t2⟩
theorem c3 {o p : COp} {Q : V → Hp → Prop} {β : Type} {σ : L2.St} {F H : Hp} {c : C} {α : Nat → Addr} {kt : Bool → β} {okP : β → C → Prop} (w : Wf X.K F H σ c.env α)
    (hw : WpR ((ra c).bind fun v c => (rb c).bind fun u c => (ofO (cmpD o v.rd u.rd) c).bind fun t c => if t then (rd c).bind fun z c => ofO ((cmpD p u.rd z.rd).map kt) c else .ok (kt false) c) okP (PX X.K W σ F H c α))
    (go : ∀ t c2 F2 H2, Wf X.K F2 H2 σ c2.env α → Tr X.K c.env c2.env α F H F2 H2 → okP (kt t) c2 → Q (.bl t) H2) : tChain (rCmp X.K o) (rCmp X.K p) (tV X.K W ra) (tV X.K W rb) (tV X.K W rd) σ H Q := by
  refine sn w .refl hw fun v c1 u1 F1 H1 w1 t1 v1 h1 => ?_
  refine sn w1 t1 h1 fun v' c2 u2 F2 H2 w2 t2 v2 h2 => ?_
  obtain ⟨t, e, q⟩ := h2.bind.ofO
  refine ⟨F2, _, _, t, w2.sub, (v1.on w t1 w1 t2).rdb w2, v2.rdb w2, e, t, rfl, ?_⟩
  cases t with
  | false =>
    simp only [Bool.false_eq_true, if_false] at q ⊢
    exact go _ c2 F2 H2 w2 (t1.trans t2) q
  | true =>
    simp only [if_true] at q ⊢
    refine sn w2 (t1.trans t2) q fun z c3 u3 F3 H3 w3 t3 v3 h3 => ?_
    obtain ⟨y, e3, q3⟩ := h3.ofO
    obtain ⟨t', e4, rfl⟩ := Option.map_eq_some_iff.mp e3
    have v2' : VOk X.K H F2 H2 σ c2.env α u2 v' := by
      cases v' with
      | d x => exact v2
      | tmp x =>
        obtain ⟨a, e, h0, hf, ho⟩ := v2
        exact ⟨a, e, t1.same.free h0, hf, ho⟩
      | bor i x => exact v2
    exact ⟨F3, _, _, t', w3.sub, (v2'.on w (t1.trans t2) w2 t3).rdb w3, v3.rdb w3, e4, go _ c3 F3 H3 w3 ((t1.trans t2).trans t3) q3⟩
theorem e_chain (hy : Hyp L P call W X) {o o' : COp} {p p' : CmpOp} (hp : copOk o p = true) (hp' : copOk o' p' = true) (hm : ∀ x y z, d ≠ .Set x y z) (ha : PE X a (tV X.K W ra)) (hb : PE X b (tV X.K W rb)) (hd : PE X d (tV X.K W rd)) :
    PE X (.Compare a [p, p'] [b, d] pos) (tV X.K W fun c => (ra c).bind fun v c => (rb c).bind fun u c => (ofO (cmpD o v.rd u.rd) c).bind fun t c =>
      if t then (rd c).bind fun z c => ofO ((cmpD o' u.rd z.rd).map fun t => .d (.bl t)) c else .ok (.d (.bl false)) c) := by
  refine pe_mono (pe_chain (o_cmp hy.units hp) (o_cmp hy.units hp') ha hb hd (no_set hm)) fun σ H Q ⟨F, c, α, w, hw⟩ => ?_
  exact c3 (kt := fun t => Vl.d (.bl t)) (okP := PV X.K σ F H c α Q) w hw fun t c2 F2 H2 w2 t2 q => q _ F2 H2 w2 t2 (.bl _)
theorem opt_id {α : Type} (o : Option α) : o.map (fun t => t) = o := by cases o <;> rfl
theorem t_chain (hy : Hyp L P call W X) {o o' : COp} {p p' : CmpOp} (hp : copOk o p = true) (hp' : copOk o' p' = true) (hm : ∀ x y z, d ≠ .Set x y z) (ha : PE X a (tV X.K W ra)) (hb : PE X b (tV X.K W rb)) (hd : PE X d (tV X.K W rd)) :
    PT X (.Compare a [p, p'] [b, d] pos) (tTt X.K W fun c => (ra c).bind fun v c => (rb c).bind fun u c => (ofO (cmpD o v.rd u.rd) c).bind fun t c =>
      if t then (rd c).bind fun z c => ofO (cmpD o' u.rd z.rd) c else .ok false c) := by
  refine pt_mono (pt_chain (o_cmp hy.units hp) (o_cmp hy.units hp') ha hb hd (no_set hm)) fun σ H Q ⟨F, c, α, w, hw⟩ => ?_
  show tChain _ _ _ _ _ σ H fun x H1 => ∃ k, x = .bl k ∧ Q k H1
  refine c3 (kt := fun t => t) (okP := PB X.K σ F H c α Q) w (by simpa only [opt_id] using hw) fun t c2 F2 H2 w2 t2 q => ⟨t, rfl, q F2 H2 w2 t2⟩
/-! and, or, not -/
theorem e_one {op : BoolOp} {r : C → R Vl} (h : PE X a (tV X.K W r)) : PE X (.BoolOp op [a] pos) (tV X.K W r) := pe_one h
variable {rs : List Expr}
theorem e_and (ha : PE X a (tV X.K W ra)) (hb : PE X (.BoolOp .And (b :: rs) pos) (tV X.K W rb)) :
    PE X (.BoolOp .And (a :: b :: rs) pos) (tV X.K W fun c => (ra c).bind fun v c => match v.rd with
    | .bl true => rb c
    | .bl false => .ok (.d (.bl false)) c
    | _ => .st) := by
  refine pe_mono (pe_and ha hb) fun σ H Q ⟨F, c, α, w, hw⟩ => ?_
  refine sn w .refl hw fun v c1 u1 F1 H1 w1 t1 v1 h1 => ?_
  have q := v1.rdb w1
  cases e : v.rd with
  | bl t =>
    rw [e] at h1 q
    refine ⟨t, q.bl, ?_⟩
    cases t with
    | true => exact rest w1 t1 h1
    | false => exact h1 _ F1 H1 w1 t1 (.bl _)
  | _ => rw [e] at h1; exact False.elim h1
theorem e_or (ha : PE X a (tV X.K W ra)) (hb : PE X (.BoolOp .Or (b :: rs) pos) (tV X.K W rb)) :
    PE X (.BoolOp .Or (a :: b :: rs) pos) (tV X.K W fun c => (ra c).bind fun v c => match v.rd with
    | .bl true => .ok (.d (.bl true)) c
    | .bl false => rb c
    | _ => .st) := by
  refine pe_mono (pe_or ha hb) fun σ H Q ⟨F, c, α, w, hw⟩ => ?_
  refine sn w .refl hw fun v c1 u1 F1 H1 w1 t1 v1 h1 => ?_
  have q := v1.rdb w1
  cases e : v.rd with
  | bl t =>
    rw [e] at h1 q
    refine ⟨t, q.bl, ?_⟩
    cases t with
    | false => exact rest w1 t1 h1
    | true => exact h1 _ F1 H1 w1 t1 (.bl _)
  | _ => rw [e] at h1; exact False.elim h1
theorem e_not (ha : PE X a (tV X.K W ra)) : PE X (.UnaryOp .Not a pos) (tV X.K W fun c => (ra c).bind fun v c => match v.rd with
    | .bl t => .ok (.d (.bl !t)) c
    | _ => .st) := by
  refine pe_mono (pe_not ha) fun σ H Q ⟨F, c, α, w, hw⟩ => ?_
  refine sn w .refl hw fun v c1 u1 F1 H1 w1 t1 v1 h1 => ?_
  have q := v1.rdb w1
  cases e : v.rd with
  | bl t =>
    rw [e] at h1 q
    exact ⟨t, q.bl, h1 _ F1 H1 w1 t1 (.bl _)⟩
  | _ => rw [e] at h1; exact False.elim h1
variable {qa qb qd : C → R Bool}
theorem w_and1 (ha : PT X a (tTt X.K W qa)) : PW X (.BoolOp .And [a] pos) (tTt X.K W qa) := pw_and1 ha
theorem w_or1 (ha : PT X a (tTt X.K W qa)) : PW X (.BoolOp .Or [a] pos) (tTt X.K W qa) := pw_or1 ha
theorem pw_mono {X : Cx} {e : Expr} {t t' : TT} (h : PW X e t) (m : ∀ σ H Q, t' σ H Q → t σ H Q) : PW X e t' := ⟨fun wh pins s σ H Q I q => h.run wh pins s σ H Q I (m σ H Q q)⟩
theorem w_and (ha : PT X a (tTt X.K W qa)) (hb : PW X (.BoolOp .And (b :: rs) pos) (tTt X.K W qb)) :
    PW X (.BoolOp .And (a :: b :: rs) pos) (tTt X.K W fun c => (qa c).bind fun t c => if t then qb c else .ok false c) := by
  refine pw_mono (pw_and ha hb) fun σ H Q ⟨F, c, α, w, hw⟩ => ?_
  refine snT w .refl hw fun t c1 F1 H1 w1 t1 h1 => ?_
  cases t with
  | true => exact restT w1 t1 h1
  | false => exact h1 F1 H1 w1 t1
theorem w_or (ha : PT X a (tTt X.K W qa)) (hb : PW X (.BoolOp .Or (b :: rs) pos) (tTt X.K W qb)) :
    PW X (.BoolOp .Or (a :: b :: rs) pos) (tTt X.K W fun c => (qa c).bind fun t c => if t then .ok true c else qb c) := by
  refine pw_mono (pw_or ha hb) fun σ H Q ⟨F, c, α, w, hw⟩ => ?_
  refine snT w .refl hw fun t c1 F1 H1 w1 t1 h1 => ?_
  cases t with
  | false => exact restT w1 t1 h1
  | true => exact h1 F1 H1 w1 t1
theorem t_not (ha : PT X a (tTt X.K W qa)) : PT X (.UnaryOp .Not a pos) (tTt X.K W fun c => (qa c).bind fun t c => .ok (!t) c) := by
  refine pt_mono (pt_not ha) fun σ H Q ⟨F, c, α, w, hw⟩ => ?_
  exact snT w .refl hw fun t c1 F1 H1 w1 t1 h1 => h1 F1 H1 w1 t1
theorem e_ite (hc : PT X d (tTt X.K W qd)) (ha : PE X a (tV X.K W ra)) (hb : PE X b (tV X.K W rb)) :
    PE X (.IfExp d a b pos) (tV X.K W fun c => (qd c).bind fun t c => if t then ra c else rb c) := by
  refine pe_mono (pe_ifExp hc ha hb) fun σ H Q ⟨F, c, α, w, hw⟩ => ?_
  refine snT w .refl hw fun t c1 F1 H1 w1 t1 h1 => ?_
  cases t with
  | true => exact rest w1 t1 h1
  | false => exact rest w1 t1 h1
/-- a list -/
theorem e_isl (ha : PE X a (tV X.K W ra)) : PE X a (tV X.K W fun c => (ra c).bind kIsl) := by
  refine pe_mono ha fun σ H Q ⟨F, c, α, w, hw⟩ => ?_
  refine ⟨F, c, α, w, hw.bind.mono (fun v c1 h => ?_) fun _ _ q => q⟩
  unfold kIsl at h
  cases e : v.rd <;> rw [e] at h <;> first | exact h | exact False.elim h
/-- a or b, by truth -/
theorem e_orv (ha : PE X a (tV X.K W ra)) (hb : PE X (.BoolOp .Or (b :: rs) pos) (tV X.K W rb)) :
    PE X (.BoolOp .Or (a :: b :: rs) pos) (tV X.K W fun c => (ra c).bind fun v c => (ofO (truD v.rd) c).bind fun t c => if t then .ok v c else rb c) := by
  refine pe_mono (pe_orT ha hb) fun σ H Q ⟨F, c, α, w, hw⟩ => ?_
  refine sn w .refl hw fun v c1 u1 F1 H1 w1 t1 v1 h1 => ?_
  obtain ⟨t, e, q⟩ := h1.bind.ofO
  refine ⟨t, x_tru w1.sub (v1.rdb w1) e, ?_⟩
  cases t with
  | true => exact q u1 F1 H1 w1 t1 v1
  | false => exact rest w1 t1 q
/-- a value as a test -/
theorem t_val {e : Expr} {r : C → R Vl} (h : PE X e (tV X.K W r)) (he : ∀ whole, isTrue e X.env whole = (do let v ← whole; standAt e.pos; holding [v] (truthy v))) : PT X e (tTt X.K W fun c => (r c).bind asB) := by
  refine pt_mono (pt_truth h he) fun σ H Q ⟨F, c, α, w, hw⟩ => ?_
  refine sn w .refl hw fun v c1 u1 F1 H1 w1 t1 v1 h1 => ?_
  obtain ⟨t, e, q⟩ := h1.ofO
  exact ⟨t, x_tru w1.sub (v1.rdb w1) e, q F1 H1 w1 t1⟩

/-! ### arguments, displays -/
theorem VOk.base {K : Fg} {H₀ H₁ F H : Hp} {σ : L2.St} {ρ : List Sl} {α : Nat → Addr} {u : V} {v : Vl} (hs : Same H₀ H₁) (h : VOk K H₁ F H σ ρ α u v) : VOk K H₀ F H σ ρ α u v := by
  cases v with
  | d x => exact h
  | tmp x =>
    obtain ⟨a, e, h0, hf, ho⟩ := h
    exact ⟨a, e, hs.free h0, hf, ho⟩
  | bor i x => exact h
theorem VsOk.base {K : Fg} {H₀ H₁ F H : Hp} {σ : L2.St} {ρ : List Sl} {α : Nat → Addr} (hs : Same H₀ H₁) : ∀ {us : List V} {vs : List Vl}, VsOk K H₁ F H σ ρ α us vs → VsOk K H₀ F H σ ρ α us vs
  | [], [], _ => trivial
  | _ :: _, _ :: _, ⟨a, b, c⟩ => ⟨a.base hs, b.base hs, c⟩
theorem tmps_fresh {K : Fg} {H₀ F H : Hp} {σ : L2.St} {ρ : List Sl} {α : Nat → Addr} {u : V} : ∀ {us : List V} {vs : List Vl}, VsOk K H₀ F H σ ρ α us vs → u ∈ tmpsOf us vs → ∃ a, u = .ref a ∧ H₀ a = none
  | [], [], _, h => by simp [tmpsOf] at h
  | w :: us, v :: vs, ⟨a, b, c⟩, h => by
    cases v with
    | tmp x =>
      rcases List.mem_cons.mp h with rfl | h
      · obtain ⟨p, e, h0, _⟩ := a
        exact ⟨p, e, h0⟩
      · exact tmps_fresh b h
    | d x => exact tmps_fresh b h
    | bor i x => exact tmps_fresh b h
variable {es : List Expr} {rs' : C → R (List Vl)}
theorem a_nil : PA X [] (tVs X.K W fun c => .ok [] c) := pa_mono pa_nil fun σ H Q ⟨F, c, α, w, hw⟩ => hw [] F H w .refl trivial
theorem a_cons {e : Expr} (he : ∀ x y, e ≠ .Starred x y) (ha : PE X e (tV X.K W ra)) (hr : PA X es (tVs X.K W rs')) :
    PA X (e :: es) (tVs X.K W fun c => (ra c).bind fun v c => (rs' c).bind fun vs c => .ok (v :: vs) c) := by
  have hst : starEach (e :: es) X.env = (false, eval e X.env) :: starEach es X.env := by
    cases e <;> first | rfl | exact absurd rfl (he _ _)
  refine pa_mono (pa_cons ha hr hst) fun σ H Q ⟨F, c, α, w, hw⟩ => ?_
  refine sn w .refl hw fun v c1 u1 F1 H1 w1 t1 v1 h1 => ?_
  refine ⟨F1, c1, α, w1, h1.bind.mono (fun vs c2 hk us F2 H2 w2 t2 vs2 => ?_) fun _ _ hq => hq.on t1⟩
  refine hk _ F2 H2 w2 (t1.trans t2) ⟨v1.on w t1 w1 t2, vs2.base t1.same, fun x e hm => ?_⟩
  subst e
  obtain ⟨a, e1, h0, hf, ho⟩ := v1
  obtain ⟨o, q⟩ := ho.there
  obtain ⟨p, e2, h2⟩ := tmps_fresh vs2 hm
  rw [e1] at e2
  cases e2
  rw [q] at h2; cases h2
/-- all at hand are frozen -/
theorem all_frozen {σ : L2.St} {F H F₁ H₁ : Hp} {c c₁ : C} {α : Nat → Addr} {us : List V} {vs : List Vl} (w : Wf X.K F H σ c.env α) (t : Tr X.K c.env c₁.env α F H F₁ H₁) (w₁ : Wf X.K F₁ H₁ σ c₁.env α) (h : VsOk X.K H F₁ H₁ σ c₁.env α us vs) :
    ∃ F₂, Wf X.K F₂ H₁ σ (frzs vs c₁).env α ∧ Reps X.K F₂ us (vs.map Vl.rd) ∧ Tr X.K c.env (frzs vs c₁).env α F H F₂ H₁ ∧ Same F₁ F₂ ∧ (∀ a o, F₂ a = some o → F₁ a = some o ∨ H a = none ∨ ∃ i x, getS c₁.env i = .own x ∧ a = α i) := by
  obtain ⟨F₂, z⟩ := freezes c₁.sto w₁ (cells w t) h
  refine ⟨F₂, z.wf, z.rep, ⟨t.same, t.sub.trans z.sub, fun a o q => ?_, fun i x q => t.back i x (z.back i x q), fun i x q => ?_⟩, z.sub, z.new⟩
  · rcases z.new a o q with q | q | ⟨i, x, q, e⟩
    · exact t.new a o q
    · exact .inr (.inl (.inl q))
    · exact .inr (.inr ⟨i, x, t.back i x q, e⟩)
  · rcases t.keep i x q with q | q
    · exact z.keep i x q
    · exact .inr ⟨q.1.mono z.sub, fun y p => q.2 y (z.back i y p)⟩
theorem WpR.imp {α : Type} {r : R α} {p p' : α → C → Prop} {q q' : Xc → C → Prop} (h : WpR r p q) (hp : ∀ a c, r = .ok a c → p a c → p' a c) (hq : ∀ x c, q x c → q' x c) : WpR r p' q' := by
  cases r with
  | st => exact h
  | ok a c => exact hp _ _ rfl h
  | ex x c => exact hq _ _ h
/-- the arguments are short -/
def Short (r : C → R (List Vl)) : Prop := ∀ c vs c', r c = .ok vs c' → vs.length ≤ 1000
theorem small (n : Nat) (h : n ≤ 1000) : n ≤ sizeLine := by rw [PySem.sizeLine_eq]; omega
theorem e_tup {x1} (hl : Short rs') (h : PA X es (tVs X.K W rs')) : PE X (.Tuple es x1 pos) (tV X.K W fun c => (rs' c).bind fun vs c => .ok (.d (.tup (vs.map Vl.rd))) (frzs vs c)) := by
  refine pe_mono (pe_tup h) fun σ H Q ⟨F, c, α, w, hw⟩ => ?_
  refine ⟨F, c, α, w, hw.bind.imp (fun vs c1 e hk us F1 H1 w1 t1 v1 => ?_) fun _ _ hq => hq⟩
  obtain ⟨F2, w2, r2, t2, _⟩ := all_frozen w t1 w1 v1
  exact ⟨small _ (by rw [v1.length]; exact hl _ _ _ e), (res_of hk w2 t2).newT w2.sub r2⟩
theorem e_lst (hl : Short rs') (h : PA X es (tVs X.K W rs')) : PE X (.List es pos) (tV X.K W fun c => (rs' c).bind fun vs c => .ok (.tmp (.lst (vs.map Vl.rd))) (frzs vs c)) := by
  refine pe_mono (pe_lst h) fun σ H Q ⟨F, c, α, w, hw⟩ => ?_
  refine ⟨F, c, α, w, hw.bind.imp (fun vs c1 e hk us F1 H1 w1 t1 v1 => ?_) fun _ _ hq => hq⟩
  obtain ⟨F2, w2, r2, t2, _⟩ := all_frozen w t1 w1 v1
  exact ⟨small _ (by rw [v1.length]; exact hl _ _ _ e), (res_of hk w2 t2).newL w2.sub r2⟩

/-! ### subscripts, slices -/
theorem e_ix (hu : X.A.units + 100 < cLine) (hb' : ∀ x y z, b ≠ .Slice x y none z) (ha : PE X a (tV X.K W ra)) (hb : PE X b (tV X.K W rb)) :
    PE X (.Subscript a b pos) (tV X.K W fun c => (ra c).bind fun v c => (rb c).bind (doIx v)) := by
  have hp : PlainIx b := fun o i => by
    cases b <;> first | rfl | skip
    rename_i x y s z
    cases s with
    | none => exact absurd rfl (hb' _ _ _)
    | some s => rfl
  refine pe_mono (pe_ix (x_ix hu) ha hb hp) fun σ H Q ⟨F, c, α, w, hw⟩ => ?_
  refine sn w .refl hw fun v c1 u1 F1 H1 w1 t1 v1 h1 => ?_
  refine sn w1 t1 h1 fun v' c2 u2 F2 H2 w2 t2 v2 h2 => ?_
  obtain ⟨z, e, hz⟩ := h2.ofO
  obtain ⟨d, e1, rfl⟩ := Option.map_eq_some_iff.mp e
  exact ⟨F2, _, _, d, w2.sub, (v1.on w t1 w1 t2).rdb w2, v2.rdb w2, e1, fun u r => (res_of hz w2 (t1.trans t2)).d w2.sub u r⟩
def tO (K : Fg) (W : WX) (r : C → R (Option Int)) : TO := fun σ H Q => ∃ F c α, Wf K F H σ c.env α ∧ WpR (r c) (PB K σ F H c α Q) (PX K W σ F H c α)
theorem po_mono {X : Cx} {e : Option Expr} {t t' : TO} (h : PO X e t) (m : ∀ σ H Q, t' σ H Q → t σ H Q) : PO X e t' := ⟨fun pins s σ H Q I q => h.run pins s σ H Q I (m σ H Q q)⟩
theorem p_none : PO X none (tO X.K W fun c => .ok none c) := po_mono po_none fun σ H Q ⟨F, c, α, w, hw⟩ => hw F H w .refl
theorem p_some (ha : PE X a (tV X.K W ra)) : PO X (some a) (tO X.K W fun c => (ra c).bind fun v c => match v.rd with
    | .int i => .ok (some i) c
    | _ => .st) := by
  refine po_mono (po_some ha) fun σ H Q ⟨F, c, α, w, hw⟩ => ?_
  refine sn w .refl hw fun v c1 u1 F1 H1 w1 t1 v1 h1 => ?_
  have q := v1.rdb w1
  cases e : v.rd with
  | int i =>
    rw [e] at h1 q
    exact ⟨i, q.int, h1 F1 H1 w1 t1⟩
  | _ => rw [e] at h1; exact False.elim h1
theorem snO {K : Fg} {σ : L2.St} {F H F₁ H₁ : Hp} {c c₁ : C} {α : Nat → Addr} {r : C → R (Option Int)} {β : Type} {k : Option Int → C → R β} {okP : β → C → Prop} {R' : Option Int → Hp → Prop} (w : Wf K F₁ H₁ σ c₁.env α) (t : Tr K c.env c₁.env α F H F₁ H₁)
    (h : WpR ((r c₁).bind k) okP (PX K W σ F H c α))
    (go : ∀ b c₂ F₂ H₂, Wf K F₂ H₂ σ c₂.env α → Tr K c₁.env c₂.env α F₁ H₁ F₂ H₂ → WpR (k b c₂) okP (PX K W σ F H c α) → R' b H₂) :
    tO K W r σ H₁ R' :=
  ⟨F₁, c₁, α, w, h.bind.mono (fun b c₂ hk F₂ H₂ w₂ t₂ => go b c₂ F₂ H₂ w₂ t₂ hk) fun _ _ hq => hq.on t⟩
theorem e_sl {lo hi : Option Expr} {rl rh : C → R (Option Int)} {p2 : Pos} (ha : PE X a (tV X.K W ra)) (hl : PO X lo (tO X.K W rl)) (hh : PO X hi (tO X.K W rh)) :
    PE X (.Subscript a (.Slice lo hi none p2) pos) (tV X.K W fun c => (ra c).bind fun v c => (rl c).bind fun l c => (rh c).bind fun h c => ofO (slD v.rd l h) c) := by
  refine pe_mono (pe_slice x_sl ha hl hh) fun σ H Q ⟨F, c, α, w, hw⟩ => ?_
  refine sn w .refl hw fun v c1 u1 F1 H1 w1 t1 v1 h1 => ?_
  refine snO w1 t1 h1 fun l c2 F2 H2 w2 t2 h2 => ?_
  refine snO w2 (t1.trans t2) h2 fun h c3 F3 H3 w3 t3 h3 => ?_
  obtain ⟨z, e, hz⟩ := h3.ofO
  exact ⟨F3, _, z, w3.sub, (v1.on w t1 w1 (t2.trans t3)).rdb w3, e, res_of hz w3 ((t1.trans t2).trans t3)⟩
theorem e_rev {k : Nat} {p1 p2 p3 : Pos} (ha : PE X a (tV X.K W ra)) : PE X (.Subscript a (.Slice none none (some (.UnaryOp .USub (.Constant (.int 1) k p1) p2)) p3) pos) (tV X.K W fun c => (ra c).bind fun v c => match v.rd with
    | .lst xs => .ok (.tmp (.lst xs.reverse)) c
    | .tup xs => .ok (.d (.tup xs.reverse)) c
    | _ => .st) := by
  refine pe_mono (pe_or2 (pe_revL ha) (pe_revT ha)) fun σ H Q ⟨F, c, α, w, hw⟩ => ?_
  simp only at hw
  cases hr : ra c with
  | st => rw [hr] at hw; exact False.elim hw
  | ex x c' =>
    left
    refine ⟨F, c, α, w, ?_⟩
    rw [hr] at hw ⊢
    exact hw
  | ok v c1 =>
    rw [hr] at hw
    cases e : v.rd with
    | lst xs =>
      left
      refine ⟨F, c, α, w, ?_⟩
      rw [hr]
      intro u1 F1 H1 w1 t1 v1
      have q := v1.rdb w1
      have h1 : WpR ((match v.rd with
        | .lst xs => .ok (.tmp (.lst xs.reverse)) c1
        | .tup xs => .ok (.d (.tup xs.reverse)) c1
        | _ => .st) : R Vl) (PV X.K σ F H c α Q) (PX X.K W σ F H c α) := hw
      rw [e] at h1 q
      obtain ⟨l, vs, rfl, g, r⟩ := q.list w1.sub
      exact ⟨l, vs, rfl, g, (res_of h1 w1 t1).newL w1.sub r.reverse⟩
    | tup xs =>
      right
      refine ⟨F, c, α, w, ?_⟩
      rw [hr]
      intro u1 F1 H1 w1 t1 v1
      have q := v1.rdb w1
      have h1 : WpR ((match v.rd with
        | .lst xs => .ok (.tmp (.lst xs.reverse)) c1
        | .tup xs => .ok (.d (.tup xs.reverse)) c1
        | _ => .st) : R Vl) (PV X.K σ F H c α Q) (PX X.K W σ F H c α) := hw
      rw [e] at h1 q
      obtain ⟨l, vs, rfl, g, _, r⟩ := q.tup w1.sub
      exact ⟨l, vs, rfl, g, (res_of h1 w1 t1).newT w1.sub r.reverse⟩
    | _ =>
      have h1 : WpR ((match v.rd with
        | .lst xs => .ok (.tmp (.lst xs.reverse)) c1
        | .tup xs => .ok (.d (.tup xs.reverse)) c1
        | _ => .st) : R Vl) (PV X.K σ F H c α Q) (PX X.K W σ F H c α) := hw
      rw [e] at h1; exact False.elim h1

/-! ### built-in functions -/
theorem rdbs_of {σ : L2.St} {H F₁ H₁ : Hp} {ρ : List Sl} {α : Nat → Addr} (w : Wf X.K F₁ H₁ σ ρ α) : ∀ {us : List V} {vs : List Vl}, VsOk X.K H F₁ H₁ σ ρ α us vs → Rdbs X.K F₁ H₁ us (vs.map Vl.rd)
  | [], [], _ => .nil
  | _ :: _, _ :: _, ⟨a, b, _⟩ => .cons (a.rdb w) (rdbs_of w b)
theorem cb_of {f : Blt} {σ : L2.St} {H : Hp} {Q : VK} (h : tV X.K W (fun c => (rs' c).bind (doBlt f)) σ H Q) : tCB (rBlt X.K f) (tVs X.K W rs') σ H Q := by
  obtain ⟨F, c, α, w, hw⟩ := h
  refine ⟨F, c, α, w, hw.bind.mono (fun vs c1 hk us F1 H1 w1 t1 v1 => ?_) fun _ _ hq => hq⟩
  obtain ⟨z, e, hz⟩ := hk.ofO
  exact ⟨F1, _, z, w1.sub, rdbs_of w1 v1, e, res_of hz w1 t1⟩
theorem boot_of (f : Blt) : bootBuiltins (bltName f) = some (bltVal f) := by cases f <;> decide +kernel
theorem bltName_mem (f : Blt) : bltName f ∈ bltNames := by cases f <;> decide +kernel
theorem args_ok {e : Expr} (he : ∀ x y, e ≠ .Starred x y) : starEach (e :: es) X.env = (false, eval e X.env) :: starEach es X.env := by
  cases e <;> first | rfl | exact absurd rfl (he _ _)
theorem no_star : ∀ {l : List Expr}, (∀ e ∈ l, ∀ x y, e ≠ .Starred x y) → (starEach l X.env).any (·.1) = false
  | [], _ => rfl
  | e :: l, h => by
    rw [args_ok (h e List.mem_cons_self)]
    simp only [List.any_cons, Bool.false_or]
    exact no_star fun z hz => h z (List.mem_cons_of_mem _ hz)
theorem back_any (p : Pos) (l : List (Bool × Sem Value)) : (backTo p l).any (·.1) = l.any (·.1) := by
  unfold backTo
  rw [List.any_map]; rfl
theorem back_no {l : List Expr} (h : ∀ e ∈ l, ∀ x y, e ≠ .Starred x y) (p : Pos) : (backTo p (starEach l X.env)).any (·.1) = false := by rw [back_any]; exact no_star h
theorem callB {f : Blt} (hc : X.calm = true) (hu : X.A.units + 100 < cLine) : (∀ id, bltVal f = .builtin id → CallR X (.builtin id) (rBlt X.K f)) ∧ (∀ T, bltVal f = .type T → CallR X (.type T) (rBlt X.K f)) := by
  cases f <;> refine ⟨fun id h => ?_, fun T h => ?_⟩ <;> cases h
  · exact b_len
  · exact b_int
  · exact b_ord
  · exact b_min hc hu
  · exact b_max hc hu
  · exact b_tuple
  · exact b_list
  · exact b_all hc
  · exact b_any hc
  · exact b_sum hc
  · exact b_sorted
theorem e_blt (hy : Hyp L P call W X) (hcm : L.cm = true) {f : Blt} {x : PySem.Str} {p : Pos} {e : Expr} (hg : glB X.env.scope x = true) (hx : x = bltName f) (hst : ∀ z ∈ e :: es, ∀ x y, z ≠ .Starred x y) (ha : PA X (e :: es) (tVs X.K W rs')) :
    PE X (.Call (.Name x p) (e :: es) [] pos) (tV X.K W fun c => (rs' c).bind (doBlt f)) := by
  subst hx
  obtain ⟨h1, h2, h3⟩ := gl_of hg
  have hm := hy.blt _ (bltName_mem f)
  have hb := boot_of f
  have a1 := args_ok (X := X) (es := es) (hst e List.mem_cons_self)
  have a2 := back_no (X := X) (l := es) (fun z hz => hst z (List.mem_cons_of_mem _ hz)) pos
  cases e1 : bltVal f with
  | builtin id =>
    rw [e1] at hb
    exact pe_mono (pe_callB ((callB (hy.calm hcm) hy.units).1 id e1) h1 hm hb ha h3 h2 a1 a2) fun σ H Q h => cb_of h
  | type T =>
    rw [e1] at hb
    exact pe_mono (pe_callTy ((callB (hy.calm hcm) hy.units).2 T e1) h1 hm hb ha h3 h2 a1 a2) fun σ H Q h => cb_of h
  | _ => cases f <;> cases e1
theorem tyBoot (t : Ty) : bootBuiltins (tyName t) = some (.type (tyVal t)) := by cases t <;> decide +kernel
theorem tyName_mem (t : Ty) : tyName t ∈ bltNames := by cases t <;> decide +kernel
theorem e_isi (hy : Hyp L P call W X) {t : Ty} {x y : PySem.Str} {p p2 : Pos} (hst : ∀ x y, a ≠ .Starred x y) (hg : glB X.env.scope x = true) (hx : x = ("isinstance" : PySem.Str)) (hg2 : glB X.env.scope y = true) (hy2 : y = tyName t) (ha : PE X a (tV X.K W ra)) :
    PE X (.Call (.Name x p) [a, .Name y p2] [] pos) (tV X.K W fun c => (ra c).bind (doIsi t)) := by
  subst hx hy2
  obtain ⟨h1, h2, h3⟩ := gl_of hg
  obtain ⟨g1, g2, g3⟩ := gl_of hg2
  have hm := hy.blt "isinstance" (by decide +kernel)
  have hty : PE X (.Name (tyName t) p2) (tC (.ty (tyVal t))) := pe_bltn g1 (hy.blt _ (tyName_mem t)) (tyBoot t) rfl g3 g2
  refine pe_mono (pe_callB (b_isi (t := t)) h1 hm (by decide +kernel) (pa_cons ha (pa_cons hty pa_nil) (args_ok hst)) h3 h2 (args_ok hst) rfl) fun σ H Q ⟨F, c, α, w, hw⟩ => ?_
  refine sn w .refl hw fun v c1 u1 F1 H1 w1 t1 v1 h1 => ?_
  obtain ⟨z, e, hz⟩ := h1.ofO
  obtain ⟨b, e1, rfl⟩ := Option.map_eq_some_iff.mp e
  exact ⟨F1, u1, _, b, rfl, w1.sub, v1.rdb w1, e1, (res_of hz w1 t1).d w1.sub _ (.bl _)⟩

/-! ### calls -/
theorem thin_back {K : Fg} {σ : L2.St} {F₁ H₁ F₂ F' H' : Hp} {ρ : List Sl} {α : Nat → Addr} (w : Wf K F₁ H₁ σ ρ α) (s12 : Same F₁ F₂) (hs : Grow K H₁ H') (fs : Same F₂ F') (s' : Same F' H') :
    ∃ F'', Wf K F'' H' σ ρ α ∧ Same F₁ F'' ∧ (∀ a o, F'' a = some o → F' a = some o) ∧ LessL F' F'' ∧ (∀ a o, F'' a = some o → ∀ i x, getS ρ i = .own x → a ≠ α i) := by
  classical
  let F'' : Hp := fun a => if ∃ i x, getS ρ i = Sl.own x ∧ a = α i then none else F' a
  have e1 : ∀ a, (∃ i x, getS ρ i = Sl.own x ∧ a = α i) → F'' a = none := fun a h => if_pos h
  have e2 : ∀ a, ¬ (∃ i x, getS ρ i = Sl.own x ∧ a = α i) → F'' a = F' a := fun a h => if_neg h
  have e3 : ∀ a o, F₁ a = some o → F'' a = F' a := fun a o q => e2 a (by
    rintro ⟨i, x, h, rfl⟩
    rw [(w.cell h).2.1] at q; cases q)
  have s1 : Same F₁ F'' := ⟨fun a o q nt => by rw [e3 a o q]; exact (s12.trans fs).keep a o q nt, fun a ps q => by rw [e3 a _ q]; exact (s12.trans fs).tbls a ps q⟩
  have sub : ∀ a o, F'' a = some o → F' a = some o := fun a o q => by
    by_cases h : ∃ i x, getS ρ i = Sl.own x ∧ a = α i
    · rw [e1 a h] at q; cases q
    · rw [e2 a h] at q; exact q
  refine ⟨F'', ⟨⟨fun a o q nt => s'.keep a o (sub a o q) nt, fun a ps q => s'.tbls a ps (sub a _ q)⟩, w.gt.tabs hs.tabs, w.len, fun i => ?_, w.inj⟩, s1, sub, fun a o q => ?_, fun a o q i x h e => ?_⟩
  · have k := w.slot i
    cases e : getS ρ i with
    | no => trivial
    | dat x =>
      rw [e] at k
      obtain ⟨v, k1, k2⟩ := k
      exact ⟨v, k1, k2.mono s1⟩
    | own x =>
      rw [e] at k
      obtain ⟨k1, k2, k3⟩ := k
      obtain ⟨xs0, vs0, _, q, _⟩ := k3.ls
      exact ⟨k1, e1 _ ⟨i, x, e, rfl⟩, k3.mono s1 (by rw [q]; exact hs _ _ q)⟩
  · by_cases h : ∃ i x, getS ρ i = Sl.own x ∧ a = α i
    · right
      obtain ⟨i, x, h, rfl⟩ := h
      obtain ⟨xs, vs, _, q1, _⟩ := (w.cell h).2.2.ls
      exact ⟨_, s'.lst q (hs _ _ q1)⟩
    · left; rw [e2 a h]; exact q
  · rw [e1 a ⟨i, x, h, e⟩] at q; cases q
theorem free_thin {K : Fg} {F' F'' H' H : Hp} {u : V} {v : Rv} (hl : LessL F' F'') (sub : ∀ a o, F'' a = some o → F' a = some o) (h : ROk K F' H' H u v.vl) (hf : v.free = true) : ROk K F'' H' H u v.vl := by
  cases v with
  | d x => exact Rep.thin hl h hf
  | own x =>
    obtain ⟨a, e, h0, hF, ho⟩ := h
    cases x <;> first | (cases hf; done) | skip
    obtain ⟨vs, q, r⟩ := ho
    refine ⟨a, e, h0, ?_, vs, q, Reps.thin hl r hf⟩
    cases z : F'' a with
    | none => rfl
    | some o => rw [sub a o z] at hF; cases hF
/-- f(..), a function of the text -/
theorem c_call {g : Nat} {σ : L2.St} {H : Hp} {Q : VK} (h : tV X.K W (fun c => (rs' c).bind (doCall call g)) σ H Q) : tCallS (spC X.K call g) (WE W) (tVs X.K W rs') σ H Q := by
  obtain ⟨F, c, α, w, hw⟩ := h
  refine ⟨F, c, α, w, hw.bind.mono (fun vs c1 hk us F1 H1 w1 t1 v1 => ?_) fun _ _ hq => hq⟩
  obtain ⟨F2, w2, r2, t2, s12, new2⟩ := all_frozen w t1 w1 v1
  refine ⟨F2, vs.map Vl.rd, c1.sto, w2.sub, w2.gt, r2, ?_⟩
  unfold doCall at hk
  cases e : call g (vs.map Vl.rd) c1.sto with
  | st => rw [e] at hk; exact hk
  | ok v s =>
    rw [e] at hk
    intro u F' H' hs fs s' new r
    cases hf : v.free with
    | false =>
      have hk' : PV X.K σ F H c α Q v.vl ⟨(frzs vs c1).env, s⟩ := by simpa only [called, hf, Bool.false_eq_true, if_false, WpR] using hk
      obtain ⟨w', t'⟩ := w2.res hs fs s' new
      exact hk' u F' H' w' (t2.trans t') (r.vok t2.same)
    | true =>
      have hk' : PV X.K σ F H c α Q v.vl ⟨c1.env, s⟩ := by simpa only [called, hf, if_true, WpR] using hk
      obtain ⟨F'', w', s1, sub, less, apart⟩ := thin_back w1 s12 hs fs s'
      refine hk' u F'' H' w' ⟨t1.same.trans hs, t1.sub.trans s1, fun a o q => ?_, t1.back, fun i x q => ?_⟩ ((free_thin less sub r hf).vok t1.same)
      · rcases new a o (sub a o q) with z | z
        · rcases new2 a o z with z | z | ⟨i, x, z, e⟩
          · exact t1.new a o z
          · exact .inr (.inl (.inl z))
          · exact absurd e (apart a o q i x z)
        · exact .inr (.inl (z.back t1.same.toSame))
      · rcases t1.keep i x q with z | z
        · exact .inl z
        · exact .inr ⟨z.1.mono s1, z.2⟩
  | ex x s =>
    rw [e] at hk
    intro cls d F' H' hs fs s' new xk
    obtain ⟨w', t'⟩ := w2.res hs fs s' new
    exact hk cls d F' H' w' (t2.trans t') xk
theorem e_call (hy : Hyp L P call W X) (hF : Fns L P call X) {g : Nat} {x : PySem.Str} {p : Pos} {e : Expr} (hg : glB X.env.scope x = true) (hx : x = L.fn g) (hlt : L.hf g = true) (hst : ∀ z ∈ e :: es, ∀ x y, z ≠ .Starred x y) (ha : PA X (e :: es) (tVs X.K W rs')) :
    PE X (.Call (.Name x p) (e :: es) [] pos) (tV X.K W fun c => (rs' c).bind (doCall call g)) := by
  subst hx
  obtain ⟨h1, h2, h3⟩ := gl_of hg
  obtain ⟨f, fd, ps, k, F, hr, hm, hk, hb⟩ := (hF.fns g hlt).ok
  exact pe_mono (pe_callS (E := WE W) F hr h1 hm hk hb (fun σ => passAt hy.takes σ) ha h2 (args_ok (hst e List.mem_cons_self)) (back_no (fun z hz => hst z (List.mem_cons_of_mem _ hz)) pos)) fun σ H Q h => c_call h
theorem pass_no' {X : Cx} : Passes (L2.CX X.prog X.w) X noE := fun pins σ H s e s' I h => by
  obtain ⟨_, _, _, _, _, _, _, _, _, _, _, _, h⟩ := h
  exact h.elim
theorem e_call2 (hy : Hyp L P call W X) (hF : Fns L P call X) {g : Nat} {x y : PySem.Str} {p p2 p3 pos : Pos} {e : Expr} (hg : glB X.env.scope x = true) (hgy : glB X.env.scope y = true) (hc : L.c2 g = some (x, y)) (hst : ∀ z ∈ e :: es, ∀ x y, z ≠ .Starred x y) (ha : PA X (e :: es) (tVs X.K W rs')) :
    PE X (.Call (.Name x p) [.Call (.Name y p2) (e :: es) [] p3] [] pos) (tV X.K W fun c => (rs' c).bind (doCall call g)) := by
  obtain ⟨h1, h2, h3⟩ := gl_of hg
  obtain ⟨y1, y2, y3⟩ := gl_of hgy
  obtain ⟨f1, fd1, ps1, k1, sp1, f2, fd2, ps2, k2, sp2, ⟨F1, hr1, hm1, hk1, hb1⟩, ⟨F2, hr2, hm2, hk2, hb2⟩, imp⟩ := (hF.c2 g x y hc).ok
  have inner := pe_call (p := p2) (pos := p3) (E := noE) F1 hr1 y1 hm1 hk1 hb1 .nil pass_no' ha y2 (args_ok (hst e List.mem_cons_self)) (back_no (fun z hz => hst z (List.mem_cons_of_mem _ hz)) p3)
  refine pe_mono (pe_call (p := p) (pos := pos) (E := noE) F2 hr2 h1 hm2 hk2 hb2 .nil pass_no' (pa_cons inner pa_nil) h2) fun σ H Q h => ?_
  obtain ⟨F, c, α, w, hw⟩ := c_call h
  exact ⟨F, c, α, w, hw.mono (fun vs c1 hk us F1 H1 w1 t1 v1 => by
    have z := imp us H1 Q _ (hk us F1 H1 w1 t1 v1)
    show sp1 (us ++ []) H1 _ noE
    rw [List.append_nil]
    exact z) fun _ _ q => q⟩
theorem e_call0 (hy : Hyp L P call W X) (hF : Fns L P call X) {g : Nat} {x : PySem.Str} {p : Pos} (hg : glB X.env.scope x = true) (hx : x = L.fn g) (hlt : L.hf g = true) :
    PE X (.Call (.Name x p) [] [] pos) (tV X.K W fun c => (R.ok [] c).bind (doCall call g)) := by
  subst hx
  obtain ⟨h1, h2, h3⟩ := gl_of hg
  obtain ⟨f, fd, ps, k, F, hr, hm, hk, hb⟩ := (hF.fns g hlt).ok
  refine ⟨fun pins s σ H Q I h => ?_⟩
  obtain ⟨F0, c, α, w, hw⟩ := c_call (rs' := fun c => R.ok [] c) h
  refine wpAny_Call_Name_kw (ld_glob I h1 hm ?_ h2)
  exact PySem.W.callWith_K0 I.kIn hk (run_fnS (us := []) (E := WE W) F hr hb (passAt hy.takes σ) I .nil (hw [] F0 H w .refl trivial))
end
end Ev
end
section
set_option maxRecDepth 100000
set_option maxHeartbeats 1000000
/-! Ev6o: fields, methods, new instances. -/
namespace Ev
open PySem L2
theorem clsAt_inj {K : Fg} {g : Nat} {C D : Addr} (h : clsAt K g C) (h' : clsAt K g D) : C = D := by
  unfold clsAt at h h'
  rw [h] at h'
  cases h'; rfl
theorem zip_lookup : ∀ {ns : List PySem.Str} {vs : List V} {f : Nat} {n : PySem.Str} {v : V}, ns.Nodup → ns[f]? = some n → vs[f]? = some v → (ns.zip vs).lookup n = some v
  | [], _, _, _, _, _, h, _ => by simp at h
  | _ :: _, [], _, _, _, _, _, h => by simp at h
  | m :: ns, w :: vs, 0, n, v, hd, h1, h2 => by
    simp only [List.getElem?_cons_zero, Option.some.injEq] at h1 h2
    subst h1 h2
    simp [List.lookup]
  | m :: ns, w :: vs, f + 1, n, v, hd, h1, h2 => by
    simp only [List.getElem?_cons_succ] at h1 h2
    have hn : n ∈ ns := List.mem_of_getElem? h1
    have hm : (n == m) = false := by
      rw [beq_eq_false_iff_ne]
      rintro rfl
      exact (List.nodup_cons.mp hd).1 hn
    simp only [List.zip_cons_cons, List.lookup, hm]
    exact zip_lookup (List.nodup_cons.mp hd).2 h1 h2
theorem zip_none : ∀ {ns : List PySem.Str} {vs : List V} {m : PySem.Str}, ns.contains m = false → (ns.zip vs).lookup m = none
  | [], vs, m, _ => by cases vs <;> rfl
  | n :: ns, [], m, _ => rfl
  | n :: ns, w :: vs, m, h => by
    simp only [List.contains_cons, Bool.or_eq_false_iff] at h
    simp only [List.zip_cons_cons, List.lookup, h.1]
    exact zip_none h.2
theorem fields_nodup (g : Nat) : (clsFields g).Nodup := by
  unfold clsFields
  split <;> first | exact List.nodup_nil | decide +kernel
theorem new_small {g : Nat} {ds fs : List D} (h : newD g ds = some fs) : g < 100 := by
  unfold newD at h
  split at h <;> first | omega | cases h
theorem WpR.mexd {ok : Vl → C → Prop} {ex : Xc → C → Prop} {a : Vl} {r : R Vl} (h : WpR (mexd a r) ok ex) : WpR r ok ex := by
  unfold Ev.mexd at h
  split at h
  · exact h
  · cases r with
    | st => exact h
    | ok v c => exact h
    | ex x c => exact False.elim h
structure MOk (L : Lk) (call : CallT) (X : Cx) (g' g : Nat) : Prop where
  ok : ∃ C f fd ps k, KOk X.K g' C ∧ Meth X.K C (L.fn g) f ∧ FnOk X.prog X.w X.K X.mg X.base (L2.CX X.prog X.w) k f fd ps (spC X.K call g) ∧ Room k X.A ∧ Binds X.K fd ps [] ∧ (clsFields g').contains (L.fn g) = false
section
variable {X : Cx} {W : WX} {L : Lk} {P : Pg} {call : CallT} {pos apos : Pos} {a : Expr} {es : List Expr} {ra : C → R Vl} {rs' : C → R (List Vl)}
theorem base_of (h : baseOk a = true) (n : PySem.Str) (env : Env) : attributeBase a n env (eval a env) = eval a env := by
  cases a <;> first | (cases h; done) | rfl
theorem e_fld0 {g f : Nat} {n : PySem.Str} (hf : (clsFields g)[f]? = some n) (hb : baseOk a = true) (hk : ∃ C, KOk X.K g C) (hg : g < 100) (ha : PE X a (tV X.K W ra)) : PE X (.Attribute a n pos) (tV X.K W fun c => (ra c).bind (doFld g f)) := by
  obtain ⟨C, k⟩ := hk
  refine pe_mono (pe_fld (pos := pos) ha (base_of hb n X.env)) fun σ H Q ⟨F, c, α, w, hw⟩ => ?_
  refine ⟨F, c, α, w, hw.bind.mono (fun v c1 hk u F1 H1 w1 t1 v1 => ?_) fun _ _ hq => hq⟩
  cases v <;> first | exact False.elim hk | skip
  rename_i d
  cases d <;> first | exact False.elim hk | skip
  case exn g' ds =>
    unfold doFld at hk
    simp only at hk
    rw [if_neg (by omega)] at hk
    exact False.elim hk
  rename_i g' ds
  unfold doFld at hk
  simp only at hk
  split at hk
  · rename_i e
    subst e
    obtain ⟨y, e1, hy⟩ := hk.ofO
    obtain ⟨d, e2, rfl⟩ := Option.map_eq_some_iff.mp e1
    have r : Rep X.K F1 u (.obj g' ds) := v1
    cases r with
    | obj hc kc ea ed ez rr =>
      obtain ⟨z, q1, q2⟩ := rr.get e2
      have := clsAt_inj kc k.at_
      subst this
      refine ⟨_, _, _, _, _, rfl, w1.sub _ _ ea, k.cls, k.fld _ (List.mem_of_getElem? hf), ?_, hy z F1 H1 w1 t1 q2⟩
      rw [ez]
      exact zip_lookup (fields_nodup g') hf q1
  · exact False.elim hk
/-- error.f in an except suite, where the exception lies among what is frozen -/
def tXg (K : Fg) (C : Addr) (f : PySem.Str) (te : TE) : TE := fun σ H Q => te σ H fun x H1 => ∃ (a d : Addr) (fs : List (PySem.Str × V)) (v : V), x = .ref a ∧ H1 a = some (xo a C (some d)) ∧ H1 d = some (.xd fs) ∧ fs.lookup f = some v ∧ Q v H1
theorem pe_xg {C : Addr} {e : Expr} {te : TE} {n : PySem.Str} (T : XfC X.K C) (hno : PySem.W.findIn X.K (.ref C) n = some none) (he : PE X e te) (hb : attributeBase e n X.env (eval e X.env) = eval e X.env) : PE X (.Attribute e n pos) (tXg X.K C n te) := by
  refine ⟨fun pins s σ H Q I h => ?_⟩
  refine attr_of hb (thn (he.run pins s σ H _ I h) fun u s1 hh => ?_)
  obtain ⟨x, H1, I1, rx, a, dd, fs, v, ex, ha, ea, l, q⟩ := hh
  subst ex
  obtain rfl : u = Value.ref a := rx
  have hxa : ObjOk X.prog X.w H1 s1.heap a (.ext fun h => ∃ (oe : Obj) (vs : Array Value), h.get? a = some oe ∧ Zc (.ref C) (some dd) oe ∧ oe.data = .fields vs) := I1.hok a _ ha
  obtain ⟨oe, vs, ha', hz, hd⟩ := hxa.1
  have hx : ObjOk X.prog X.w H1 s1.heap dd (.xd fs) := I1.hok dd _ ea
  obtain ⟨mA, hns, hr⟩ := hx
  obtain ⟨od, ho, hl⟩ := lookIn_ns hns
  obtain ⟨u, hu, ru⟩ := RelO.some_of (v := v) (o := mA n) (by rw [← l]; exact hr n)
  have J : PySem.W.InstAt s1.heap a oe C (some od) := ⟨ha', hz.1, by unfold PySem.W.notCls; rw [hd] <;> rfl, by rw [hz.2]; exact ho⟩
  exact HandSPX.exc_get I1.kIn J T.ga T.gg T.exC (PySem.W.findObj_own T.hdC hno rfl (by rw [hl, hu])) (handed_of ru) ⟨v, H1, I1.tok _, ru, q⟩
theorem e_fldx {c f : Nat} {C : Addr} {n : PySem.Str} (hf : (clsFields (100 + c))[f]? = some n) (hb : baseOk a = true) (k : XRd X.K c C) (ha : PE X a (tV X.K W ra)) : PE X (.Attribute a n pos) (tV X.K W fun c' => (ra c').bind (doFld (100 + c) f)) := by
  refine pe_mono (pe_xg (pos := pos) k.xf (k.no n (List.mem_of_getElem? hf)) ha (base_of hb n X.env)) fun σ H Q ⟨F, c0, α, w, hw⟩ => ?_
  refine ⟨F, c0, α, w, hw.bind.mono (fun v c1 hk u F1 H1 w1 t1 v1 => ?_) fun _ _ hq => hq⟩
  cases v <;> first | exact False.elim hk | skip
  rename_i d
  cases d <;> first | exact False.elim hk | skip
  case obj g' ds =>
    unfold doFld at hk
    simp only at hk
    split at hk
    · rename_i e
      subst e
      have r : Rep X.K F1 u (.obj (100 + c) ds) := v1
      cases r with
      | obj hc kc ea ed ez rr => omega
    · exact False.elim hk
  rename_i g' ds
  unfold doFld at hk
  simp only at hk
  split at hk
  · rename_i e
    have e : g' = c := by omega
    subst e
    obtain ⟨y, e1, hy⟩ := hk.ofO
    obtain ⟨d, e2, rfl⟩ := Option.map_eq_some_iff.mp e1
    have r : Rep X.K F1 u (.exn g' ds) := v1
    cases r with
    | exn kc ea ed ez rr =>
      obtain ⟨z, q1, q2⟩ := rr.get e2
      have := clsAt_inj kc k.at_
      subst this
      obtain ⟨dd, rfl, hd⟩ := ed (fun h => by rw [h] at e2; cases e2)
      refine ⟨_, dd, _, _, rfl, w1.sub _ _ ea, w1.sub _ _ hd, ?_, hy z F1 H1 w1 t1 q2⟩
      rw [ez]
      exact zip_lookup (fields_nodup (100 + g')) hf q1
  · exact False.elim hk
theorem e_fld {g f : Nat} {n : PySem.Str} (hf : (clsFields g)[f]? = some n) (hb : baseOk a = true) (hk : (g < 100 ∧ ∃ C, KOk X.K g C) ∨ ∃ c C, g = 100 + c ∧ XRd X.K c C) (ha : PE X a (tV X.K W ra)) : PE X (.Attribute a n pos) (tV X.K W fun c => (ra c).bind (doFld g f)) := by
  rcases hk with ⟨h1, h2⟩ | ⟨c, C, rfl, h⟩
  · exact e_fld0 hf hb h2 h1 ha
  · exact e_fldx hf hb h ha
def tMethS (C : Addr) (m : PySem.Str) (sp : Sp) (E : L2.St → XK) (ta : TE) (t : TA) : TE := fun σ H Q => ta σ H fun x H1 => ∃ a dx fs, x = .ref a ∧ H1 a = some (.ins C dx fs) ∧ fs.lookup m = none ∧
  t σ H1 fun vs H2 => sp (x :: vs) H2 Q (E σ)
theorem pe_methS {CX : CXT} {k : Nat} {f C : Addr} {fd : FuncData} {ps : List PySem.Str} {sp : Sp} {E : L2.St → XK} {m : PySem.Str} {o e : Expr} {es : List Expr} {ta : TE} {t : TA} {pl : Sem Bool} (he : PE X o ta) (c : Cls X.K C) (hm : Meth X.K C m f) (F : FnOk X.prog X.w X.K X.mg X.base CX k f fd ps sp) (hr : Room k X.A) (hb : Binds X.K fd ps []) (hx : ∀ σ, PassesAt CX X σ (E σ)) (ha : PA X (e :: es) t)
    (hst : starEach (e :: es) X.env = (false, eval e X.env) :: starEach es X.env) (hpl : (backTo pos (starEach es X.env)).any (·.1) = false)
    (ht : eval (.Call (.Attribute o m apos) (e :: es) [] pos) X.env = (do
      let ov ← eval o X.env
      standAt apos.atName
      let (f, first) ← holding [ov] (getMethod ov m pl)
      callWith pos f first (backTo pos (starEach (e :: es) X.env)) (backToKw pos (keywordEach [] X.env)))) :
    PE X (.Call (.Attribute o m apos) (e :: es) [] pos) (tMethS C m sp E ta t) := by
  refine ⟨fun pins s σ H Q I h => ?_⟩
  refine PySem.W.methodCall_KW (pl := pl) (thn (he.run pins s σ H _ I h) fun u s1 ⟨x, H1, I1, rx, a, dx, fs, ex, ea, l, q⟩ => ?_) ht
  subst ex
  obtain rfl : u = Value.ref a := rx
  refine getmeth_ok I1 ea c hm l ?_
  refine PySem.W.callWith_K (first := [.ref a]) (h₀ := X.base) I.ok.mod.kin hm.kp (thn (ha.run pos pins s1 σ H1 _ I1 q) fun us s2 ⟨vs, H2, I2, r, q2⟩ => ⟨I2.kIn, ?_⟩) hst hpl
  exact run_fnS (us := .ref a :: us) (vs := .ref a :: vs) F hr hb (hx σ) I2 (.cons rfl r) q2
theorem c_meth {g' g : Nat} {C : Addr} {m : PySem.Str} {σ : L2.St} {H : Hp} {Q : VK} (k : KOk X.K g' C) (hm : (clsFields g').contains m = false)
    (h : tV X.K W (fun c => (ra c).bind fun a c => if isObj g' a then (rs' c).bind (doMeth call g a) else .st) σ H Q) : tMethS C m (spC X.K call g) (WE W) (tV X.K W ra) (tVs X.K W rs') σ H Q := by
  obtain ⟨F, c, α, w, hw⟩ := h
  refine ⟨F, c, α, w, hw.bind.mono (fun v c0 hk u F0 H0 w0 t0 v0 => ?_) fun _ _ hq => hq⟩
  cases v <;> first | exact False.elim hk | skip
  rename_i d
  cases d <;> first | exact False.elim hk | skip
  rename_i g2 ds
  by_cases eg : g2 = g'
  case neg =>
    have : isObj g' (.d (.obj g2 ds)) = false := by simp [isObj, eg]
    rw [this] at hk
    exact False.elim hk
  subst eg
  have e0 : isObj g2 (.d (.obj g2 ds)) = true := by simp [isObj]
  rw [e0] at hk
  simp only [if_true] at hk
  have r0 : Rep X.K F0 u (.obj g2 ds) := v0
  have r00 := r0
  cases r0 with
  | obj hc kc ea ed ez rr =>
    have := clsAt_inj kc k.at_
    subst this
    refine ⟨_, _, _, rfl, w0.sub _ _ ea, by rw [ez]; exact zip_none hm, F0, c0, α, w0, hk.bind.mono (fun vs c1 hk us F1 H1 w1 t01 v1 => ?_) fun _ _ hq => hq.on t0⟩
    have t1 := t0.trans t01
    have v1 := VsOk.base t0.same.toSame v1
    obtain ⟨F2, w2, r2, t2, s12, new2⟩ := all_frozen w t1 w1 v1
    refine ⟨F2, .obj g2 ds :: vs.map Vl.rd, c1.sto, w2.sub, w2.gt, .cons (r00.mono (t01.sub.trans s12)) r2, ?_⟩
    have hk := WpR.mexd hk
    unfold doCall at hk
    simp only [List.map_cons] at hk
    have er : (Vl.d (D.obj g2 ds)).rd = .obj g2 ds := rfl
    rw [er] at hk
    cases e : call g (.obj g2 ds :: vs.map Vl.rd) c1.sto with
    | st => rw [e] at hk; exact hk
    | ok v s =>
      rw [e] at hk
      intro u F' H' hs fs s' new r
      cases hf : v.free with
      | false =>
        have hk' : PV X.K σ F H c α Q v.vl ⟨(frzs vs c1).env, s⟩ := by simpa only [called, frzs, frz, hf, Bool.false_eq_true, if_false, WpR] using hk
        obtain ⟨w', t'⟩ := w2.res hs fs s' new
        exact hk' u F' H' w' (t2.trans t') (r.vok t2.same)
      | true =>
        have hk' : PV X.K σ F H c α Q v.vl ⟨c1.env, s⟩ := by simpa only [called, hf, if_true, WpR] using hk
        obtain ⟨F'', w', s1, sub, less, apart⟩ := thin_back w1 s12 hs fs s'
        refine hk' u F'' H' w' ⟨t1.same.trans hs, t1.sub.trans s1, fun a o q => ?_, t1.back, fun i x q => ?_⟩ ((free_thin less sub r hf).vok t1.same)
        · rcases new a o (sub a o q) with z | z
          · rcases new2 a o z with z | z | ⟨i, x, z, e⟩
            · exact t1.new a o z
            · exact .inr (.inl (.inl z))
            · exact absurd e (apart a o q i x z)
          · exact .inr (.inl (z.back t1.same.toSame))
        · rcases t1.keep i x q with z | z
          · exact .inl z
          · exact .inr ⟨z.1.mono s1, z.2⟩
    | ex x s =>
      rw [e] at hk
      intro cls d F' H' hs fs s' new xk
      obtain ⟨w', t'⟩ := w2.res hs fs s' new
      have hk : PX X.K W σ F H c α x ⟨(frzs (.d (.obj g2 ds) :: vs) c1).env, s⟩ := hk
      exact hk cls d F' H' w' (t2.trans t') xk
theorem few_ok {as : List Expr} (h : (backTo pos (starEach as X.env)).any (·.1) = false) (hl : as.length < 29) : methodCallForm (as.length + ([] : List Keyword).length) (backTo pos (starEach as X.env)) (backToKw pos (keywordEach [] X.env)) = true := by
  have h1 : (backTo pos (starEach as X.env)).all (fun x => !x.1) = true := by
    rw [List.all_eq_true]
    rw [List.any_eq_false] at h
    intro x hx
    have := h x hx
    simpa using this
  have h2 : backToKw pos (keywordEach [] X.env) = [] := rfl
  unfold methodCallForm
  rw [h1, h2]
  simp only [List.all_nil, List.isEmpty_nil, if_true, Bool.true_and, List.length_nil, decide_eq_true_eq]
  omega
theorem meth_form {m : PySem.Str} {as : List Expr} (hb : nameOk a = true) (hf : methodCallForm (as.length + ([] : List Keyword).length) (backTo pos (starEach as X.env)) (backToKw pos (keywordEach [] X.env)) = true) (hl : (apos.endLine == pos.line) = true) :
    eval (.Call (.Attribute a m apos) as [] pos) X.env = (do
      let ov ← eval a X.env
      standAt apos.atName
      let (f, first) ← holding [ov] (getMethod ov m (do return (← importBound a X.env).getD true))
      callWith pos f first (backTo pos (starEach as X.env)) (backToKw pos (keywordEach [] X.env))) := by
  have e1 : eval (.Call (.Attribute a m apos) as [] pos) X.env = (do
      let ov ← attributeBase a m X.env (eval a X.env)
      standAt apos.atName
      methodCall a m apos pos X.env ov (as.length + ([] : List Keyword).length) (backTo pos (starEach as X.env)) (backToKw pos (keywordEach [] X.env))) := rfl
  have e2 : attributeBase a m X.env (eval a X.env) = eval a X.env := by
    unfold nameOk at hb
    split at hb <;> first | (cases hb; done) | rfl
  rw [e1, e2]
  unfold methodCall calleeOf methodCallPos
  rw [hf, hl]
  rfl
theorem e_meth (hy : Hyp L P call W X) {g' g : Nat} {e : Expr} (hb : nameOk a = true) (hl : (apos.endLine == pos.line) = true) (hn29 : (e :: es).length < 29) (hM : MOk L call X g' g) (hst : ∀ z ∈ e :: es, ∀ x y, z ≠ .Starred x y) (ha : PE X a (tV X.K W ra)) (hs : PA X (e :: es) (tVs X.K W rs')) :
    PE X (.Call (.Attribute a (L.fn g) apos) (e :: es) [] pos) (tV X.K W fun c => (ra c).bind fun a c => if isObj g' a then (rs' c).bind (doMeth call g a) else .st) := by
  obtain ⟨C, f, fd, ps, k, ko, hm, F, hr, hbd, hn⟩ := hM.ok
  have h1 := args_ok (X := X) (es := es) (hst e List.mem_cons_self)
  have h2 := back_no (X := X) (l := es) (fun z hz => hst z (List.mem_cons_of_mem _ hz)) pos
  have h3 := back_no (X := X) (l := e :: es) hst pos
  exact pe_mono (pe_methS (E := WE W) ha ko.cls hm F hr hbd (fun σ => passAt hy.takes σ) hs h1 h2 (meth_form hb (few_ok h3 hn29) hl)) fun σ H Q h => c_meth ko hn h
def tMakeS (C : Addr) (sp : Sp) (E : L2.St → XK) (t : TA) : TE := fun σ H Q => t σ H fun vs H1 => ∀ x dx, H1 x = none → H1 dx = none → dx ≠ x →
  sp (.ref x :: vs) (upd (upd H1 dx (.own x)) x (.ins C dx [])) (fun v H2 => v = .non ∧ Q (.ref x) H2) (E σ)
theorem pe_makeS {CX : CXT} {k : Nat} {f C : Addr} {fd : FuncData} {ps : List PySem.Str} {sp : Sp} {E : L2.St → XK} {x : PySem.Str} {p pos : Pos} {e : Expr} {es : List Expr} {t : TA} (M : Mk X.K C f) (F : FnOk X.prog X.w X.K X.mg X.base CX k f fd ps sp) (hr : Room (k + 1) X.A) (hg : Gl X x) (hm : X.mg x = some (.ref C)) (hb : Binds X.K fd ps []) (hx : ∀ σ, PassesAt CX X σ (E σ))
    (ha : PA X (e :: es) t) (hdb : (x == ("__debug__" : PySem.Str)) = false) (he : starEach (e :: es) X.env = (false, eval e X.env) :: starEach es X.env) (hpl : (backTo pos (starEach es X.env)).any (·.1) = false) :
    PE X (.Call (.Name x p) (e :: es) [] pos) (tMakeS C sp E t) := by
  refine ⟨fun pins s0 σ H Q I0 h0 => ?_⟩
  refine wpAny_Call_Name_kw (ld_glob I0 hg hm ?_ hdb)
  refine PySem.W.callWith_K (h₀ := X.base) I0.ok.mod.kin M.kp (thn (ha.run pos pins s0 σ H _ I0 h0) fun us s ⟨vs, H1, I, r, h⟩ => ⟨I.kIn, ?_⟩) he hpl
  have hq := h (s.heap.objs.size + 1) s.heap.objs.size (I.hok.fresh (Nat.le_succ _)) (I.hok.fresh (Nat.le_refl _)) (Nat.ne_of_lt (Nat.lt_succ_self _))
  have I2 := Inv.made (C := C) I
  have r2 : Vals (V.ref (s.heap.objs.size + 1) :: vs) (Value.ref (s.heap.objs.size + 1) :: us) := .cons rfl r
  have hl : ((Value.ref (s.heap.objs.size + 1) :: us) ++ []).length = ps.length := by
    have e := r2.length
    rw [F.len _ _ _ _ hq] at e
    rw [List.append_nil]; exact e.symm
  have hbb := hb _ (Value.ref (s.heap.objs.size + 1) :: us) I2.kIn hl
  rw [List.append_nil] at hbb
  refine wpAny_call (make_map (f := f) I.kIn M.makes M.init (beq_iff_eq.mp M.fn) (codeAny_mono (F.run _ X.stack _ _ ⟨Value.ref (s.heap.objs.size + 1) :: us, []⟩ (Value.ref (s.heap.objs.size + 1) :: us) _ _ (E σ) (hr.make C us [])
    (I2.env0.make C us []) hbb r2 hq) fun r s' hq' => ?_))
  cases r with
  | error e => exact hx σ pins _ _ e s' I2 hq'
  | ok fl =>
    cases fl with
    | ret u =>
      obtain ⟨v, H', I3, rv, ev, q3⟩ := I2.after hq'
      subst ev
      exact ⟨rv, ⟨V.ref (s.heap.objs.size + 1), H', I3, rfl, q3⟩⟩
    | next => exact False.elim hq'
    | brk => exact False.elim hq'
    | cont => exact False.elim hq'
theorem e_new (hy : Hyp L P call W X) {g : Nat} {p : Pos} {e : Expr} (hg : glB X.env.scope (clsName g) = true) (hn : L.hn g = true) (hst : ∀ z ∈ e :: es, ∀ x y, z ≠ .Starred x y) (hs : PA X (e :: es) (tVs X.K W rs')) :
    PE X (.Call (.Name (clsName g) p) (e :: es) [] pos) (tV X.K W fun c => (rs' c).bind (doNew g)) := by
  obtain ⟨C, f, fd, ps, k, ko, hm, M, F, hr, hbd⟩ := hy.news g hn
  obtain ⟨h1, h2, h3⟩ := gl_of hg
  refine pe_mono (pe_makeS (E := WE W) M F hr h1 hm hbd (fun σ => passAt hy.takes σ) hs h2 (args_ok (hst e List.mem_cons_self)) (back_no (fun z hz => hst z (List.mem_cons_of_mem _ hz)) pos)) fun σ H Q ⟨F0, c, α, w, hw⟩ => ?_
  refine ⟨F0, c, α, w, hw.bind.mono (fun vs c1 hk us F1 H1 w1 t1 v1 x dx hx hdx hne => ?_) fun _ _ hq => hq⟩
  obtain ⟨F2, w2, r2, t2, s12, new2⟩ := all_frozen w t1 w1 v1
  have fx : F2 x = none := w2.sub.free hx
  have fdx : F2 dx = none := w2.sub.free hdx
  have s2 : Same F2 (upd F2 dx (.own x)) := same_upd fdx
  have hsub : Same (upd F2 dx (.own x)) (upd (upd H1 dx (.own x)) x (.ins C dx [])) := (w2.sub.both hdx).trans (same_upd (by rw [upd_ne (Ne.symm hne)]; exact hx))
  have ggt : GoodT X.K (upd (upd H1 dx (.own x)) x (.ins C dx [])) := w2.gt.tabs ((grow_upd hdx).trans (grow_upd (by rw [upd_ne (Ne.symm hne)]; exact hx))).tabs
  cases eE : newE g (vs.map Vl.rd) with
  | some xx =>
    rw [doNew_x eE] at hk
    refine .inr ⟨x, C, dx, us, upd F2 dx (.own x), vs.map Vl.rd, xx, rfl, ko.at_, upd_same, hsub, ggt, by rw [upd_ne (Ne.symm hne)]; exact fx, r2.mono s2, eE, fun cls d F' H' sH fs s' new xk => ?_⟩
    have hk : PX X.K W σ F0 H c α xx (frzs vs c1) := hk
    have sH' : Grow X.K H1 H' := ((grow_upd hdx).trans (grow_upd (by rw [upd_ne (Ne.symm hne)]; exact hx))).trans sH
    obtain ⟨w', t'⟩ := w2.res sH' (s2.trans fs) s' fun b o z => by
      by_cases hb2 : b = dx
      · subst hb2; exact .inr (.inl hdx)
      · rcases new b o z with q | q
        · rw [upd_ne hb2] at q; exact .inl q
        · by_cases hb1 : b = x
          · subst hb1; exact .inr (.inl hx)
          · unfold Nw at q; rw [upd_ne hb1, upd_ne hb2] at q; exact .inr q
    exact hk cls d F' H' w' (t2.trans t') xk
  | none =>
  rw [doNew_n eE] at hk
  obtain ⟨fs, ef, hk⟩ := hk.bind.ofO
  refine .inl ⟨x, C, dx, us, upd F2 dx (.own x), vs.map Vl.rd, fs, rfl, ko.at_, upd_same, hsub, ggt, by rw [upd_ne (Ne.symm hne)]; exact fx, r2.mono s2, ef, fun H' ws kept tb atx rw' => ⟨rfl, ?_⟩⟩
  let F' := upd (upd F2 dx (.own x)) x (.ins C dx ((clsFields g).zip ws))
  have s3 : Same (upd F2 dx (.own x)) F' := same_upd (by rw [upd_ne (Ne.symm hne)]; exact fx)
  have sH : Grow X.K H1 H' := ⟨⟨fun b o z nt => by
    have b1 : b ≠ x := by rintro rfl; rw [hx] at z; cases z
    have b2 : b ≠ dx := by rintro rfl; rw [hdx] at z; cases z
    exact kept b o b1 (by rw [upd_ne b1, upd_ne b2]; exact z) nt, fun b ps z => (((grow_upd hdx).trans (grow_upd (by rw [upd_ne (Ne.symm hne)]; exact hx))).tb.trans tb).tbls b ps z⟩,
    (((grow_upd hdx).trans (grow_upd (by rw [upd_ne (Ne.symm hne)]; exact hx))).tb.trans tb).tabs⟩
  have s' : Same F' H' := ⟨fun b o z nt => by
    by_cases hbx : b = x
    · subst hbx
      have : F' b = some (.ins C dx ((clsFields g).zip ws)) := upd_same
      rw [this] at z; cases z
      exact atx
    · have : F' b = upd F2 dx (.own x) b := upd_ne hbx
      rw [this] at z
      exact kept b o hbx (hsub.keep b o z nt) nt, fun b ps z => by
    by_cases hbx : b = x
    · subst hbx
      have : F' b = some (.ins C dx ((clsFields g).zip ws)) := upd_same
      rw [this] at z; cases z
    · have : F' b = upd F2 dx (.own x) b := upd_ne hbx
      rw [this] at z
      obtain ⟨ps', q⟩ := hsub.tbls b ps z
      exact tb.tbls b ps' q⟩
  have new : ∀ b o, F' b = some o → F2 b = some o ∨ Nw H1 b := fun b o z => by
    by_cases hbx : b = x
    · subst hbx; exact .inr (.inl hx)
    · have e1 : F' b = upd F2 dx (.own x) b := upd_ne hbx
      rw [e1] at z
      by_cases hbd2 : b = dx
      · subst hbd2; exact .inr (.inl hdx)
      · rw [upd_ne hbd2] at z; exact .inl z
  obtain ⟨w', t'⟩ := w2.res sH (s2.trans s3) s' new
  have hk' : PV X.K σ F0 H c α Q (.d (.obj g fs)) (frzs vs c1) := hk
  refine hk' (.ref x) F' H' w' (t2.trans t') ?_
  refine .obj (dx := dx) (C := C) (vs := ws) (new_small ef) ko.at_ upd_same ?_ rfl (rw'.mono s3)
  show upd (upd F2 dx (.own x)) x _ dx = _
  rw [upd_ne hne, upd_same]
end
end Ev
end
section
set_option maxRecDepth 100000
set_option maxHeartbeats 1000000
/-! Ev7e: enumerate of a tuple, of a text. -/
namespace Ev
open PySem L2
open Sem (wp)

theorem meets_enum1 {src : Value} {ob : Obj} {Pr : Heap → Prop} (bg : Begins src ob Pr) :
    Meets (Builtin.«enumerate.__new__» ⟨[.type "enumerate", src], []⟩) (fun _ R st => Pr st.heap ∧
      R (.ok (.ret (.ref (st.heap.push ob).objs.size))) { st with heap := (st.heap.push ob).push { cls := .type "enumerate", data := .fields #[.none, .bool false, .ref st.heap.objs.size, rawInt 0, .none, .none] } }) :=
  .of_wp fun prog w A R st hyp => by
    obtain ⟨hp, g, dr, tk, os⟩ := st
    obtain ⟨h1, hyp⟩ := hyp
    have hsub := sub_enumerate
    have it1 : ∀ {B' : Around} {E : Value → Shared → Prop} {Q : Value → Shared → Prop}, Q (.ref hp.objs.size) ⟨hp.push ob, g, dr, tk, os⟩ → wpAny (model prog w) B' (pyIter src) Q E ⟨hp, g, dr, tk, os⟩ :=
      fun hq => bg.iter _ _ _ _ _ _ h1 hq
    wp_walk using it1
    refine wpAny_stack_any fun sk => wpAny_pure ?_
    split
    · rename_i c _ _ _ _ _
      cases (c == Value.type "enumerate")
      · (wp_walk using it1); exact ⟨_, rfl, hyp⟩
      · (wp_walk using it1); exact ⟨_, rfl, hyp⟩
    · (wp_walk using it1); exact ⟨_, rfl, hyp⟩
section
variable {prog : Program} {w : World} {A : Around} {E : Value → Shared → Prop} {s : Shared}
theorem enum1_begins {src : Value} {ob : Obj} {Pr : Heap → Prop} {Q : Value → Shared → Prop} (bg : Begins src ob Pr) (h1 : Pr s.heap)
    (k : ∀ h', IsEnum h' (s.heap.objs.size + 1) s.heap.objs.size 0 .none → h'.get? s.heap.objs.size = some ob → (∀ b o, s.heap.get? b = some o → h'.get? b = some o) → Q (.ref (s.heap.objs.size + 1)) { s with heap := h' }) :
    wpAny (model prog w) A (call (.type "enumerate") [src]) Q E s := by
  refine callType_new F.called_enumerate (by decide) (F.typeCall_enumerate_1 _) (F.newCall_enumerate_1 _) (fun obj => F.args_object_init_2 obj _) F.entry_enumerate_new (meets_enum1 bg) ⟨h1, ?_⟩
  have ez : (s.heap.push ob).objs.size = s.heap.objs.size + 1 := Heap.size_push ..
  show _ ∧ _
  rw [ez]
  have en := Heap.get?_push_size (s.heap.push ob) (o := { cls := .type "enumerate", data := .fields #[.none, .bool false, .ref s.heap.objs.size, rawInt 0, .none, .none] }) rfl
  rw [ez] at en
  exact ⟨⟨_, en, rfl⟩, k _ en (Heap.get?_push_of_some _ (Heap.get?_push_size _ bg.free)) fun b o x => Heap.get?_push_of_some _ (Heap.get?_push_of_some _ x)⟩
end
/-- the tuple at a, numbered -/
def IteT (K : Fg) (a : Addr) : It :=
  ⟨fun i H => ∃ (xs : List V) (x : V), SqT K H a xs ∧ xs[i]? = some x, fun i H v H' => ∃ T x, v = .ref T ∧ H T = none ∧ H' = upd H T (.tup [.int (i : Nat), x]) ∧ ∀ xs, SqT K H a xs → xs[i]? = some x, fun i H => ∃ xs : List V, SqT K H a xs ∧ xs.length = i⟩
/-- the text z, numbered -/
def IteS (z : PySem.Str) : It :=
  ⟨fun i _ => i < z.cps.size, fun i H v H' => ∃ T c, v = .ref T ∧ H T = none ∧ H' = upd H T (.tup [.int (i : Nat), .str ⟨#[c]⟩]) ∧ z.cps[i]? = some c, fun i _ => z.cps.size = i⟩
theorem tup_lt {X : Cx} {pins : List (Addr × Obj)} {σ : L2.St} {H : Hp} {s : Shared} {a : Addr} {xs : List V} (I : L2.Inv X pins σ H s) (h : SqT X.K H a xs) {b : Addr} (hb : FpOk X pins H b) : b ≠ a := by
  rintro rfl
  rcases h with (h | ⟨o, h⟩) | ⟨o, its, n, hk, _⟩
  · rw [hb.1] at h; cases h
  · rw [hb.1] at h; cases h
  · have := I.ok.mod.kin _ _ hk
    have h2 := (I.bs _ _ this).1
    rcases hb.2.2.2.1 with h3 | h3
    · exact I.ok.noex _ _ this h3
    · have h4 := Heap.lt_size this
      have h5 := I.ok.bsz
      exact absurd (Nat.lt_of_lt_of_le h4 (Nat.le_trans h5 h3)) (Nat.lt_irrefl _)
/-- a numbered item comes -/
theorem enum_item {X : Cx} {elts : List Expr} {kk : Nat} {tpos : Pos} {e it : Addr} {fp : List Addr} {n i : Nat} {Pv : Nat → Value → Prop} {St : Nat → Heap → Prop} {tn : Nat → Heap → Prop} {pins : List (Addr × Obj)} {s : Shared} {σ : L2.St} {H : Hp} {E : Value → Shared → Prop} {J : It}
    (I : L2.Inv X pins σ H s) (dw : Draws X.prog X.w X.A.in1 it fp n Pv St) (hf : ∀ b ∈ [e, it], FpOk X pins H b) {old : Value} (he : IsEnum s.heap e it ((i : Nat) : Int) old) (hst : St i s.heap) (hlt : i < n) (hne : e ≠ it) (hef : e ∉ fp) (hif : it ∈ fp)
    (htn : ∀ h', (∃ old, IsEnum h' e it ((i + 1 : Nat) : Int) old) → St (i + 1) h' → tn (i + 1) h')
    (hy : ∀ u T, Pv i u → H T = none → ∃ x, RelV x u ∧ J.yld i H (.ref T) (upd H T (.tup [.int (i : Nat), x]))) :
    wpAny (model X.prog X.w) X.A (pyNext (.ref e)) (fun r s1 => ∃ u, r = some u ∧
      wpAny (model X.prog X.w) X.A (letOwnedTupleGo (.Tuple elts kk tpos) (.ref e) u) (fun _ s2 => ∃ x H', L2.Inv X pins σ H' s2 ∧ RelV x u ∧ J.yld i H x H' ∧ tn (i + 1) s2.heap ∧ ∀ b ∈ [e, it], H' b = none) E s1) E s := by
  have hel : e < s.heap.objs.size := Heap.lt_size he
  have hil : it < s.heap.objs.size := by obtain ⟨_, q⟩ := dw.live _ _ hst; exact Heap.lt_size q
  refine wpAny_pyNext_enum_itemD dw he hst hlt hne hef fun x h' tk hP ho hs' hT hsz hk => ?_
  refine ⟨_, rfl, wpAny_letOwnedTupleGo_enum (s := { s with heap := h', toks := tk + 1 }) ho fun h'' he' sb => ?_⟩
  obtain ⟨y, ry, hyld⟩ := hy x s.heap.objs.size hP (I.hok.fresh (Nat.le_refl _))
  have hT2 : h''.get? s.heap.objs.size = some { cls := .type "tuple", data := .seq #[.int i tk, x] } := (sb.2 _ (Nat.ne_of_gt hel)).trans hT
  have new : ObjOk X.prog X.w (upd H s.heap.objs.size (.tup [.int (i : Nat), y])) h'' s.heap.objs.size (.tup [.int (i : Nat), y]) :=
    ⟨by show 2 ≤ sizeLine; decide, [.int i tk, x], .cons ⟨_, rfl⟩ (.cons ry .nil), ⟨_, hT2, rfl, _, rfl⟩⟩
  have I1 : L2.Inv X pins σ (upd H s.heap.objs.size (.tup [.int (i : Nat), y])) { s with heap := h'', toks := tk + 1 } :=
    I.turnedNew (ch := [e, it]) (fun b ob hb q => (sb.2 b (fun z => hb (by simp [z]))).trans (hk b ob (fun z => hb (by simp [z])) (fun z => hb (by simp [z])) q)) hf (Nat.le_refl _) new
  refine ⟨.ref s.heap.objs.size, _, I1, rfl, hyld, htn _ ⟨x, ?_⟩ (dw.frame _ _ _ hs' fun b hb o q => (sb.2 b (fun z => hef (z ▸ hb))).trans q), fun b hb => ?_⟩
  · have e1 : ((i + 1 : Nat) : Int) = (i : Int) + 1 := by omega
    rw [e1]; exact he'
  · have hb' : b < s.heap.objs.size := by
      have e' : b = e ∨ b = it := by simpa using hb
      rcases e' with z | z
      · rw [z]; exact hel
      · rw [z]; exact hil
    rw [upd_ne (Nat.ne_of_lt hb')]
    exact (hf b hb).1
theorem enum_done {X : Cx} {e it : Addr} {fp : List Addr} {n : Nat} {i : Int} {Pv : Nat → Value → Prop} {St : Nat → Heap → Prop} {pins : List (Addr × Obj)} {s : Shared} {σ : L2.St} {H : Hp} {E : Value → Shared → Prop}
    (I : L2.Inv X pins σ H s) (dw : Draws X.prog X.w X.A.in1 it fp n Pv St) (hf : ∀ b ∈ [e, it], FpOk X pins H b) {old : Value} (he : IsEnum s.heap e it i old) (hst : St n s.heap) :
    wpAny (model X.prog X.w) X.A (pyNext (.ref e)) (fun r s1 => r = none ∧ L2.Inv X pins σ H s1) E s := by
  obtain ⟨f0, f1, f2, f3, f4, f5⟩ := hf it (by simp)
  exact wpAny_pyNext_enum_endD dw he hst fun h' eb => ⟨rfl, I.turned (t' := s.toks) (fun b o hb q => eb b o hb q) f0 f1 f3 f4 f5⟩
theorem turn_enumT {P : Program} {w : World} {K : Fg} {elts : List Expr} {kk : Nat} {tpos : Pos} (a e it : Addr) :
    Turn P w K (.Tuple elts kk tpos) (IteT K a) [e, it] e (fun i h => (∃ old, IsEnum h e it ((i : Nat) : Int) old) ∧ h.IsTupleIter it a i ∧ e ≠ it) where
  mem := by simp
  obj := fun i h st b hb => by
    obtain ⟨⟨old, he⟩, ⟨o, ho, hc, hd⟩, _⟩ := st
    have e' : b = e ∨ b = it := by simpa using hb
    rcases e' with z | z
    · rw [z]; exact ⟨_, he, fun v q => nomatch q⟩
    · rw [z]; exact ⟨o, ho, fun v q => by rw [hd] at q; cases q⟩
  keep := fun i h h' st k => let ⟨⟨old, he⟩, hi, hne⟩ := st; ⟨⟨old, k e (by simp) _ he⟩, hi.at fun o q => k it (by simp) o q, hne⟩
  item := by
    intro X hP hw hK hc i pins s σ H E I hf st hg
    subst hP hw hK
    obtain ⟨⟨old, he⟩, hit, hne⟩ := st
    obtain ⟨xs, x, hq, hx⟩ := hg
    obtain ⟨its, rv, p, hz⟩ := I.tuple hq
    have hne2 : a ≠ it := (tup_lt I hq (hf it (by simp))).symm
    have hne3 : e ≠ a := tup_lt I hq (hf e (by simp))
    have hi : i < its.toArray.size := by
      have := (List.getElem?_eq_some_iff.mp hx).1
      have := rv.length
      simp; omega
    refine enum_item (J := IteT X.K a) (tn := fun i h => (∃ old, IsEnum h e it ((i : Nat) : Int) old) ∧ h.IsTupleIter it a i ∧ e ≠ it) I (Draws.tuple (A := X.A.in1) (I.ok.hd hc) it a hne2 its.toArray) hf he ⟨hit, p⟩ hi hne (by simp [hne, hne3]) (by simp) (fun h' h1 h2 => ⟨h1, h2.1, hne⟩) fun u T hP hT => ?_
    have hP : its[i]? = some u := by simpa using hP
    obtain ⟨u', hu', ru⟩ := rv.get hx
    rw [hP] at hu'; cases hu'
    exact ⟨x, ru, T, x, rfl, hT, rfl, fun ys hy => by rw [I.tuple_inj hy hq]; exact hx⟩
  done := by
    intro X hP hw hK hc i pins s σ H E I hf st hg
    subst hP hw hK
    obtain ⟨⟨old, he⟩, hit, hne⟩ := st
    obtain ⟨xs, hq, hx⟩ := hg
    obtain ⟨its, rv, p, hz⟩ := I.tuple hq
    have hne2 : a ≠ it := (tup_lt I hq (hf it (by simp))).symm
    have en : i = its.toArray.size := by
      have := rv.length
      simp; omega
    subst en
    exact enum_done I (Draws.tuple (A := X.A.in1) (I.ok.hd hc) it a hne2 its.toArray) hf he ⟨hit, p⟩
  self := fun A i s Q E st h => let ⟨⟨_, he⟩, _⟩ := st; wpAny_pyIter_enum he h
theorem turn_enumS {P : Program} {w : World} {K : Fg} {elts : List Expr} {kk : Nat} {tpos : Pos} (z : PySem.Str) (t : Tok) (e it : Addr) :
    Turn P w K (.Tuple elts kk tpos) (IteS z) [e, it] e (fun i h => (∃ old, IsEnum h e it ((i : Nat) : Int) old) ∧ h.IsStrIter it (strIterType z) z t i ∧ e ≠ it) where
  mem := by simp
  obj := fun i h st b hb => by
    obtain ⟨⟨old, he⟩, ⟨o, ho, hc, hd⟩, _⟩ := st
    have e' : b = e ∨ b = it := by simpa using hb
    rcases e' with q | q
    · rw [q]; exact ⟨_, he, fun v q => nomatch q⟩
    · rw [q]; exact ⟨o, ho, fun v q => by rw [hd] at q; cases q⟩
  keep := fun i h h' st k => let ⟨⟨old, he⟩, ⟨o, ho, hr⟩, hne⟩ := st; ⟨⟨old, k e (by simp) _ he⟩, ⟨o, k it (by simp) o ho, hr⟩, hne⟩
  item := by
    intro X hP hw hK hc i pins s σ H E I hf st hg
    subst hP hw hK
    obtain ⟨⟨old, he⟩, hit, hne⟩ := st
    have hg : i < z.cps.size := hg
    refine enum_item (J := IteS z) (tn := fun i h => (∃ old, IsEnum h e it ((i : Nat) : Int) old) ∧ h.IsStrIter it (strIterType z) z t i ∧ e ≠ it) I (Draws.text (A := X.A.in1) (I.ok.hd hc) it z t) hf he hit hg hne (by simp [hne]) (by simp) (fun h' h1 h2 => ⟨h1, h2, hne⟩) fun u T hP hT => ?_
    obtain ⟨c, tk, hcx, rfl⟩ := hP
    exact ⟨.str ⟨#[c]⟩, ⟨_, rfl⟩, T, c, rfl, hT, rfl, hcx⟩
  done := by
    intro X hP hw hK hc i pins s σ H E I hf st hg
    subst hP hw hK
    obtain ⟨⟨old, he⟩, hit, hne⟩ := st
    have hg : z.cps.size = i := hg
    subst hg
    exact enum_done I (Draws.text (A := X.A.in1) (I.ok.hd hc) it z t) hf he hit
  self := fun A i s Q E st h => let ⟨⟨_, he⟩, _⟩ := st; wpAny_pyIter_enum he h
/-- enumerate(v), v a list, a tuple, a text -/
def iEnumA (K : Fg) (te : TE) : TI := fun σ H R => te σ H fun v H1 => (∃ a xs, v = .ref a ∧ SqL K H1 a xs ∧ R (Ite K a) H1) ∨ (∃ a xs, v = .ref a ∧ SqT K H1 a xs ∧ R (IteT K a) H1) ∨ ∃ z, v = .str z ∧ R (IteS z) H1
theorem pi_enumA {X : Cx} {e : Expr} {te : TE} {p pos tpos : Pos} {elts : List Expr} {kk : Nat} (hg : Gl X "enumerate") (hm : X.mg "enumerate" = none) (he : PE X e te) (hs : starEach [e] X.env = (false, eval e X.env) :: starEach [] X.env) :
    PI X (.Tuple elts kk tpos) (.Call (.Name "enumerate" p) [e] [] pos) (iEnumA X.K te) := by
  refine ⟨fun pins s σ H R I h => ?_⟩
  refine PyProof.Rows.Call_ (ld_blt I hg hm PyProof.Rows.boot_enumerate (PyProof.Rows.callWith_type1 (PyProof.Rows.args_cons (thn (he.run pins s σ H _ I h) fun u s1 ⟨v, H1, I1, r1, q1⟩ => PyProof.Rows.args_nil ?_) hs) hs rfl))
  have fresh : ∀ b, b ∈ [s1.heap.objs.size + 1, s1.heap.objs.size] → FpOk X pins H1 b := fun b hb => by
    have e' : b = s1.heap.objs.size + 1 ∨ b = s1.heap.objs.size := by simpa using hb
    have hle : s1.heap.objs.size ≤ b := by
      rcases e' with z | z
      · rw [z]; exact Nat.le_add_right _ _
      · rw [z]; exact Nat.le_refl _
    exact I1.fpOk hle (I1.hok.fresh hle)
  rcases q1 with ⟨a, xs, rfl, hq, q⟩ | ⟨a, xs, rfl, hq, q⟩ | ⟨z, rfl, q⟩
  · cases r1
    obtain ⟨its, rv, p', hz⟩ := I1.list hq
    refine call_enumerate_list p'.isList fun h' he hit hsz hk => wpAny_pyIter_enum he ?_
    exact ⟨_, [s1.heap.objs.size + 1, s1.heap.objs.size], _, _, H1, rfl, I1.kept (t' := s1.toks) hk, turn_enum a _ s1.heap.objs.size, ⟨⟨.none, he⟩, hit, Nat.succ_ne_self _⟩, fresh, q⟩
  · cases r1
    obtain ⟨its, rv, p', hz⟩ := I1.tuple hq
    refine enum1_begins (begins_tuple a its.toArray) p' fun h' he ho hk => wpAny_pyIter_enum he ?_
    exact ⟨_, [s1.heap.objs.size + 1, s1.heap.objs.size], _, _, H1, rfl, I1.kept (t' := s1.toks) hk, turn_enumT a _ s1.heap.objs.size, ⟨⟨.none, he⟩, ⟨_, ho, rfl, rfl⟩, Nat.succ_ne_self _⟩, fresh, q⟩
  · obtain ⟨t, rfl⟩ := r1
    refine enum1_begins (begins_text z t) trivial fun h' he ho hk => wpAny_pyIter_enum he ?_
    exact ⟨_, [s1.heap.objs.size + 1, s1.heap.objs.size], _, _, H1, rfl, I1.kept (t' := s1.toks) hk, turn_enumS z t _ s1.heap.objs.size, ⟨⟨.none, he⟩, ⟨_, ho, rfl, rfl⟩, Nat.succ_ne_self _⟩, fresh, q⟩
end Ev
end
section
set_option maxRecDepth 100000
set_option maxHeartbeats 1000000
/-! Zp1: zip over iterators of lists, each from the front or from the end. -/
namespace Zp
open PySem PySem.Spec PyProof.Rows L2
open PySem.Sem (wp)
/-- an iterator at the list l of n items, k of them given -/
def IsIt (h : Heap) (it l : Addr) (rv : Bool) (n k : Nat) : Prop := match rv with
  | true => k ≤ n ∧ h.IsRevIter it l ((n : Int) - 1 - ((k : Nat) : Int))
  | false => h.IsListIter it l k
def itPos (rv : Bool) (n k : Nat) : Nat := match rv with
  | true => n - 1 - k
  | false => k
theorem IsIt.at {h h' : Heap} {it l : Addr} {rv : Bool} {n k : Nat} (x : IsIt h it l rv n k) (e : ∀ o, h.get? it = some o → h'.get? it = some o) : IsIt h' it l rv n k := by
  cases rv with
  | true => exact ⟨x.1, x.2.at e⟩
  | false => exact Heap.IsListIter.at x e
theorem IsIt.extBut {h h' : Heap} {it l z : Addr} {rv : Bool} {n k : Nat} (x : IsIt h it l rv n k) (e : Heap.ExtBut z h h') (ne : it ≠ z) : IsIt h' it l rv n k := x.at fun o q => e _ _ ne q
theorem IsIt.there {h : Heap} {it l : Addr} {rv : Bool} {n k : Nat} (x : IsIt h it l rv n k) : ∃ o, h.get? it = some o ∧ ∀ v, o.data ≠ .cell v := by
  cases rv with
  | true =>
    obtain ⟨_, o, e, _, d⟩ := x
    exact ⟨o, e, fun v z => by rw [d] at z; cases z⟩
  | false =>
    obtain ⟨o, e, _, d⟩ := x
    exact ⟨o, e, fun v z => by rw [d] at z; cases z⟩
section
variable {prog : Program} {w : World} {A : Around} {E : Value → Shared → Prop} {s : Shared}
theorem rev_item {it l : Addr} {i : Nat} {items : Array Value} {x : Value} {Q : Value → Shared → Prop} (hit : s.heap.IsRevIter it l (i : Int)) (hl : s.heap.IsList l items) (hx : items[i]? = some x)
    (hQ : ∀ h', h'.IsRevIter it l ((i : Int) - 1) → Heap.SameBut it s.heap h' → Q x { s with heap := h' }) : wpAny (model prog w) A (Builtin.SmallTypes.nextOf (.ref it)) Q E s := by
  obtain ⟨o, ho, hc, hd⟩ := id hit
  obtain ⟨ol, hol, _, nl, hdl⟩ := hl
  unfold Builtin.SmallTypes.nextOf
  refine wpAny_bind (wpAny_callSpecial?_slot (name := Str.ofString "__next__") hit.typeIs F.slot_lri_next
    (wpAny_call_entry F.slot_lri_next hit.typeIs F.entry_lri_next ?_ (F.args_lri_next_1 _)))
  unfold Builtin.«list_reverseiterator.__next__»
  refine wpAny_bind (wpAny_of_eq (a := (Value.ref it, [])) rfl ?_)
  try dsimp only
  refine wpAny_bind (wpAny_field ho hd (x := rawInt (i : Int)) rfl ?_)
  show wpAny _ _ (if (i : Int) < 0 then _ else _) _ _ s
  rw [if_neg (by omega)]
  show wpAny _ _ (field (.ref it) 0 >>= _) _ _ s
  refine wpAny_bind (wpAny_field ho hd (x := .ref l) rfl ?_)
  show wpAny _ _ (seqItems? (.ref l) >>= _) _ _ s
  refine wpAny_bind (wpAny_seqItems hol hdl ?_)
  simp only [Int.toNat_natCast, hx]
  refine wpAny_bind (wpAny_setField ho hd (by simp) ?_)
  first
  | refine wpAny_pure ⟨x, rfl, wpAny_pure (hQ _ ?_ (Heap.SameBut.update ..))⟩
  | refine wpAny_bind (wpAny_pure (wpAny_pure ⟨x, rfl, wpAny_pure (hQ _ ?_ (Heap.SameBut.update ..))⟩))
  exact ⟨_, Heap.get?_update_self _ ho (Obj.isFreed_of_fields (Obj.data_mapFields hd _)), (Obj.cls_mapFields ..).trans hc, by
    rw [Obj.data_mapFields hd]; simp⟩
theorem rev_end {it l : Addr} {Q : Value → Shared → Prop} (hh : A.handled = none) (hit : s.heap.IsRevIter it l (-1))
    (hE : ∀ h' e, Heap.ExtBut it s.heap h' → (∃ o, h'.get? e = some o ∧ o.cls = .type "StopIteration") → E (.ref e) { s with heap := h' }) : wpAny (model prog w) A (Builtin.SmallTypes.nextOf (.ref it)) Q E s := by
  obtain ⟨o, ho, hc, hd⟩ := id hit
  unfold Builtin.SmallTypes.nextOf
  refine wpAny_bind (wpAny_callSpecial?_slot (name := Str.ofString "__next__") hit.typeIs F.slot_lri_next
    (wpAny_call_entry F.slot_lri_next hit.typeIs F.entry_lri_next ?_ (F.args_lri_next_1 _)))
  unfold Builtin.«list_reverseiterator.__next__»
  refine wpAny_bind (wpAny_of_eq (a := (Value.ref it, [])) rfl ?_)
  try dsimp only
  refine wpAny_bind (wpAny_field ho hd (x := rawInt (-1)) rfl ?_)
  show wpAny _ _ (if (-1 : Int) < 0 then _ else _) _ _ s
  rw [if_pos (by decide)]
  refine wpAny_bind (wpAny_rule ?_)
  first
  | show wpAny _ _ (newExc (.type "StopIteration") [] >>= _) _ _ _
  | (refine wpAny_bind ?_; show wpAny _ _ (newExc (.type "StopIteration") [] >>= _) _ _ _)
  refine wpAny_bind ?_
  simp only [newExc, newTuple]
  refine wpAny_bind (wpAny_newObj_type ?_ (by size_fits))
  refine wpAny_bind (m := firstArgMember _ _) (wpAny_of_eq (a := Value.none) (by first | rfl | (simp only [firstArgMember]; rfl)) ?_)
  refine wpAny_newObj_type ?_ (by size_fits)
  simp only [raiseNew]
  refine wpAny_bind (wpAny_handled ?_)
  first | rw [show A.in1.handled = none from hh] | rw [hh]
  refine wpAny_bind (wpAny_pure (wpAny_throw ?_))
  exact hE _ _ (((Heap.ExtBut.refl _ _).push _).push _) ⟨_, Heap.get?_push_size _ rfl, rfl⟩

theorem nx_item {it l : Addr} {rv : Bool} {n k : Nat} {xs : Array Value} {x : Value} {Q : Value → Shared → Prop} (hit : IsIt s.heap it l rv n k) (hl : s.heap.IsList l xs) (hk : k < n) (hx : xs[itPos rv n k]? = some x)
    (hQ : ∀ h', IsIt h' it l rv n (k + 1) → Heap.SameBut it s.heap h' → Q x { s with heap := h' }) : wpAny (model prog w) A (Builtin.SmallTypes.nextOf (.ref it)) Q E s := by
  cases rv with
  | true =>
    obtain ⟨h1, h2⟩ := hit
    have e1 : (n : Int) - 1 - ((k : Nat) : Int) = ((n - 1 - k : Nat) : Int) := by omega
    rw [e1] at h2
    refine rev_item h2 hl hx fun h' q sb => hQ h' ⟨hk, ?_⟩ sb
    have e2 : ((n - 1 - k : Nat) : Int) - 1 = (n : Int) - 1 - ((k + 1 : Nat) : Int) := by omega
    rw [← e2]
    exact q
  | false => exact wpAny_nextOf_list_item hit hl hx fun h' q sb => hQ h' q sb
theorem nx_end {it l : Addr} {rv : Bool} {n k : Nat} {xs : Array Value} {Q : Value → Shared → Prop} (hh : A.handled = none) (hit : IsIt s.heap it l rv n k) (hl : s.heap.IsList l xs) (hk : n ≤ k) (hn : xs.size = n)
    (hE : ∀ h' e, Heap.ExtBut it s.heap h' → (∃ o, h'.get? e = some o ∧ o.cls = .type "StopIteration") → E (.ref e) { s with heap := h' }) : wpAny (model prog w) A (Builtin.SmallTypes.nextOf (.ref it)) Q E s := by
  cases rv with
  | true =>
    obtain ⟨h1, h2⟩ := hit
    have e1 : (n : Int) - 1 - ((k : Nat) : Int) = -1 := by omega
    rw [e1] at h2
    exact rev_end hh h2 hE
  | false => exact wpAny_nextOf_list_end hh hit hl (Array.getElem?_eq_none (by omega)) hE

theorem zz_item {z TI TO i1 i2 l1 l2 : Addr} {r1 r2 : Bool} {n1 n2 k : Nat} {xs ys : Array Value} {x y a b : Value} {Q : Value → Shared → Prop} (D : ZipApart z TI TO i1 i2 l1 l2)
    (hz : IsZip s.heap z TI TO .none) (hTI : IsPair s.heap TI (.ref i1) (.ref i2)) (hTO : IsPair s.heap TO a b)
    (h1 : IsIt s.heap i1 l1 r1 n1 k) (h2 : IsIt s.heap i2 l2 r2 n2 k) (hl1 : s.heap.IsList l1 xs) (hl2 : s.heap.IsList l2 ys) (hk1 : k < n1) (hk2 : k < n2) (hx : xs[itPos r1 n1 k]? = some x) (hy : ys[itPos r2 n2 k]? = some y)
    (hQ : ∀ h', IsZip h' z TI TO (rawInt s.heap.objs.size) → IsPair h' TO x y → IsIt h' i1 l1 r1 n1 (k + 1) → IsIt h' i2 l2 r2 n2 (k + 1) → IsPair h' s.heap.objs.size x y → h'.objs.size = s.heap.objs.size + 1 →
      (∀ c o, c ≠ z → c ≠ TO → c ≠ i1 → c ≠ i2 → s.heap.get? c = some o → h'.get? c = some o) → Q (.ref s.heap.objs.size) { s with heap := h' }) :
    wpAny (model prog w) A (Builtin.«zip.__next__» ⟨[.ref z], []⟩) (fun fin s' => ∃ v, fin = .done (.ret v) ∧ Q v s') E s := by
  show wpAny _ _ (field (.ref z) 2 >>= _) _ _ _
  refine wpAny_bind (wpAny_field hz rfl (x := .bool false) rfl ?_)
  show wpAny _ _ (field (.ref z) 3 >>= _) _ _ _
  refine wpAny_bind (wpAny_field hz rfl (x := .ref TI) rfl ?_)
  refine wpAny_bind (wpAny_seqItems hTI rfl ?_)
  show wpAny _ _ (Builtin.SmallTypes.ownedTupleIsFree (.ref z) >>= _) _ _ _
  refine wpAny_bind ?_
  unfold Builtin.SmallTypes.ownedTupleIsFree
  refine wpAny_bind (wpAny_field hz rfl (x := .none) rfl (wpAny_pure ?_))
  simp only [if_true]
  refine wpAny_bind (wpAny_rule ?_)
  refine wpAny_bind (wpAny_field hz rfl (x := .ref TO) rfl ?_)
  refine wpAny_bind (wpAny_setField_rec hz (by simp) fun h₁ hz₁ hs₁ => ?_)
  replace hz₁ : IsZip h₁ z TI TO .ellipsis := hz₁
  refine wpAny_bind ?_
  simp only [List.zipIdx_cons, List.zipIdx_nil, List.forIn_cons, List.forIn_nil]

  refine wpAny_bind (wpAny_bind (wpAny_onRaise ?_))
  show wpAny _ _ (Builtin.SmallTypes.nextOf (.ref i1) >>= _) _ _ _
  refine wpAny_bind (nx_item (h1.extBut hs₁.extBut D.i1z) (hl1.extBut hs₁.extBut D.l1z) hk1 hx fun h₂ h1₂ hs₂ => wpAny_pure ?_)
  have hTO₂ : IsPair h₂ TO a b := hs₂.extBut _ _ D.TOi1 (hs₁.extBut _ _ D.TOz hTO)
  refine wpAny_bind (wpAny_seqItems hTO₂ rfl ?_)
  refine wpAny_bind (wpAny_updateSeq_pair hTO₂ fun h₃ hTO₃ hs₃ => ?_)
  replace hTO₃ : IsPair h₃ TO x b := hTO₃
  refine wpAny_bind (wpAny_letGo (wpAny_pure ?_))

  refine wpAny_bind (wpAny_bind (wpAny_onRaise ?_))
  show wpAny _ _ (Builtin.SmallTypes.nextOf (.ref i2) >>= _) _ _ _
  refine wpAny_bind (nx_item (((h2.extBut hs₁.extBut D.i2z).extBut hs₂.extBut D.i12.symm).extBut hs₃.extBut D.TOi2.symm)
    (((hl2.extBut hs₁.extBut D.l2z).extBut hs₂.extBut D.l2i1).extBut hs₃.extBut D.l2TO) hk2 hy fun h₄ h2₄ hs₄ => wpAny_pure ?_)
  have hTO₄ : IsPair h₄ TO x b := hs₄.extBut _ _ D.TOi2 hTO₃
  refine wpAny_bind (wpAny_seqItems hTO₄ rfl ?_)
  refine wpAny_bind (wpAny_updateSeq_pair hTO₄ fun h₅ hTO₅ hs₅ => ?_)
  replace hTO₅ : IsPair h₅ TO x y := hTO₅
  refine wpAny_bind (wpAny_letGo (wpAny_pure (wpAny_pure ?_)))

  refine wpAny_bind (wpAny_seqItems hTO₅ rfl ?_)
  refine wpAny_bind (wpAny_newTuple ?_)
  have hsz : h₅.objs.size = s.heap.objs.size := by rw [hs₅.1, hs₄.1, hs₃.1, hs₂.1, hs₁.1]
  have hz₅ : IsZip h₅ z TI TO .ellipsis := hs₅.extBut _ _ D.TOz.symm (hs₄.extBut _ _ D.i2z.symm (hs₃.extBut _ _ D.TOz.symm (hs₂.extBut _ _ D.i1z.symm hz₁)))
  have hk₅ : ∀ c o, c ≠ z → c ≠ TO → c ≠ i1 → c ≠ i2 → s.heap.get? c = some o → h₅.get? c = some o := fun c o c1 c2 c3 c4 e =>
    hs₅.extBut _ _ c2 (hs₄.extBut _ _ c4 (hs₃.extBut _ _ c2 (hs₂.extBut _ _ c3 (hs₁.extBut _ _ c1 e))))
  have h1₅ : IsIt h₅ i1 l1 r1 n1 (k + 1) := ((h1₂.extBut hs₃.extBut D.TOi1.symm).extBut hs₄.extBut D.i12).extBut hs₅.extBut D.TOi1.symm
  have h2₅ : IsIt h₅ i2 l2 r2 n2 (k + 1) := h2₄.extBut hs₅.extBut D.TOi2.symm
  have hzlt : z < h₅.objs.size := Heap.lt_size hz₅
  have hTOlt : TO < h₅.objs.size := Heap.lt_size hTO₅
  have hi1lt : i1 < h₅.objs.size := by obtain ⟨_, e, _⟩ := h1₅.there; exact Heap.lt_size e
  have hi2lt : i2 < h₅.objs.size := by obtain ⟨_, e, _⟩ := h2₅.there; exact Heap.lt_size e
  show wpAny _ _ (Builtin.SmallTypes.ownedTupleHandOut (.ref z) (.ref h₅.objs.size) >>= _) _ _ _
  refine wpAny_bind ?_
  unfold Builtin.SmallTypes.ownedTupleHandOut
  have hz₆ : IsZip (h₅.push { cls := .type "tuple", data := .seq #[x, y] }) z TI TO .ellipsis := Heap.get?_push_of_some _ hz₅
  refine wpAny_bind (wpAny_setField_rec hz₆ (by simp) fun h₇ hz₇ hs₇ => ?_)
  replace hz₇ : IsZip h₇ z TI TO (rawInt h₅.objs.size) := hz₇
  refine wpAny_setField_rec hz₇ (by simp) fun h₈ hz₈ hs₈ => ?_
  replace hz₈ : IsZip h₈ z TI TO (rawInt h₅.objs.size) := hz₈
  have up : ∀ c o, c ≠ z → h₅.get? c = some o → h₈.get? c = some o := fun c o c1 e => hs₈.extBut _ _ c1 (hs₇.extBut _ _ c1 (Heap.get?_push_of_some _ e))
  have hT₈ : IsPair h₈ h₅.objs.size x y := hs₈.extBut _ _ (Nat.ne_of_gt hzlt) (hs₇.extBut _ _ (Nat.ne_of_gt hzlt) (Heap.get?_push_size _ rfl))
  have hz8 : h₈.objs.size = h₅.objs.size + 1 := by rw [hs₈.1, hs₇.1, Heap.size_push]
  rw [hsz] at hz₈ hT₈ hz8
  refine wpAny_pure ⟨_, rfl, ?_⟩
  show Q (.ref h₅.objs.size) _
  rw [hsz]
  exact hQ h₈ hz₈ (up _ _ D.TOz hTO₅) (h1₅.at fun o e => up _ o D.i1z e) (h2₅.at fun o e => up _ o D.i2z e) hT₈ hz8 fun c o c1 c2 c3 c4 e => up c o c1 (hk₅ c o c1 c2 c3 c4 e)

theorem zz_end {z TI TO i1 i2 l1 l2 : Addr} {r1 r2 : Bool} {n1 n2 k : Nat} {xs ys : Array Value} {a b : Value} {Q : Fin → Shared → Prop} (hh : A.handled = none) (D : ZipApart z TI TO i1 i2 l1 l2)
    (hz : IsZip s.heap z TI TO .none) (hTI : IsPair s.heap TI (.ref i1) (.ref i2)) (hTO : IsPair s.heap TO a b)
    (h1 : IsIt s.heap i1 l1 r1 n1 k) (h2 : IsIt s.heap i2 l2 r2 n2 k) (hl1 : s.heap.IsList l1 xs) (hl2 : s.heap.IsList l2 ys) (e1 : xs.size = n1) (e2 : ys.size = n2) (hend : n1 ≤ k ∨ n2 ≤ k)
    (hE : ∀ h' e, (∀ c o, c ≠ z → c ≠ TO → c ≠ i1 → c ≠ i2 → s.heap.get? c = some o → h'.get? c = some o) → (∃ o, h'.get? e = some o ∧ o.cls = .type "StopIteration") → E (.ref e) { s with heap := h' }) :
    wpAny (model prog w) A (Builtin.«zip.__next__» ⟨[.ref z], []⟩) Q E s := by
  show wpAny _ _ (field (.ref z) 2 >>= _) _ _ _
  refine wpAny_bind (wpAny_field hz rfl (x := .bool false) rfl ?_)
  show wpAny _ _ (field (.ref z) 3 >>= _) _ _ _
  refine wpAny_bind (wpAny_field hz rfl (x := .ref TI) rfl ?_)
  refine wpAny_bind (wpAny_seqItems hTI rfl ?_)
  show wpAny _ _ (Builtin.SmallTypes.ownedTupleIsFree (.ref z) >>= _) _ _ _
  refine wpAny_bind ?_
  unfold Builtin.SmallTypes.ownedTupleIsFree
  refine wpAny_bind (wpAny_field hz rfl (x := .none) rfl (wpAny_pure ?_))
  simp only [if_true]
  refine wpAny_bind (wpAny_rule ?_)
  refine wpAny_bind (wpAny_field hz rfl (x := .ref TO) rfl ?_)
  refine wpAny_bind (wpAny_setField_rec hz (by simp) fun h₁ hz₁ hs₁ => ?_)
  replace hz₁ : IsZip h₁ z TI TO .ellipsis := hz₁
  refine wpAny_bind ?_
  simp only [List.zipIdx_cons, List.zipIdx_nil, List.forIn_cons, List.forIn_nil]
  refine wpAny_bind (wpAny_bind (wpAny_onRaise ?_))
  show wpAny _ _ (Builtin.SmallTypes.nextOf (.ref i1) >>= _) _ _ _
  by_cases hk1 : n1 ≤ k
  · refine wpAny_bind (nx_end hh (h1.extBut hs₁.extBut D.i1z) (hl1.extBut hs₁.extBut D.l1z) hk1 e1 fun h₂ e hs₂ he => ?_)
    obtain ⟨oe, hoe, hce⟩ := he
    have hz₂ : IsZip h₂ z TI TO .ellipsis := hs₂ _ _ D.i1z.symm hz₁
    have hez : e ≠ z := fun x => by subst x; rw [hz₂] at hoe; cases hoe; simp at hce
    refine wpAny_setField_rec hz₂ (by simp) fun h₃ _ hs₃ => hE h₃ e (fun c o c1 _ c3 _ x => hs₃.extBut _ _ c1 (hs₂ _ _ c3 (hs₁.extBut _ _ c1 x))) ⟨oe, hs₃.extBut _ _ hez hoe, hce⟩
  · have hk2 : n2 ≤ k := by rcases hend with h | h; exact absurd h hk1; exact h
    have hp : itPos r1 n1 k < xs.size := by cases r1 <;> simp only [itPos] <;> omega
    refine wpAny_bind (nx_item (h1.extBut hs₁.extBut D.i1z) (hl1.extBut hs₁.extBut D.l1z) (by omega) (Array.getElem?_eq_getElem hp) fun h₂ h1₂ hs₂ => wpAny_pure ?_)
    have hTO₂ : IsPair h₂ TO a b := hs₂.extBut _ _ D.TOi1 (hs₁.extBut _ _ D.TOz hTO)
    refine wpAny_bind (wpAny_seqItems hTO₂ rfl ?_)
    refine wpAny_bind (wpAny_updateSeq_pair hTO₂ fun h₃ hTO₃ hs₃ => ?_)
    refine wpAny_bind (wpAny_letGo (wpAny_pure ?_))
    refine wpAny_bind (wpAny_bind (wpAny_onRaise ?_))
    show wpAny _ _ (Builtin.SmallTypes.nextOf (.ref i2) >>= _) _ _ _
    refine wpAny_bind (nx_end hh (((h2.extBut hs₁.extBut D.i2z).extBut hs₂.extBut D.i12.symm).extBut hs₃.extBut D.TOi2.symm)
      (((hl2.extBut hs₁.extBut D.l2z).extBut hs₂.extBut D.l2i1).extBut hs₃.extBut D.l2TO) hk2 e2 fun h₄ e hs₄ he => ?_)
    obtain ⟨oe, hoe, hce⟩ := he
    have hz₄ : IsZip h₄ z TI TO .ellipsis := hs₄ _ _ D.i2z.symm (hs₃.extBut _ _ D.TOz.symm (hs₂.extBut _ _ D.i1z.symm hz₁))
    have hez : e ≠ z := fun x => by subst x; rw [hz₄] at hoe; cases hoe; simp at hce
    refine wpAny_setField_rec hz₄ (by simp) fun h₅ _ hs₅ => hE h₅ e (fun c o c1 c2 c3 c4 x => hs₅.extBut _ _ c1 (hs₄ _ _ c4 (hs₃.extBut _ _ c2 (hs₂.extBut _ _ c3 (hs₁.extBut _ _ c1 x))))) ⟨oe, hs₅.extBut _ _ hez hoe, hce⟩

theorem pyNext_zz_item {z TI TO i1 i2 l1 l2 : Addr} {r1 r2 : Bool} {n1 n2 k : Nat} {xs ys : Array Value} {x y a b : Value} {Q : Option Value → Shared → Prop} (D : ZipApart z TI TO i1 i2 l1 l2)
    (hz : IsZip s.heap z TI TO .none) (hTI : IsPair s.heap TI (.ref i1) (.ref i2)) (hTO : IsPair s.heap TO a b)
    (h1 : IsIt s.heap i1 l1 r1 n1 k) (h2 : IsIt s.heap i2 l2 r2 n2 k) (hl1 : s.heap.IsList l1 xs) (hl2 : s.heap.IsList l2 ys) (hk1 : k < n1) (hk2 : k < n2) (hx : xs[itPos r1 n1 k]? = some x) (hy : ys[itPos r2 n2 k]? = some y)
    (hQ : ∀ h', IsZip h' z TI TO (rawInt s.heap.objs.size) → IsPair h' TO x y → IsIt h' i1 l1 r1 n1 (k + 1) → IsIt h' i2 l2 r2 n2 (k + 1) → IsPair h' s.heap.objs.size x y → h'.objs.size = s.heap.objs.size + 1 →
      (∀ c o, c ≠ z → c ≠ TO → c ≠ i1 → c ≠ i2 → s.heap.get? c = some o → h'.get? c = some o) → Q (some (.ref s.heap.objs.size)) { s with heap := h' }) :
    wpAny (model prog w) A (pyNext (.ref z)) Q E s := by
  have hT : s.TypeIs (.ref z) "zip" := ⟨_, hz, rfl⟩
  unfold pyNext
  exact wpAny_bind (wpAny_attempt (wpAny_callSpecial?_slot (name := Str.ofString "__next__") hT F.slot_zip_next
    (wpAny_call_entry F.slot_zip_next hT F.entry_zip_next
      (zz_item D hz hTI hTO h1 h2 hl1 hl2 hk1 hk2 hx hy fun h' a1 a2 a3 a4 a5 a6 a7 => wpAny_pure (hQ h' a1 a2 a3 a4 a5 a6 a7)) (F.args_zip_next_1 _))))
theorem pyNext_zz_end {z TI TO i1 i2 l1 l2 : Addr} {r1 r2 : Bool} {n1 n2 k : Nat} {xs ys : Array Value} {a b : Value} {Q : Option Value → Shared → Prop} (hh : A.handled = none) (D : ZipApart z TI TO i1 i2 l1 l2)
    (hz : IsZip s.heap z TI TO .none) (hTI : IsPair s.heap TI (.ref i1) (.ref i2)) (hTO : IsPair s.heap TO a b)
    (h1 : IsIt s.heap i1 l1 r1 n1 k) (h2 : IsIt s.heap i2 l2 r2 n2 k) (hl1 : s.heap.IsList l1 xs) (hl2 : s.heap.IsList l2 ys) (e1 : xs.size = n1) (e2 : ys.size = n2) (hend : n1 ≤ k ∨ n2 ≤ k)
    (hQ : ∀ h', (∀ c o, c ≠ z → c ≠ TO → c ≠ i1 → c ≠ i2 → s.heap.get? c = some o → h'.get? c = some o) → Q none { s with heap := h' }) : wpAny (model prog w) A (pyNext (.ref z)) Q E s := by
  have hT : s.TypeIs (.ref z) "zip" := ⟨_, hz, rfl⟩
  unfold pyNext
  refine wpAny_bind (wpAny_attempt (wpAny_callSpecial?_slot (name := Str.ofString "__next__") hT F.slot_zip_next
    (wpAny_call_entry F.slot_zip_next hT F.entry_zip_next (zz_end hh D hz hTI hTO h1 h2 hl1 hl2 e1 e2 hend fun h' e hk he => ?_) (F.args_zip_next_1 _))))
  obtain ⟨o, ho, hc⟩ := he
  refine wpAny_bind (wpAny_isInstance (T := "StopIteration") (b := true) ⟨o, ho, hc⟩ isSubtype_stop ?_)
  exact wpAny_pure (hQ _ hk)
end
end Zp
end
section
set_option maxRecDepth 100000
set_option maxHeartbeats 1000000
/-! Zp2: what a loop over such a zip is given. -/
namespace Zp
open PySem PySem.Spec PyProof.Rows L2
open PySem.Sem (wp)
def Itzz (K : PySem.W.Frag) (r1 r2 : Bool) (n1 n2 : Nat) (a b : Addr) : It :=
  ⟨fun i H => ∃ (xs ys : List V) (x y : V), SqL K H a xs ∧ SqL K H b ys ∧ i < n1 ∧ i < n2 ∧ xs[itPos r1 n1 i]? = some x ∧ ys[itPos r2 n2 i]? = some y,
    fun i H v H' => ∃ T x y, v = .ref T ∧ H T = none ∧ H' = upd H T (.tup [x, y]) ∧ (∀ xs, SqL K H a xs → xs[itPos r1 n1 i]? = some x) ∧ ∀ ys, SqL K H b ys → ys[itPos r2 n2 i]? = some y,
    fun i H => ∃ xs ys : List V, SqL K H a xs ∧ SqL K H b ys ∧ xs.length = n1 ∧ ys.length = n2 ∧ (n1 ≤ i ∨ n2 ≤ i)⟩
theorem turn_zz {P : Program} {w : World} {K : PySem.W.Frag} {elts : List Expr} {kk : Nat} {tpos : Pos} {r1 r2 : Bool} {n1 n2 : Nat} {a b z TI TO i1 i2 : Addr} (D : ZipApart z TI TO i1 i2 a b) :
    Turn P w K (.Tuple elts kk tpos) (Itzz K r1 r2 n1 n2 a b) [z, TI, TO, i1, i2] z (fun i h => IsZip h z TI TO .none ∧ IsPair h TI (.ref i1) (.ref i2) ∧ (∃ x y, IsPair h TO x y) ∧ IsIt h i1 a r1 n1 i ∧ IsIt h i2 b r2 n2 i) where
  mem := by simp
  obj := fun i h st c hc => by
    obtain ⟨hz, hTI, ⟨x, y, hTO⟩, h1, h2⟩ := st
    obtain ⟨o1, e1, d1⟩ := h1.there
    obtain ⟨o2, e2, d2⟩ := h2.there
    have e' : c = z ∨ c = TI ∨ c = TO ∨ c = i1 ∨ c = i2 := by simpa using hc
    rcases e' with q | q | q | q | q
    · rw [q]; exact ⟨_, hz, fun v q => nomatch q⟩
    · rw [q]; exact ⟨_, hTI, fun v q => nomatch q⟩
    · rw [q]; exact ⟨_, hTO, fun v q => nomatch q⟩
    · rw [q]; exact ⟨o1, e1, d1⟩
    · rw [q]; exact ⟨o2, e2, d2⟩
  keep := fun i h h' st k => by
    obtain ⟨hz, hTI, ⟨x, y, hTO⟩, h1, h2⟩ := st
    exact ⟨k z (by simp) _ hz, k TI (by simp) _ hTI, ⟨x, y, k TO (by simp) _ hTO⟩, h1.at fun o q => k i1 (by simp) o q, h2.at fun o q => k i2 (by simp) o q⟩
  item := by
    intro X hP hw hK hc i pins s σ H E I hf st hg
    subst hP hw hK
    obtain ⟨hz, hTI, ⟨x0, y0, hTO⟩, h1, h2⟩ := st
    obtain ⟨xs, ys, x, y, hqx, hqy, hk1, hk2, hx, hy⟩ := hg
    obtain ⟨its, rv, p, _⟩ := I.list hqx
    obtain ⟨its2, rv2, p2, _⟩ := I.list hqy
    obtain ⟨u, hu, ru⟩ := rv.get hx
    obtain ⟨u2, hu2, ru2⟩ := rv2.get hy
    have hzl : z < s.heap.objs.size := Heap.lt_size hz
    refine pyNext_zz_item D hz hTI hTO h1 h2 p.isList p2.isList hk1 hk2 (x := u) (y := u2) (by simpa using hu) (by simpa using hu2) fun h' z' TO' h1' h2' hT hsz hk => ?_
    refine ⟨_, rfl, wpAny_letOwnedTupleGo_zip (s := { s with heap := h' }) z' fun h'' z'' sb => ?_⟩
    have hT2 : h''.get? s.heap.objs.size = some { cls := .type "tuple", data := .seq #[u, u2] } := (sb.2 _ (Nat.ne_of_gt hzl)).trans hT
    have new : ObjOk X.prog X.w (upd H s.heap.objs.size (.tup [x, y])) h'' s.heap.objs.size (.tup [x, y]) :=
      ⟨by show 2 ≤ sizeLine; decide, [u, u2], .cons ru (.cons ru2 .nil), ⟨_, hT2, rfl, _, rfl⟩⟩
    have I1 : Inv X pins σ (upd H s.heap.objs.size (.tup [x, y])) { s with heap := h'' } :=
      I.turnedNew (t' := s.toks) (ch := [z, TI, TO, i1, i2]) (fun c o hb q => (sb.2 c (fun q' => hb (by simp [q']))).trans (hk c o (fun q' => hb (by simp [q'])) (fun q' => hb (by simp [q'])) (fun q' => hb (by simp [q'])) (fun q' => hb (by simp [q'])) q)) hf (Nat.le_refl _) new
    refine ⟨.ref s.heap.objs.size, _, I1, rfl, ⟨_, x, y, rfl, I.hok.fresh (Nat.le_refl _), rfl, fun l hl => by rw [I.list_inj hl hqx]; exact hx, fun l hl => by rw [I.list_inj hl hqy]; exact hy⟩, ⟨z'', ?_, ⟨u, u2, ?_⟩, ?_, ?_⟩, fun c hcm => ?_⟩
    · exact (sb.2 _ D.TIz).trans (hk _ _ D.TIz D.TITO D.TIi1 D.TIi2 hTI)
    · exact (sb.2 _ D.TOz).trans TO'
    · exact h1'.at fun o q => (sb.2 _ D.i1z).trans q
    · exact h2'.at fun o q => (sb.2 _ D.i2z).trans q
    · have hlt : c < s.heap.objs.size := by
        have e' : c = z ∨ c = TI ∨ c = TO ∨ c = i1 ∨ c = i2 := by simpa using hcm
        rcases e' with q | q | q | q | q
        · rw [q]; exact hzl
        · rw [q]; exact Heap.lt_size hTI
        · rw [q]; exact Heap.lt_size hTO
        · rw [q]; obtain ⟨_, e1, _⟩ := h1.there; exact Heap.lt_size e1
        · rw [q]; obtain ⟨_, e2, _⟩ := h2.there; exact Heap.lt_size e2
      rw [upd_ne (Nat.ne_of_lt hlt)]
      exact (hf c hcm).1
  done := by
    intro X hP hw hK hc i pins s σ H E I hf st hg
    subst hP hw hK
    obtain ⟨hz, hTI, ⟨x0, y0, hTO⟩, h1, h2⟩ := st
    obtain ⟨xs, ys, hqx, hqy, e1, e2, hend⟩ := hg
    obtain ⟨its, rv, p, _⟩ := I.list hqx
    obtain ⟨its2, rv2, p2, _⟩ := I.list hqy
    have l1 := rv.length
    have l2 := rv2.length
    exact pyNext_zz_end (I.ok.hd hc) D hz hTI hTO h1 h2 p.isList p2.isList (by simp; omega) (by simp; omega) hend fun h' hk => ⟨rfl, I.turnedL (t' := s.toks) (ch := [z, TI, TO, i1, i2]) (fun c o hb q =>
      hk c o (fun q' => hb (by simp [q'])) (fun q' => hb (by simp [q'])) (fun q' => hb (by simp [q'])) (fun q' => hb (by simp [q'])) q) hf⟩
  self := fun A i s Q E st h => wpAny_pyIter_zip st.1 h

/-! ### zip's own making -/
abbrev yH1 (h : Heap) (i1 i2 : Addr) : Heap := h.push { cls := .type "tuple", data := .seq #[.ref i1, .ref i2] }
abbrev yH2 (h : Heap) (i1 i2 : Addr) : Heap := (yH1 h i1 i2).push { cls := .type "tuple", data := .seq #[.none, .none] }
abbrev yH3 (h : Heap) (i1 i2 : Addr) : Heap := (yH2 h i1 i2).push { cls := .type "zip", data := .fields #[.none, .bool false, .bool false, .ref h.objs.size, .ref (yH1 h i1 i2).objs.size] }
abbrev xH1 (h : Heap) (l2 : Addr) : Heap := h.push { cls := .type "list_iterator", data := .fields #[.ref l2, .int 0 0] }
theorem meets_zip_rl (i1 l1 l2 : Addr) (i : Int) (ys : Array Value) :
    Meets (Builtin.«zip.__new__» ⟨[.type "zip", .ref i1, .ref l2], []⟩) (fun _ R s => s.heap.IsRevIter i1 l1 i ∧ s.heap.IsList l2 ys ∧
      R (.ok (.ret (.ref (yH2 (xH1 s.heap l2) i1 s.heap.objs.size).objs.size))) { s with heap := yH3 (xH1 s.heap l2) i1 s.heap.objs.size }) :=
  .of_wp fun prog w A R s h => by
    obtain ⟨hp, g, d, tk, os⟩ := s; obtain ⟨hl1, hl2, h⟩ := h
    have hsub := sub_zip
    have hL1 : Heap.IsRevIter (Shared.heap ⟨hp, g, d, tk, os⟩) i1 l1 i := hl1
    have hL2 : Heap.IsList (Shared.heap ⟨hp, g, d, tk, os⟩) l2 ys := hl2
    wp_walk using wpAny_pyIter_revIter hL1, wpAny_pyIter_list hL2
    exact ⟨_, rfl, h⟩
theorem meets_zip_rr (i1 l1 i2 l2 : Addr) (i j : Int) :
    Meets (Builtin.«zip.__new__» ⟨[.type "zip", .ref i1, .ref i2], []⟩) (fun _ R s => s.heap.IsRevIter i1 l1 i ∧ s.heap.IsRevIter i2 l2 j ∧
      R (.ok (.ret (.ref (yH2 s.heap i1 i2).objs.size))) { s with heap := yH3 s.heap i1 i2 }) :=
  .of_wp fun prog w A R s h => by
    obtain ⟨hp, g, d, tk, os⟩ := s; obtain ⟨hl1, hl2, h⟩ := h
    have hsub := sub_zip
    have hL1 : Heap.IsRevIter (Shared.heap ⟨hp, g, d, tk, os⟩) i1 l1 i := hl1
    have hL2 : Heap.IsRevIter (Shared.heap ⟨hp, g, d, tk, os⟩) i2 l2 j := hl2
    wp_walk using wpAny_pyIter_revIter hL1, wpAny_pyIter_revIter hL2
    exact ⟨_, rfl, h⟩
theorem yFacts (h : Heap) (i1 i2 : Addr) : IsZip (yH3 h i1 i2) (h.objs.size + 2) h.objs.size (h.objs.size + 1) .none ∧ IsPair (yH3 h i1 i2) h.objs.size (.ref i1) (.ref i2) ∧ IsPair (yH3 h i1 i2) (h.objs.size + 1) .none .none ∧
    (yH2 h i1 i2).objs.size = h.objs.size + 2 ∧ ∀ c o, h.get? c = some o → (yH3 h i1 i2).get? c = some o := by
  have z1 : (yH1 h i1 i2).objs.size = h.objs.size + 1 := Heap.size_push ..
  have z2 : (yH2 h i1 i2).objs.size = h.objs.size + 2 := by rw [Heap.size_push, z1]
  have g3 : (yH3 h i1 i2).get? (yH2 h i1 i2).objs.size = some _ := Heap.get?_push_size _ rfl
  have g2 : (yH3 h i1 i2).get? (yH1 h i1 i2).objs.size = some _ := Heap.get?_push_of_some _ (Heap.get?_push_size _ rfl)
  have g1 : (yH3 h i1 i2).get? h.objs.size = some _ := Heap.get?_push_of_some _ (Heap.get?_push_of_some _ (Heap.get?_push_size _ rfl))
  rw [z1, z2] at g3
  rw [z1] at g2
  exact ⟨g3, g1, g2, z2, fun c o x => Heap.get?_push_of_some _ (Heap.get?_push_of_some _ (Heap.get?_push_of_some _ x))⟩
section
variable {prog : Program} {w : World} {A : Around} {E : Value → Shared → Prop} {s : Shared}
theorem call_zip_rl {i1 l1 l2 : Addr} {i : Int} {ys : Array Value} {Q : Value → Shared → Prop} (hl1 : s.heap.IsRevIter i1 l1 i) (hl2 : s.heap.IsList l2 ys)
    (h : ∀ h', IsZip h' (s.heap.objs.size + 3) (s.heap.objs.size + 1) (s.heap.objs.size + 2) .none → IsPair h' (s.heap.objs.size + 1) (.ref i1) (.ref s.heap.objs.size) →
      IsPair h' (s.heap.objs.size + 2) .none .none → h'.IsListIter s.heap.objs.size l2 0 →
      (∀ c o, s.heap.get? c = some o → h'.get? c = some o) → Q (.ref (s.heap.objs.size + 3)) { s with heap := h' }) :
    wpAny (model prog w) A (call (.type "zip") [.ref i1, .ref l2]) Q E s := by
  refine callType_new F.called_zip (by decide) (F.typeCall_zip_2 _ _) (F.newCall_zip_2 _ _) (fun obj => F.args_object_init_3 obj _ _) F.entry_zip_new
    (meets_zip_rl i1 l1 l2 i ys) ⟨hl1, hl2, ?_⟩
  have z0 : (xH1 s.heap l2).objs.size = s.heap.objs.size + 1 := Heap.size_push ..
  obtain ⟨a1, a2, a3, a4, a5⟩ := yFacts (xH1 s.heap l2) i1 s.heap.objs.size
  have g0 : (xH1 s.heap l2).get? s.heap.objs.size = some _ := Heap.get?_push_size _ rfl
  rw [z0] at a1 a2 a3 a4
  show _ ∧ _
  rw [a4]
  exact ⟨⟨_, a1, rfl⟩, h _ a1 a2 a3 ⟨_, a5 _ _ g0, rfl, rfl⟩ fun c o x => a5 c o (Heap.get?_push_of_some _ x)⟩
theorem call_zip_rr {i1 l1 i2 l2 : Addr} {i j : Int} {Q : Value → Shared → Prop} (hl1 : s.heap.IsRevIter i1 l1 i) (hl2 : s.heap.IsRevIter i2 l2 j)
    (h : ∀ h', IsZip h' (s.heap.objs.size + 2) s.heap.objs.size (s.heap.objs.size + 1) .none → IsPair h' s.heap.objs.size (.ref i1) (.ref i2) →
      IsPair h' (s.heap.objs.size + 1) .none .none → (∀ c o, s.heap.get? c = some o → h'.get? c = some o) → Q (.ref (s.heap.objs.size + 2)) { s with heap := h' }) :
    wpAny (model prog w) A (call (.type "zip") [.ref i1, .ref i2]) Q E s := by
  refine callType_new F.called_zip (by decide) (F.typeCall_zip_2 _ _) (F.newCall_zip_2 _ _) (fun obj => F.args_object_init_3 obj _ _) F.entry_zip_new
    (meets_zip_rr i1 l1 i2 l2 i j) ⟨hl1, hl2, ?_⟩
  obtain ⟨a1, a2, a3, a4, a5⟩ := yFacts s.heap i1 i2
  show _ ∧ _
  rw [a4]
  exact ⟨⟨_, a1, rfl⟩, h _ a1 a2 a3 a5⟩
end
end Zp
end
section
set_option maxRecDepth 100000
set_option maxHeartbeats 1000000
/-! Zp3: the readings of zip(reversed(a), b) and zip(reversed(a), reversed(b)). -/
namespace Zp
open PySem PySem.Spec PyProof.Rows L2 RT RZ ClX
open PySem.Sem (wp)
/-- the tracked lists -/
def iZrl (K : PySem.W.Frag) (t1 t2 : TE) : TI := fun σ H R => t1 σ H fun v H1 => ∃ (a : Addr) (xs : List V), v = .ref a ∧ SqL K H1 a xs ∧ t2 σ H1 fun v2 H2 => ∃ (b : Addr) (ys xs' : List V), v2 = .ref b ∧ SqL K H2 a xs' ∧ SqL K H2 b ys ∧ R (Itzz K true false xs.length ys.length a b) H2
def iZrr (K : PySem.W.Frag) (t1 t2 : TE) : TI := fun σ H R => t1 σ H fun v H1 => ∃ (a : Addr) (xs : List V), v = .ref a ∧ SqL K H1 a xs ∧ t2 σ H1 fun v2 H2 => ∃ (b : Addr) (ys xs' : List V), v2 = .ref b ∧ SqL K H2 a xs' ∧ SqL K H2 b ys ∧ R (Itzz K true true xs.length ys.length a b) H2
theorem lst_rev {h : Heap} {l it l' : Addr} {items : Array Value} {i : Int} (hl : h.IsList l items) (hr : h.IsRevIter it l' i) : l ≠ it := fun z => by
  obtain ⟨o, e, c, n, d⟩ := hl
  obtain ⟨o', e', c', d'⟩ := hr
  rw [z, e'] at e
  cases e
  rw [d] at d'
  cases d'
theorem apart_rl (N i1 l1 l2 : Nat) (h1 : l1 < N) (h2 : l2 < N) (h3 : i1 < N) (n1 : l1 ≠ i1) (n2 : l2 ≠ i1) : ZipApart (N + 3) (N + 1) (N + 2) i1 N l1 l2 := by
  constructor <;> first | exact n1 | exact n2 | (refine PySem.W.neN ?_; omega)
theorem apart_rr (N i1 l1 l2 : Nat) (h1 : l1 < N) (h2 : l2 < N) (h3 : i1 < N) (n1 : l1 ≠ i1) (n2 : l2 ≠ i1) : ZipApart (N + 1 + 2) (N + 1) (N + 1 + 1) i1 N l1 l2 := by
  constructor <;> first | exact n1 | exact n2 | (refine PySem.W.neN ?_; omega)
section
variable {X : Cx}
theorem pi_zip_rl {e e2 : Expr} {t1 t2 : TE} {p p2 pos pos2 tpos : Pos} {elts : List Expr} {kk : Nat} (hg : Gl X "zip") (hm : X.mg "zip" = none) (hg2 : Gl X "reversed") (hm2 : X.mg "reversed" = none) (h1 : PE X e t1) (h2 : PE X e2 t2)
    (hs : starEach [e] X.env = (false, eval e X.env) :: starEach [] X.env)
    (hs1 : starEach [.Call (.Name "reversed" p2) [e] [] pos2, e2] X.env = (false, eval (.Call (.Name "reversed" p2) [e] [] pos2) X.env) :: starEach [e2] X.env)
    (hs2 : starEach [e2] X.env = (false, eval e2 X.env) :: starEach [] X.env)
    (hpl : (backTo pos (starEach [e2] X.env)).any (·.1) = false) :
    PI X (.Tuple elts kk tpos) (.Call (.Name "zip" p) [.Call (.Name "reversed" p2) [e] [] pos2, e2] [] pos) (iZrl X.K t1 t2) := by
  refine ⟨fun pins s σ H R I h => ?_⟩
  refine Call_ (ld_blt I hg hm PyProof.Rows.boot_zip (PyProof.Rows.callWith_type1 (args_cons (Call_ (ld_blt I hg2 hm2 PyProof.Rows.boot_reversed (PyProof.Rows.callWith_type1 (args_cons (thn (h1.run pins s σ H _ I h) fun u s1 ⟨v, H1, I1, r1, q1⟩ => args_nil ?_) hs) hs rfl))) hs1) hs1 hpl))
  obtain ⟨a, xs, ev, hq, q⟩ := q1
  subst ev
  obtain rfl : u = Value.ref a := r1
  obtain ⟨its, rv, p', hz⟩ := I1.list hq
  have hl := rv.length
  refine call_reversed_list p'.isList ?_
  have g1 : (s1.heap.push (revObj a ((its.toArray.size : Int) - 1))).get? s1.heap.objs.size = some (revObj a ((its.toArray.size : Int) - 1)) := Heap.get?_push_size _ rfl
  have I2 : Inv X ((s1.heap.objs.size, revObj a ((its.toArray.size : Int) - 1)) :: pins) σ H1 { s1 with heap := s1.heap.push (revObj a ((its.toArray.size : Int) - 1)) } :=
    pin_new (t' := s1.toks) I1 (fun b o e => Heap.get?_push_of_some _ e) (Nat.le_refl _) g1 fun v z => by cases z
  have fp1 : FpOk X pins H1 s1.heap.objs.size := I1.fpOk (Nat.le_refl _) (I1.hok.fresh (Nat.le_refl _))
  refine args_cons (thn (h2.run _ _ σ H1 _ I2 q) fun u2 s2 ⟨v2, H2, I3, r2, q3⟩ => args_nil ?_) hs2
  obtain ⟨b, ys, xs', ev, hqx, hqy, q⟩ := q3
  subst ev
  obtain rfl : u2 = Value.ref b := r2
  have hit : s2.heap.IsRevIter s1.heap.objs.size a ((its.toArray.size : Int) - 1) := ⟨_, pin_at I3, rfl, rfl⟩
  have hun : H2 s1.heap.objs.size = none := pin_un I3
  have I4 : Inv X pins σ H2 s2 := unpin I3
  obtain ⟨its1, rv1, p1, _⟩ := I4.list hqx
  obtain ⟨its2, rv2, p2', _⟩ := I4.list hqy
  have n1 := lst_rev p1.isList hit
  have n2 := lst_rev p2'.isList hit
  have la := p1.lt
  have lb := p2'.lt
  have li : s1.heap.objs.size < s2.heap.objs.size := by obtain ⟨o, eo, _⟩ := hit; exact Heap.lt_size eo
  refine call_zip_rl hit p2'.isList fun h' a1 a2 a3 a4 a5 => wpAny_pyIter_zip a1 ?_
  have I5 : Inv X pins σ H2 { s2 with heap := h' } := I4.kept (t' := s2.toks) a5
  have D : ZipApart (s2.heap.objs.size + 3) (s2.heap.objs.size + 1) (s2.heap.objs.size + 2) s1.heap.objs.size s2.heap.objs.size a b := apart_rl s2.heap.objs.size s1.heap.objs.size a b la lb li n1 n2
  have e1 : ((its.toArray.size : Nat) : Int) - 1 = (xs.length : Int) - 1 - ((0 : Nat) : Int) := by simp only [List.size_toArray]; omega
  rw [e1] at hit
  have q1 : IsIt h' s1.heap.objs.size a true xs.length 0 := ⟨Nat.zero_le _, hit.at fun o eo => a5 _ _ eo⟩
  have q2 : IsIt h' s2.heap.objs.size b false ys.length 0 := a4
  refine ⟨s2.heap.objs.size + 3, [s2.heap.objs.size + 3, s2.heap.objs.size + 1, s2.heap.objs.size + 2, s1.heap.objs.size, s2.heap.objs.size], _, _, H2, rfl, I5, turn_zz D, ⟨a1, a2, ⟨_, _, a3⟩, q1, q2⟩, fun c hcm => ?_, q⟩
  have e' : c = s2.heap.objs.size + 3 ∨ c = s2.heap.objs.size + 1 ∨ c = s2.heap.objs.size + 2 ∨ c = s1.heap.objs.size ∨ c = s2.heap.objs.size := by simpa using hcm
  rcases e' with z | z | z | z | z
  · rw [z]; exact I4.fpOk (Nat.le_add_right _ _) (I4.hok.fresh (Nat.le_add_right _ _))
  · rw [z]; exact I4.fpOk (Nat.le_add_right _ _) (I4.hok.fresh (Nat.le_add_right _ _))
  · rw [z]; exact I4.fpOk (Nat.le_add_right _ _) (I4.hok.fresh (Nat.le_add_right _ _))
  · rw [z]; exact ⟨hun, fp1.2⟩
  · rw [z]; exact I4.fpOk (Nat.le_refl _) (I4.hok.fresh (Nat.le_refl _))
theorem pi_zip_rr {e e2 : Expr} {t1 t2 : TE} {p p2 p3 pos pos2 pos3 tpos : Pos} {elts : List Expr} {kk : Nat} (hg : Gl X "zip") (hm : X.mg "zip" = none) (hg2 : Gl X "reversed") (hm2 : X.mg "reversed" = none) (h1 : PE X e t1) (h2 : PE X e2 t2)
    (hs : starEach [e] X.env = (false, eval e X.env) :: starEach [] X.env)
    (hs1 : starEach [.Call (.Name "reversed" p2) [e] [] pos2, .Call (.Name "reversed" p3) [e2] [] pos3] X.env = (false, eval (.Call (.Name "reversed" p2) [e] [] pos2) X.env) :: starEach [.Call (.Name "reversed" p3) [e2] [] pos3] X.env)
    (hs2 : starEach [.Call (.Name "reversed" p3) [e2] [] pos3] X.env = (false, eval (.Call (.Name "reversed" p3) [e2] [] pos3) X.env) :: starEach [] X.env)
    (hs3 : starEach [e2] X.env = (false, eval e2 X.env) :: starEach [] X.env)
    (hpl : (backTo pos (starEach [.Call (.Name "reversed" p3) [e2] [] pos3] X.env)).any (·.1) = false) :
    PI X (.Tuple elts kk tpos) (.Call (.Name "zip" p) [.Call (.Name "reversed" p2) [e] [] pos2, .Call (.Name "reversed" p3) [e2] [] pos3] [] pos) (iZrr X.K t1 t2) := by
  refine ⟨fun pins s σ H R I h => ?_⟩
  refine Call_ (ld_blt I hg hm PyProof.Rows.boot_zip (PyProof.Rows.callWith_type1 (args_cons (Call_ (ld_blt I hg2 hm2 PyProof.Rows.boot_reversed (PyProof.Rows.callWith_type1 (args_cons (thn (h1.run pins s σ H _ I h) fun u s1 ⟨v, H1, I1, r1, q1⟩ => args_nil ?_) hs) hs rfl))) hs1) hs1 hpl))
  obtain ⟨a, xs, ev, hq, q⟩ := q1
  subst ev
  obtain rfl : u = Value.ref a := r1
  obtain ⟨its, rv, p', hz⟩ := I1.list hq
  have hl := rv.length
  refine call_reversed_list p'.isList ?_
  have g1 : (s1.heap.push (revObj a ((its.toArray.size : Int) - 1))).get? s1.heap.objs.size = some (revObj a ((its.toArray.size : Int) - 1)) := Heap.get?_push_size _ rfl
  have I2 : Inv X ((s1.heap.objs.size, revObj a ((its.toArray.size : Int) - 1)) :: pins) σ H1 { s1 with heap := s1.heap.push (revObj a ((its.toArray.size : Int) - 1)) } :=
    pin_new (t' := s1.toks) I1 (fun b o e => Heap.get?_push_of_some _ e) (Nat.le_refl _) g1 fun v z => by cases z
  have fp1 : FpOk X pins H1 s1.heap.objs.size := I1.fpOk (Nat.le_refl _) (I1.hok.fresh (Nat.le_refl _))
  refine args_cons (Call_ (ld_blt I2 hg2 hm2 PyProof.Rows.boot_reversed (PyProof.Rows.callWith_type1 (args_cons (thn (h2.run _ _ σ H1 _ I2 q) fun u2 s2 ⟨v2, H2, I3, r2, q3⟩ => args_nil ?_) hs3) hs3 rfl))) hs2
  obtain ⟨b, ys, xs', ev, hqx, hqy, q⟩ := q3
  subst ev
  obtain rfl : u2 = Value.ref b := r2
  have hit : s2.heap.IsRevIter s1.heap.objs.size a ((its.toArray.size : Int) - 1) := ⟨_, pin_at I3, rfl, rfl⟩
  have hun : H2 s1.heap.objs.size = none := pin_un I3
  have I4 : Inv X pins σ H2 s2 := unpin I3
  obtain ⟨its1, rv1, p1, _⟩ := I4.list hqx
  obtain ⟨its2, rv2, p2', _⟩ := I4.list hqy
  have hl2 := rv2.length
  have n1 := lst_rev p1.isList hit
  have n2 := lst_rev p2'.isList hit
  have la := p1.lt
  have lb := p2'.lt
  have li : s1.heap.objs.size < s2.heap.objs.size := by obtain ⟨o, eo, _⟩ := hit; exact Heap.lt_size eo
  refine call_reversed_list p2'.isList (args_nil ?_)
  have hit2 : (s2.heap.push (revObj b ((its2.toArray.size : Int) - 1))).IsRevIter s2.heap.objs.size b ((its2.toArray.size : Int) - 1) := ⟨_, Heap.get?_push_size _ rfl, rfl, rfl⟩
  have hit1 : (s2.heap.push (revObj b ((its2.toArray.size : Int) - 1))).IsRevIter s1.heap.objs.size a ((its.toArray.size : Int) - 1) := hit.at fun o eo => Heap.get?_push_of_some _ eo
  have sz : (s2.heap.push (revObj b ((its2.toArray.size : Int) - 1))).objs.size = s2.heap.objs.size + 1 := Heap.size_push ..
  refine call_zip_rr (s := { s2 with heap := s2.heap.push (revObj b ((its2.toArray.size : Int) - 1)) }) hit1 hit2 fun h' a1 a2 a3 a5 => ?_
  rw [sz] at a1 a2 a3 ⊢
  refine wpAny_pyIter_zip a1 ?_
  have up : ∀ c o, s2.heap.get? c = some o → h'.get? c = some o := fun c o eo => a5 c o (Heap.get?_push_of_some _ eo)
  have I5 : Inv X pins σ H2 { s2 with heap := h' } := I4.kept (t' := s2.toks) up
  have D : ZipApart (s2.heap.objs.size + 1 + 2) (s2.heap.objs.size + 1) (s2.heap.objs.size + 1 + 1) s1.heap.objs.size s2.heap.objs.size a b := apart_rr s2.heap.objs.size s1.heap.objs.size a b la lb li n1 n2
  have e1 : ((its.toArray.size : Nat) : Int) - 1 = (xs.length : Int) - 1 - ((0 : Nat) : Int) := by simp only [List.size_toArray]; omega
  have e2 : ((its2.toArray.size : Nat) : Int) - 1 = (ys.length : Int) - 1 - ((0 : Nat) : Int) := by simp only [List.size_toArray]; omega
  rw [e1] at hit
  have hit3 : h'.IsRevIter s2.heap.objs.size b ((its2.toArray.size : Int) - 1) := hit2.at fun o eo => a5 _ _ eo
  rw [e2] at hit3
  have q1 : IsIt h' s1.heap.objs.size a true xs.length 0 := ⟨Nat.zero_le _, hit.at fun o eo => up _ _ eo⟩
  have q2 : IsIt h' s2.heap.objs.size b true ys.length 0 := ⟨Nat.zero_le _, hit3⟩
  refine ⟨s2.heap.objs.size + 1 + 2, [s2.heap.objs.size + 1 + 2, s2.heap.objs.size + 1, s2.heap.objs.size + 1 + 1, s1.heap.objs.size, s2.heap.objs.size], _, _, H2, rfl, I5, turn_zz D, ⟨a1, a2, ⟨_, _, a3⟩, q1, q2⟩, fun c hcm => ?_, q⟩
  have e' : c = s2.heap.objs.size + 1 + 2 ∨ c = s2.heap.objs.size + 1 ∨ c = s2.heap.objs.size + 1 + 1 ∨ c = s1.heap.objs.size ∨ c = s2.heap.objs.size := by simpa using hcm
  have le1 : s2.heap.objs.size ≤ s2.heap.objs.size + 1 + 2 := by omega
  have le2 : s2.heap.objs.size ≤ s2.heap.objs.size + 1 + 1 := by omega
  rcases e' with z | z | z | z | z
  · rw [z]; exact I4.fpOk le1 (I4.hok.fresh le1)
  · rw [z]; exact I4.fpOk (Nat.le_add_right _ _) (I4.hok.fresh (Nat.le_add_right _ _))
  · rw [z]; exact I4.fpOk le2 (I4.hok.fresh le2)
  · rw [z]; exact ⟨hun, fp1.2⟩
  · rw [z]; exact I4.fpOk (Nat.le_refl _) (I4.hok.fresh (Nat.le_refl _))
end
end Zp
end
section
set_option maxRecDepth 100000
set_option maxHeartbeats 1000000
/-! Zp4: enumerate(reversed(a)). -/
namespace Ev
open PySem L2 RT RZ ClX
open Sem (wp)
theorem Draws_rev {prog : Program} {w : World} {A : Around} (hh : A.handled = none) (it a : Addr) (hne : a ≠ it) (items : Array Value) :
    Draws prog w A it [it, a] items.size (fun i v => items[items.size - 1 - i]? = some v) (fun i h => Zp.IsIt h it a true items.size i ∧ h.IsList a items) where
  live := fun _ _ st => let ⟨_, o, ho, _⟩ := st.1; ⟨o, ho⟩
  frame := fun _ _ _ st hk => ⟨st.1.at fun o e => hk it (by simp) o e, st.2.at fun o e => hk a (by simp) o e⟩
  item := fun i s Q E hi st hQ => by
    have hp : items.size - 1 - i < items.size := by omega
    refine Zp.nx_item st.1 st.2 hi (x := items[items.size - 1 - i]) (Array.getElem?_eq_getElem hp) fun h' hit' hs' => ?_
    exact hQ _ h' s.toks (Array.getElem?_eq_getElem hp) ⟨hit', st.2.extBut hs'.extBut hne⟩ hs'
  done := fun s Q E st hE => Zp.nx_end hh st.1 st.2 (Nat.le_refl _) rfl hE
theorem meets_enumR (i1 l1 : Addr) (i : Int) :
    Meets (Builtin.«enumerate.__new__» ⟨[.type "enumerate", .ref i1], []⟩) (fun _ R st => st.heap.IsRevIter i1 l1 i ∧
      R (.ok (.ret (.ref st.heap.objs.size))) { st with heap := st.heap.push { cls := .type "enumerate", data := .fields #[.none, .bool false, .ref i1, rawInt 0, .none, .none] } }) :=
  .of_wp fun prog w A R st hyp => by
    obtain ⟨hp, g, dr, tk, os⟩ := st
    obtain ⟨h1, hyp⟩ := hyp
    have hsub := sub_enumerate
    have hL1 : Heap.IsRevIter (Shared.heap ⟨hp, g, dr, tk, os⟩) i1 l1 i := h1
    wp_walk using wpAny_pyIter_revIter hL1
    refine wpAny_stack_any fun sk => wpAny_pure ?_
    split
    · rename_i c _ _ _ _ _
      cases (c == Value.type "enumerate")
      · (wp_walk using wpAny_pyIter_revIter hL1); exact ⟨_, rfl, hyp⟩
      · (wp_walk using wpAny_pyIter_revIter hL1); exact ⟨_, rfl, hyp⟩
    · (wp_walk using wpAny_pyIter_revIter hL1); exact ⟨_, rfl, hyp⟩
section
variable {prog : Program} {w : World} {A : Around} {E : Value → Shared → Prop} {s : Shared}
theorem call_enumR {i1 l1 : Addr} {i : Int} {Q : Value → Shared → Prop} (h1 : s.heap.IsRevIter i1 l1 i)
    (k : ∀ h', IsEnum h' s.heap.objs.size i1 0 .none → (∀ b o, s.heap.get? b = some o → h'.get? b = some o) → Q (.ref s.heap.objs.size) { s with heap := h' }) :
    wpAny (model prog w) A (call (.type "enumerate") [.ref i1]) Q E s := by
  refine callType_new F.called_enumerate (by decide) (F.typeCall_enumerate_1 _) (F.newCall_enumerate_1 _) (fun obj => F.args_object_init_2 obj _) F.entry_enumerate_new (meets_enumR i1 l1 i) ⟨h1, ?_⟩
  have en := Heap.get?_push_size s.heap (o := { cls := .type "enumerate", data := .fields #[.none, .bool false, .ref i1, rawInt 0, .none, .none] }) rfl
  exact ⟨⟨_, en, rfl⟩, k _ en fun b o x => Heap.get?_push_of_some _ x⟩
end
/-- the list at a from its end, numbered -/
def IteR (K : Fg) (n : Nat) (a : Addr) : It :=
  ⟨fun i H => ∃ (xs : List V) (x : V), SqL K H a xs ∧ i < n ∧ xs.length = n ∧ xs[n - 1 - i]? = some x, fun i H v H' => ∃ T x, v = .ref T ∧ H T = none ∧ H' = upd H T (.tup [.int (i : Nat), x]) ∧ ∀ xs, SqL K H a xs → xs[n - 1 - i]? = some x, fun i H => ∃ xs : List V, SqL K H a xs ∧ xs.length = n ∧ n ≤ i⟩
theorem lst_enum {h : Heap} {l e it : Addr} {items : Array Value} {i : Int} {old : Value} (hl : h.IsList l items) (he : IsEnum h e it i old) : e ≠ l := fun z => by
  obtain ⟨o, eo, c, n, d⟩ := hl
  have he' : h.get? e = _ := he
  rw [z, eo] at he'
  cases he'
  cases d
theorem turn_enumR {P : Program} {w : World} {K : Fg} {elts : List Expr} {kk : Nat} {tpos : Pos} (n : Nat) (a e it : Addr) :
    Turn P w K (.Tuple elts kk tpos) (IteR K n a) [e, it] e (fun i h => (∃ old, IsEnum h e it ((i : Nat) : Int) old) ∧ Zp.IsIt h it a true n i ∧ e ≠ it) where
  mem := by simp
  obj := fun i h st b hb => by
    obtain ⟨⟨old, he⟩, hit, _⟩ := st
    have e' : b = e ∨ b = it := by simpa using hb
    rcases e' with z | z
    · rw [z]; exact ⟨_, he, fun v q => nomatch q⟩
    · rw [z]; exact hit.there
  keep := fun i h h' st k => let ⟨⟨old, he⟩, hi, hne⟩ := st; ⟨⟨old, k e (by simp) _ he⟩, hi.at fun o q => k it (by simp) o q, hne⟩
  item := by
    intro X hP hw hK hc i pins s σ H E I hf st hg
    subst hP hw hK
    obtain ⟨⟨old, he⟩, hit, hne⟩ := st
    obtain ⟨xs, x, hq, hi, hn, hx⟩ := hg
    obtain ⟨its, rv, p, hz⟩ := I.list hq
    have hne2 : a ≠ it := Zp.lst_rev p.isList hit.2
    have hne3 : e ≠ a := lst_enum p.isList he
    have en : its.toArray.size = n := by
      have := rv.length
      simp; omega
    have dw := Draws_rev (prog := X.prog) (w := X.w) (A := X.A.in1) (I.ok.hd hc) it a hne2 its.toArray
    rw [en] at dw
    refine enum_item (J := IteR X.K n a) (tn := fun i h => (∃ old, IsEnum h e it ((i : Nat) : Int) old) ∧ Zp.IsIt h it a true n i ∧ e ≠ it) I dw hf he ⟨hit, p.isList⟩ hi hne (by simp [hne, hne3]) (by simp) (fun h' h1 h2 => ⟨h1, h2.1, hne⟩) fun u T hP hT => ?_
    have hP : its[n - 1 - i]? = some u := by simpa using hP
    obtain ⟨u', hu', ru⟩ := rv.get hx
    rw [hP] at hu'; cases hu'
    exact ⟨x, ru, T, x, rfl, hT, rfl, fun ys hy => by rw [I.list_inj hy hq]; exact hx⟩
  done := by
    intro X hP hw hK hc i pins s σ H E I hf st hg
    subst hP hw hK
    obtain ⟨⟨old, he⟩, hit, hne⟩ := st
    obtain ⟨xs, hq, hx, hi⟩ := hg
    obtain ⟨its, rv, p, hz⟩ := I.list hq
    have hne2 : a ≠ it := Zp.lst_rev p.isList hit.2
    have en : its.toArray.size = n := by
      have := rv.length
      simp; omega
    have ei : i = n := Nat.le_antisymm hit.1 hi
    subst ei
    have dw := Draws_rev (prog := X.prog) (w := X.w) (A := X.A.in1) (I.ok.hd hc) it a hne2 its.toArray
    rw [en] at dw
    exact enum_done I dw hf he ⟨hit, p.isList⟩
  self := fun A i s Q E st h => let ⟨⟨_, he⟩, _⟩ := st; wpAny_pyIter_enum he h
/-- enumerate(reversed(v)), v a list -/
def iEnumR (K : Fg) (te : TE) : TI := fun σ H R => te σ H fun v H1 => ∃ a xs, v = .ref a ∧ SqL K H1 a xs ∧ R (IteR K xs.length a) H1
theorem pi_enumR {X : Cx} {e : Expr} {te : TE} {p p2 pos pos2 tpos : Pos} {elts : List Expr} {kk : Nat} (hg : Gl X "enumerate") (hm : X.mg "enumerate" = none) (hg2 : Gl X "reversed") (hm2 : X.mg "reversed" = none) (he : PE X e te) (hs : starEach [e] X.env = (false, eval e X.env) :: starEach [] X.env)
    (hs1 : starEach [.Call (.Name "reversed" p2) [e] [] pos2] X.env = (false, eval (.Call (.Name "reversed" p2) [e] [] pos2) X.env) :: starEach [] X.env) :
    PI X (.Tuple elts kk tpos) (.Call (.Name "enumerate" p) [.Call (.Name "reversed" p2) [e] [] pos2] [] pos) (iEnumR X.K te) := by
  refine ⟨fun pins s σ H R I h => ?_⟩
  refine PyProof.Rows.Call_ (ld_blt I hg hm PyProof.Rows.boot_enumerate (PyProof.Rows.callWith_type1 (PyProof.Rows.args_cons (PyProof.Rows.Call_ (ld_blt I hg2 hm2 PyProof.Rows.boot_reversed (PyProof.Rows.callWith_type1 (PyProof.Rows.args_cons (thn (he.run pins s σ H _ I h) fun u s1 ⟨v, H1, I1, r1, q1⟩ => PyProof.Rows.args_nil ?_) hs) hs rfl))) hs1) hs1 rfl))
  obtain ⟨a, xs, ev, hq, q⟩ := q1
  subst ev
  obtain rfl : u = Value.ref a := r1
  obtain ⟨its, rv, p', hz⟩ := I1.list hq
  have hl := rv.length
  refine call_reversed_list p'.isList (PyProof.Rows.args_nil ?_)
  have hit : (s1.heap.push (revObj a ((its.toArray.size : Int) - 1))).IsRevIter s1.heap.objs.size a ((its.toArray.size : Int) - 1) := ⟨_, Heap.get?_push_size _ rfl, rfl, rfl⟩
  have sz : (s1.heap.push (revObj a ((its.toArray.size : Int) - 1))).objs.size = s1.heap.objs.size + 1 := Heap.size_push ..
  refine call_enumR (s := { s1 with heap := s1.heap.push (revObj a ((its.toArray.size : Int) - 1)) }) hit fun h' he hk => ?_
  rw [sz] at he ⊢
  refine wpAny_pyIter_enum he ?_
  have up : ∀ b o, s1.heap.get? b = some o → h'.get? b = some o := fun b o eo => hk b o (Heap.get?_push_of_some _ eo)
  have e1 : ((its.toArray.size : Nat) : Int) - 1 = (xs.length : Int) - 1 - ((0 : Nat) : Int) := by simp only [List.size_toArray]; omega
  have hit2 : h'.IsRevIter s1.heap.objs.size a ((its.toArray.size : Int) - 1) := hit.at fun o eo => hk _ _ eo
  rw [e1] at hit2
  have q1 : Zp.IsIt h' s1.heap.objs.size a true xs.length 0 := ⟨Nat.zero_le _, hit2⟩
  have fresh : ∀ b, b ∈ [s1.heap.objs.size + 1, s1.heap.objs.size] → FpOk X pins H1 b := fun b hb => by
    have e' : b = s1.heap.objs.size + 1 ∨ b = s1.heap.objs.size := by simpa using hb
    have hle : s1.heap.objs.size ≤ b := by
      rcases e' with z | z
      · rw [z]; exact Nat.le_add_right _ _
      · rw [z]; exact Nat.le_refl _
    exact I1.fpOk hle (I1.hok.fresh hle)
  exact ⟨_, [s1.heap.objs.size + 1, s1.heap.objs.size], _, _, H1, rfl, I1.kept (t' := s1.toks) up, turn_enumR xs.length a _ s1.heap.objs.size, ⟨⟨.none, he⟩, q1, Nat.succ_ne_self _⟩, fresh, q⟩
end Ev
end
section
set_option maxRecDepth 100000
set_option maxHeartbeats 1000000
/-! Ev7: what loops go over; list comprehensions. -/
namespace Ev
open PySem L2 RT RZ

structure Feed (K : Fg) (J : It) (us : List V) (ds its : List D) : Prop where
  go : ∀ k d F H, Same F H → Rdbs K F H us ds → its[k]? = some d → J.go k H
  yld : ∀ k d F H, Same F H → Rdbs K F H us ds → its[k]? = some d → ∀ x H', J.yld k H x H' → ∃ F', Grow K H H' ∧ Same F F' ∧ Same F' H' ∧ (∀ a o, F' a = some o → F a = some o ∨ Nw H a) ∧ Rep K F' x d
  stop : ∀ F H, Same F H → Rdbs K F H us ds → J.stop its.length H
def tI (K : Fg) (W : WX) (w : Wk) (r : C → R (List Vl)) : TI := fun σ H R => ∃ F c α, Wf K F H σ c.env α ∧
  WpR (r c) (fun vs c1 => ∀ us F1 H1, Wf K F1 H1 σ c1.env α → Tr K c.env c1.env α F H F1 H1 → VsOk K H F1 H1 σ c1.env α us vs → ∃ its, wkD w (vs.map Vl.rd) = some its ∧ ∀ J, Feed K J us (vs.map Vl.rd) its → R J H1) (PX K W σ F H c α)
theorem pi_mono {X : Cx} {tg e : Expr} {t t' : TI} (h : PI X tg e t) (m : ∀ σ H R, t' σ H R → t σ H R) : PI X tg e t' := ⟨fun pins s σ H R I q => h.run pins s σ H R I (m σ H R q)⟩
theorem pi_or {X : Cx} {tg e : Expr} {t t' : TI} (h : PI X tg e t) (h' : PI X tg e t') : PI X tg e (fun σ H R => t σ H R ∨ t' σ H R) := ⟨fun pins s σ H R I q => q.elim (h.run pins s σ H R I) (h'.run pins s σ H R I)⟩

section
variable {K : Fg}
theorem rdbs1 {F H : Hp} {u : V} {d : D} (h : Rdbs K F H [u] [d]) : Rdb K F H u d := by
  cases h with
  | cons a b => exact a
theorem feed_list {a : Addr} {xs : List D} : Feed K (Itl K a) [.ref a] [.lst xs] xs where
  go := fun k d F H hs h e => by
    obtain ⟨b, vs, eb, g, r⟩ := (rdbs1 h).list hs
    cases eb
    obtain ⟨v, e1, _⟩ := r.get e
    exact ⟨vs, v, g, e1⟩
  yld := fun k d F H hs h e x H' y => by
    obtain ⟨b, vs, eb, g, r⟩ := (rdbs1 h).list hs
    cases eb
    obtain ⟨rfl, y⟩ := y
    obtain ⟨v, e1, rv⟩ := r.get e
    have := y vs g
    rw [e1] at this; cases this
    exact ⟨F, Grow.refl _, Same.refl _, hs, fun _ _ q => .inl q, rv⟩
  stop := fun F H hs h => by
    obtain ⟨b, vs, eb, g, r⟩ := (rdbs1 h).list hs
    cases eb
    exact ⟨vs, g, by rw [r.length]; exact Nat.le_refl _⟩
theorem feed_tup {a : Addr} {xs : List D} : Feed K (Itt K a) [.ref a] [.tup xs] xs where
  go := fun k d F H hs h e => by
    obtain ⟨b, vs, eb, g, f, r⟩ := (rdbs1 h).tup hs
    cases eb
    obtain ⟨v, e1, _⟩ := r.get e
    exact ⟨vs, v, g, e1⟩
  yld := fun k d F H hs h e x H' y => by
    obtain ⟨b, vs, eb, g, f, r⟩ := (rdbs1 h).tup hs
    cases eb
    obtain ⟨rfl, y⟩ := y
    obtain ⟨v, e1, rv⟩ := r.get e
    have := y vs g
    rw [e1] at this; cases this
    exact ⟨F, Grow.refl _, Same.refl _, hs, fun _ _ q => .inl q, rv⟩
  stop := fun F H hs h => by
    obtain ⟨b, vs, eb, g, f, r⟩ := (rdbs1 h).tup hs
    cases eb
    exact ⟨vs, g, by rw [r.length]; exact Nat.le_refl _⟩
theorem feed_str {z : PySem.Str} (hz : okS z = true) : Feed K (Its z) [.str z] [.str z.cps.toList] (z.cps.toList.map fun c => .str [c]) where
  go := fun k d F H hs h e => by
    have : k < z.cps.size := by
      have := (List.getElem?_eq_some_iff.mp e).1
      simpa using this
    exact this
  yld := fun k d F H hs h e x H' y => by
    obtain ⟨rfl, c, e1, rfl⟩ := y
    rw [List.getElem?_map] at e
    obtain ⟨c', e2, rfl⟩ := Option.map_eq_some_iff.mp e
    have e3 : z.cps[k]? = some c' := by simpa using e2
    rw [e1] at e3; cases e3
    exact ⟨F, Grow.refl _, Same.refl _, hs, fun _ _ q => .inl q, rep_sign (okS_mem hz (List.mem_of_getElem? e2))⟩
  stop := fun F H hs h => by
    show z.cps.size ≤ _
    simp
theorem rngL_len : ∀ (n : Nat) (lo : Int), (rngL lo n).length = n
  | 0, _ => rfl
  | n + 1, lo => by simp [rngL, rngL_len n]
theorem rngL_get : ∀ (n : Nat) (lo : Int) (k : Nat) (d : D), (rngL lo n)[k]? = some d → k < n ∧ d = .int (lo + k)
  | 0, _, _, _, h => by simp [rngL] at h
  | n + 1, lo, 0, d, h => by simp [rngL] at h; subst h; simp
  | n + 1, lo, k + 1, d, h => by
    simp only [rngL, List.getElem?_cons_succ] at h
    obtain ⟨h1, h2⟩ := rngL_get n (lo + 1) k d h
    refine ⟨by omega, ?_⟩
    rw [h2]
    congr 1
    omega
theorem feed_rng {lo : Int} {n : Nat} {us : List V} {ds : List D} : Feed K (Itr lo n) us ds (rngL lo n) where
  go := fun k d F H hs h e => (rngL_get n lo k d e).1
  yld := fun k d F H hs h e x H' y => by
    obtain ⟨rfl, rfl⟩ := y
    obtain ⟨_, rfl⟩ := rngL_get n lo k d e
    exact ⟨F, Grow.refl _, Same.refl _, hs, fun _ _ q => .inl q, .int _⟩
  stop := fun F H hs h => by
    show n ≤ _
    rw [rngL_len]; exact Nat.le_refl _
theorem feed_rev {a : Addr} {n : Nat} {xs : List D} (hn : xs.length = n) : Feed K (Itv K a n) [.ref a] [.lst xs] xs.reverse where
  go := fun k d F H hs h e => by
    obtain ⟨b, vs, eb, g, r⟩ := (rdbs1 h).list hs
    cases eb
    obtain ⟨v, e1, _⟩ := r.reverse.get e
    have hk : k < vs.length := by
      have := (List.getElem?_eq_some_iff.mp e1).1
      simpa using this
    have hl := r.length
    refine ⟨by omega, vs, v, g, ?_⟩
    rw [List.getElem?_reverse hk] at e1
    rw [← e1]; congr 1; omega
  yld := fun k d F H hs h e x H' y => by
    obtain ⟨b, vs, eb, g, r⟩ := (rdbs1 h).list hs
    cases eb
    obtain ⟨rfl, y⟩ := y
    obtain ⟨v, e1, rv⟩ := r.reverse.get e
    have hk : k < vs.length := by
      have := (List.getElem?_eq_some_iff.mp e1).1
      simpa using this
    have hl := r.length
    rw [List.getElem?_reverse hk] at e1
    have q := y vs g
    have ei : n - 1 - k = vs.length - 1 - k := by omega
    rw [ei, e1] at q; cases q
    exact ⟨F, Grow.refl _, Same.refl _, hs, fun _ _ q => .inl q, rv⟩
  stop := fun F H hs h => by
    show n ≤ _
    simp [hn]
theorem feed_revT {a : Addr} {n : Nat} {xs : List D} (hn : xs.length = n) : Feed K (ItvT K a n) [.ref a] [.tup xs] xs.reverse where
  go := fun k d F H hs h e => by
    obtain ⟨b, vs, eb, g, f, r⟩ := (rdbs1 h).tup hs
    cases eb
    obtain ⟨v, e1, _⟩ := r.reverse.get e
    have hk : k < vs.length := by
      have := (List.getElem?_eq_some_iff.mp e1).1
      simpa using this
    have hl := r.length
    refine ⟨by omega, vs, v, g, ?_⟩
    rw [List.getElem?_reverse hk] at e1
    rw [← e1]; congr 1; omega
  yld := fun k d F H hs h e x H' y => by
    obtain ⟨b, vs, eb, g, f, r⟩ := (rdbs1 h).tup hs
    cases eb
    obtain ⟨rfl, y⟩ := y
    obtain ⟨v, e1, rv⟩ := r.reverse.get e
    have hk : k < vs.length := by
      have := (List.getElem?_eq_some_iff.mp e1).1
      simpa using this
    have hl := r.length
    rw [List.getElem?_reverse hk] at e1
    have q := y vs g
    have ei : n - 1 - k = vs.length - 1 - k := by omega
    rw [ei, e1] at q; cases q
    exact ⟨F, Grow.refl _, Same.refl _, hs, fun _ _ q => .inl q, rv⟩
  stop := fun F H hs h => by
    show n ≤ _
    simp [hn]
theorem enumF_get : ∀ (xs : List D) (n k : Nat) (d : D), (enumF n xs)[k]? = some d → ∃ x, xs[k]? = some x ∧ d = .tup [.int (n + k : Nat), x]
  | [], _, _, _, h => by simp [enumF] at h
  | x :: xs, n, 0, d, h => by simp [enumF] at h; exact ⟨x, rfl, by simp [h]⟩
  | x :: xs, n, k + 1, d, h => by
    simp only [enumF, List.getElem?_cons_succ] at h
    obtain ⟨y, h1, h2⟩ := enumF_get xs (n + 1) k d h
    refine ⟨y, by simpa using h1, ?_⟩
    rw [h2, show n + 1 + k = n + (k + 1) by omega]
theorem enumF_len : ∀ (xs : List D) (n : Nat), (enumF n xs).length = xs.length
  | [], _ => rfl
  | x :: xs, n => by simp [enumF, enumF_len xs]
theorem new_pair {F H : Hp} {p : Addr} {u v : V} {d e : D} (hs : Same F H) (hp : H p = none) (r1 : Rep K F u d) (r2 : Rep K F v e) :
    ∃ F', Grow K H (upd H p (.tup [u, v])) ∧ Same F F' ∧ Same F' (upd H p (.tup [u, v])) ∧ (∀ a o, F' a = some o → F a = some o ∨ Nw H a) ∧ Rep K F' (.ref p) (.tup [d, e]) := by
  have sf : Same F (upd F p (.tup [u, v])) := same_upd (free_sub hs hp)
  refine ⟨upd F p (.tup [u, v]), grow_upd hp, sf, hs.both hp, fun b o q => ?_, .tup (.inl (.inl upd_same)) (.cons (r1.mono sf) (.cons (r2.mono sf) .nil))⟩
  · by_cases e : b = p
    · subst e; exact .inr (.inl hp)
    · rw [upd_ne e] at q; exact .inl q
theorem feed_enum {a : Addr} {xs : List D} : Feed K (Ite K a) [.ref a] [.lst xs] (enumF 0 xs) where
  go := fun k d F H hs h e => by
    obtain ⟨b, vs, eb, g, r⟩ := (rdbs1 h).list hs
    cases eb
    obtain ⟨y, e0, _⟩ := enumF_get xs 0 k d e
    obtain ⟨v, e1, _⟩ := r.get e0
    exact ⟨vs, v, g, e1⟩
  yld := fun k d F H hs h e x H' y => by
    obtain ⟨b, vs, eb, g, r⟩ := (rdbs1 h).list hs
    cases eb
    obtain ⟨z, e0, rfl⟩ := enumF_get xs 0 k d e
    obtain ⟨v, e1, rv⟩ := r.get e0
    obtain ⟨T, u, rfl, hT, rfl, y⟩ := y
    have := y vs g
    rw [e1] at this; cases this
    rw [Nat.zero_add]
    exact new_pair hs hT (.int _) rv
  stop := fun F H hs h => by
    obtain ⟨b, vs, eb, g, r⟩ := (rdbs1 h).list hs
    cases eb
    exact ⟨vs, g, by rw [r.length, enumF_len]; exact Nat.le_refl _⟩
theorem feed_enumT {a : Addr} {xs : List D} : Feed K (IteT K a) [.ref a] [.tup xs] (enumF 0 xs) where
  go := fun k d F H hs h e => by
    obtain ⟨b, vs, eb, g, f, r⟩ := (rdbs1 h).tup hs
    cases eb
    obtain ⟨y, e0, _⟩ := enumF_get xs 0 k d e
    obtain ⟨v, e1, _⟩ := r.get e0
    exact ⟨vs, v, g, e1⟩
  yld := fun k d F H hs h e x H' y => by
    obtain ⟨b, vs, eb, g, f, r⟩ := (rdbs1 h).tup hs
    cases eb
    obtain ⟨z, e0, rfl⟩ := enumF_get xs 0 k d e
    obtain ⟨v, e1, rv⟩ := r.get e0
    obtain ⟨T, u, rfl, hT, rfl, y⟩ := y
    have := y vs g
    rw [e1] at this; cases this
    rw [Nat.zero_add]
    exact new_pair hs hT (.int _) rv
  stop := fun F H hs h => by
    obtain ⟨b, vs, eb, g, f, r⟩ := (rdbs1 h).tup hs
    cases eb
    exact ⟨vs, g, by rw [r.length, enumF_len]⟩
theorem feed_enumS {z : PySem.Str} (hz : okS z = true) : Feed K (IteS z) [.str z] [.str z.cps.toList] (enumF 0 (z.cps.toList.map fun c => .str [c])) where
  go := fun k d F H hs h e => by
    have q := (List.getElem?_eq_some_iff.mp e).1
    rw [enumF_len] at q
    show k < z.cps.size
    simpa using q
  yld := fun k d F H hs h e x H' y => by
    obtain ⟨w, e0, rfl⟩ := enumF_get _ 0 k d e
    rw [List.getElem?_map] at e0
    obtain ⟨c', e2, rfl⟩ := Option.map_eq_some_iff.mp e0
    obtain ⟨T, c, rfl, hT, rfl, y⟩ := y
    have e3 : z.cps[k]? = some c' := by simpa using e2
    rw [y] at e3; cases e3
    rw [Nat.zero_add]
    exact new_pair hs hT (.int _) (rep_sign (okS_mem hz (List.mem_of_getElem? e2)))
  stop := fun F H hs h => by
    show z.cps.size = _
    simp [enumF_len]
theorem zipT_get : ∀ (xs ys : List D) (k : Nat) (d : D), (zipT xs ys)[k]? = some d → ∃ x y, xs[k]? = some x ∧ ys[k]? = some y ∧ d = .tup [x, y]
  | [], _, _, _, h => by simp [zipT] at h
  | _ :: _, [], _, _, h => by simp [zipT] at h
  | x :: xs, y :: ys, 0, d, h => by simp [zipT] at h; exact ⟨x, y, rfl, rfl, h.symm⟩
  | x :: xs, y :: ys, k + 1, d, h => by
    simp only [zipT, List.getElem?_cons_succ] at h
    obtain ⟨a, b, h1, h2, h3⟩ := zipT_get xs ys k d h
    exact ⟨a, b, by simpa using h1, by simpa using h2, h3⟩
theorem zipT_len : ∀ (xs ys : List D), (zipT xs ys).length = min xs.length ys.length
  | [], _ => by simp [zipT]
  | _ :: _, [] => by simp [zipT]
  | x :: xs, y :: ys => by simp only [zipT, List.length_cons, zipT_len xs ys]; omega
theorem rdbs2 {F H : Hp} {u v : V} {d e : D} (h : Rdbs K F H [u, v] [d, e]) : Rdb K F H u d ∧ Rdb K F H v e := by
  cases h with
  | cons a b => exact ⟨a, rdbs1 b⟩
theorem feed_zip {a b : Addr} {xs ys : List D} : Feed K (Itz K a b) [.ref a, .ref b] [.lst xs, .lst ys] (zipT xs ys) where
  go := fun k d F H hs h e => by
    obtain ⟨a', vs, ea, g, r⟩ := (rdbs2 h).1.list hs
    obtain ⟨b', ws, eb, g', r'⟩ := (rdbs2 h).2.list hs
    cases ea; cases eb
    obtain ⟨y, z, e0, e1, _⟩ := zipT_get xs ys k d e
    obtain ⟨v, e2, _⟩ := r.get e0
    obtain ⟨w, e3, _⟩ := r'.get e1
    exact ⟨vs, ws, v, w, g, g', e2, e3⟩
  yld := fun k d F H hs h e x H' y => by
    obtain ⟨a', vs, ea, g, r⟩ := (rdbs2 h).1.list hs
    obtain ⟨b', ws, eb, g', r'⟩ := (rdbs2 h).2.list hs
    cases ea; cases eb
    obtain ⟨p, q, e0, e1, rfl⟩ := zipT_get xs ys k d e
    obtain ⟨v, e2, rv⟩ := r.get e0
    obtain ⟨w, e3, rw'⟩ := r'.get e1
    obtain ⟨T, u, u', rfl, hT, rfl, y1, y2⟩ := y
    have t1 := y1 vs g
    have t2 := y2 ws g'
    rw [e2] at t1; rw [e3] at t2; cases t1; cases t2
    exact new_pair hs hT rv rw'
  stop := fun F H hs h => by
    obtain ⟨a', vs, ea, g, r⟩ := (rdbs2 h).1.list hs
    obtain ⟨b', ws, eb, g', r'⟩ := (rdbs2 h).2.list hs
    cases ea; cases eb
    exact ⟨vs, ws, g, g', by rw [r.length, r'.length, zipT_len]; omega⟩
theorem feed_zipT {a b : Addr} {xs ys : List D} : Feed K (ItzT K a b) [.ref a, .ref b] [.tup xs, .tup ys] (zipT xs ys) where
  go := fun k d F H hs h e => by
    obtain ⟨a', vs, ea, g, f, r⟩ := (rdbs2 h).1.tup hs
    obtain ⟨b', ws, eb, g', f', r'⟩ := (rdbs2 h).2.tup hs
    cases ea; cases eb
    obtain ⟨y, z, e0, e1, _⟩ := zipT_get xs ys k d e
    obtain ⟨v, e2, _⟩ := r.get e0
    obtain ⟨w, e3, _⟩ := r'.get e1
    exact ⟨vs, ws, v, w, g, g', e2, e3⟩
  yld := fun k d F H hs h e x H' y => by
    obtain ⟨a', vs, ea, g, f, r⟩ := (rdbs2 h).1.tup hs
    obtain ⟨b', ws, eb, g', f', r'⟩ := (rdbs2 h).2.tup hs
    cases ea; cases eb
    obtain ⟨p, q, e0, e1, rfl⟩ := zipT_get xs ys k d e
    obtain ⟨v, e2, rv⟩ := r.get e0
    obtain ⟨w, e3, rw'⟩ := r'.get e1
    obtain ⟨T, u, u', rfl, hT, rfl, y1, y2⟩ := y
    have t1 := y1 vs g
    have t2 := y2 ws g'
    rw [e2] at t1; rw [e3] at t2; cases t1; cases t2
    exact new_pair hs hT rv rw'
  stop := fun F H hs h => by
    obtain ⟨a', vs, ea, g, f, r⟩ := (rdbs2 h).1.tup hs
    obtain ⟨b', ws, eb, g', f', r'⟩ := (rdbs2 h).2.tup hs
    cases ea; cases eb
    exact ⟨vs, ws, g, g', by rw [r.length, r'.length, zipT_len]; omega⟩
end

/-! ### the walks' rules -/
section
variable {X : Cx} {W : WX} {L : Lk} {P : Pg} {call : CallT} {a b : Expr} {ra rb : C → R Vl} {tg : Expr}
/-- one argument as a list -/
def one (r : C → R Vl) : C → R (List Vl) := fun c => (r c).bind fun v c => .ok [v] c
theorem vs_one {K : Fg} {H₀ F H : Hp} {σ : L2.St} {ρ : List Sl} {α : Nat → Addr} {u : V} {v : Vl} (h : VOk K H₀ F H σ ρ α u v) : VsOk K H₀ F H σ ρ α [u] [v] := ⟨h, trivial, fun _ _ q => by simp [tmpsOf] at q⟩
theorem ti_one {w : Wk} {σ : L2.St} {H : Hp} {R' : It → Hp → Prop} (h : tI X.K W w (one ra) σ H R') (Qf : V → Hp → Prop)
    (go : ∀ v u F1 H1, Same F1 H1 → Rdb X.K F1 H1 u v → (∃ its, wkD w [v] = some its ∧ ∀ J, Feed X.K J [u] [v] its → R' J H1) → Qf u H1) : tV X.K W ra σ H Qf := by
  obtain ⟨F, c, α, w0, hw⟩ := h
  refine ⟨F, c, α, w0, hw.bind.mono (fun v c1 hk u F1 H1 w1 t1 v1 => ?_) fun _ _ hq => hq⟩
  exact go v.rd u F1 H1 w1.sub (v1.rdb w1) (hk [u] F1 H1 w1 t1 (vs_one v1))
theorem i_seq (ha : PE X a (tV X.K W ra)) : PI X tg a (tI X.K W .seq (one ra)) := by
  refine pi_mono (pi_or (pi_list ha) (pi_or (pi_tup ha) (pi_str ha))) fun σ H R' h => ?_
  obtain ⟨F, c, α, w0, hw⟩ := id h
  cases e : ra c with
  | st => simp only [one, e, R.bind, WpR] at hw
  | ex x c' =>
    left
    exact ⟨F, c, α, w0, by simpa only [one, e, R.bind, WpR] using hw⟩
  | ok v c1 =>
    simp only [one, e, R.bind, WpR] at hw
    have mk : ∀ (Qf : V → Hp → Prop), (∀ u F1 H1, Same F1 H1 → Rdb X.K F1 H1 u v.rd → (∃ its, wkD .seq [v.rd] = some its ∧ ∀ J, Feed X.K J [u] [v.rd] its → R' J H1) → Qf u H1) → tV X.K W ra σ H Qf := fun Qf go =>
      ⟨F, c, α, w0, by
        rw [e]
        exact fun u F1 H1 w1 t1 v1 => go u F1 H1 w1.sub (v1.rdb w1) (hw [u] F1 H1 w1 t1 (vs_one v1))⟩
    have none_of : ∀ {P' : Prop}, (∀ its, wkD .seq [v.rd] ≠ some its) → (∀ Qf : V → Hp → Prop, tV X.K W ra σ H Qf) := fun {P'} hn Qf => mk Qf fun u F1 H1 s1 r1 ⟨its, q, _⟩ => absurd q (hn its)
    cases ed : v.rd with
    | lst xs =>
      left
      refine mk _ fun u F1 H1 s1 r1 ⟨its, q, go⟩ => ?_
      rw [ed] at q r1 go
      cases q
      obtain ⟨l, vs, rfl, g, r⟩ := r1.list s1
      exact ⟨l, rfl, ⟨vs, g⟩, go _ feed_list⟩
    | tup xs =>
      right; left
      refine mk _ fun u F1 H1 s1 r1 ⟨its, q, go⟩ => ?_
      rw [ed] at q r1 go
      cases q
      obtain ⟨l, vs, rfl, g, f, r⟩ := r1.tup s1
      exact ⟨l, rfl, ⟨vs, g⟩, go _ feed_tup⟩
    | str z =>
      right; right
      refine mk _ fun u F1 H1 s1 r1 ⟨its, q, go⟩ => ?_
      rw [ed] at q r1 go
      obtain ⟨hl, q⟩ := some_ifp q
      subst q
      obtain ⟨z, rfl, ez, oz⟩ := r1.str
      subst ez
      exact ⟨z, rfl, go _ (feed_str oz)⟩
    | _ =>
      left
      exact none_of (P' := True) (fun its q => by rw [ed] at q; cases q) _
theorem i_enum (hy : Hyp L P call W X) {x : PySem.Str} {p pos tpos : Pos} {elts : List Expr} {kk : Nat} (hst : ∀ x y, a ≠ .Starred x y) (hg : glB X.env.scope x = true) (hx : x = ("enumerate" : PySem.Str)) (ha : PE X a (tV X.K W ra)) :
    PI X (.Tuple elts kk tpos) (.Call (.Name x p) [a] [] pos) (tI X.K W .enum (one ra)) := by
  subst hx
  obtain ⟨h1, h2, h3⟩ := gl_of hg
  refine pi_mono (pi_enumA h1 (hy.blt _ (by decide +kernel)) ha (args_ok hst)) fun σ H R' h => ?_
  refine ti_one h _ fun v u F1 H1 s1 r1 ⟨its, q, go⟩ => ?_
  cases v <;> first | (cases q; done) | skip
  · obtain ⟨hl, q⟩ := some_ifp q
    subst q
    obtain ⟨z, rfl, ez, oz⟩ := r1.str
    subst ez
    exact .inr (.inr ⟨z, rfl, go _ (feed_enumS oz)⟩)
  · cases q
    obtain ⟨l, vs, rfl, g, f, r⟩ := r1.tup s1
    exact .inr (.inl ⟨l, vs, rfl, g, go _ feed_enumT⟩)
  · cases q
    obtain ⟨l, vs, rfl, g, r⟩ := r1.list s1
    exact .inl ⟨l, vs, rfl, g, go _ feed_enum⟩
theorem feed_enumR {a : Addr} {n : Nat} {xs : List D} (hn : xs.length = n) : Feed X.K (IteR X.K n a) [.ref a] [.lst xs] (enumF 0 xs.reverse) where
  go := fun k d F H hs h e => by
    obtain ⟨b, vs, eb, g, r⟩ := (rdbs1 h).list hs
    cases eb
    obtain ⟨y, e0, _⟩ := enumF_get xs.reverse 0 k d e
    have hk : k < xs.length := by
      have := (List.getElem?_eq_some_iff.mp e0).1
      simpa using this
    rw [List.getElem?_reverse hk] at e0
    obtain ⟨v, e1, _⟩ := r.get e0
    exact ⟨vs, v, g, by omega, by rw [r.length, hn], by rw [← hn]; exact e1⟩
  yld := fun k d F H hs h e x H' y => by
    obtain ⟨b, vs, eb, g, r⟩ := (rdbs1 h).list hs
    cases eb
    obtain ⟨z, e0, rfl⟩ := enumF_get xs.reverse 0 k d e
    have hk : k < xs.length := by
      have := (List.getElem?_eq_some_iff.mp e0).1
      simpa using this
    rw [List.getElem?_reverse hk] at e0
    obtain ⟨v, e1, rv⟩ := r.get e0
    obtain ⟨T, u, rfl, hT, rfl, y⟩ := y
    have := y vs g
    rw [← hn, e1] at this; cases this
    rw [Nat.zero_add]
    exact new_pair hs hT (.int _) rv
  stop := fun F H hs h => by
    obtain ⟨b, vs, eb, g, r⟩ := (rdbs1 h).list hs
    cases eb
    exact ⟨vs, g, by rw [r.length, hn], by rw [enumF_len, List.length_reverse, hn]; exact Nat.le_refl _⟩
theorem i_enumR (hy : Hyp L P call W X) {x y : PySem.Str} {p p2 pos pos2 tpos : Pos} {elts : List Expr} {kk : Nat} (hst : ∀ x y, a ≠ .Starred x y) (hg : glB X.env.scope x = true) (hx : x = ("enumerate" : PySem.Str)) (hg2 : glB X.env.scope y = true) (hy2 : y = ("reversed" : PySem.Str)) (ha : PE X a (tV X.K W ra)) :
    PI X (.Tuple elts kk tpos) (.Call (.Name x p) [.Call (.Name y p2) [a] [] pos2] [] pos) (tI X.K W .revdr (one ra)) := by
  subst hx hy2
  obtain ⟨h1, h2, h3⟩ := gl_of hg
  obtain ⟨g1, g2, g3⟩ := gl_of hg2
  refine pi_mono (pi_enumR h1 (hy.blt _ (by decide +kernel)) g1 (hy.blt _ (by decide +kernel)) ha (args_ok hst) rfl) fun σ H R' h => ?_
  refine ti_one h _ fun v u F1 H1 s1 r1 ⟨its, q, go⟩ => ?_
  cases v <;> first | (cases q; done) | skip
  cases q
  obtain ⟨l, vs, rfl, g, r⟩ := r1.list s1
  exact ⟨l, vs, rfl, g, go _ (feed_enumR r.length.symm)⟩
theorem i_rev (hy : Hyp L P call W X) {x : PySem.Str} {p pos : Pos} (hst : ∀ x y, a ≠ .Starred x y) (hg : glB X.env.scope x = true) (hx : x = ("reversed" : PySem.Str)) (ha : PE X a (tV X.K W ra)) :
    PI X tg (.Call (.Name x p) [a] [] pos) (tI X.K W .revd (one ra)) := by
  subst hx
  obtain ⟨h1, h2, h3⟩ := gl_of hg
  refine pi_mono (pi_revA h1 (hy.blt _ (by decide +kernel)) ha (args_ok hst)) fun σ H R' h => ?_
  refine ti_one h _ fun v u F1 H1 s1 r1 ⟨its, q, go⟩ => ?_
  cases v <;> first | (cases q; done) | skip
  · cases q
    obtain ⟨l, vs, rfl, g, f, r⟩ := r1.tup s1
    exact ⟨l, vs, rfl, .inr ⟨g, go _ (feed_revT r.length.symm)⟩⟩
  · cases q
    obtain ⟨l, vs, rfl, g, r⟩ := r1.list s1
    exact ⟨l, vs, rfl, .inl ⟨g, go _ (feed_rev r.length.symm)⟩⟩
theorem i_rng1 (hy : Hyp L P call W X) {x : PySem.Str} {p pos : Pos} (hst : ∀ x y, a ≠ .Starred x y) (hg : glB X.env.scope x = true) (hx : x = ("range" : PySem.Str)) (ha : PE X a (tV X.K W ra)) :
    PI X tg (.Call (.Name x p) [a] [] pos) (tI X.K W .rng1 (one ra)) := by
  subst hx
  obtain ⟨h1, h2, h3⟩ := gl_of hg
  refine pi_mono (pi_range1 h1 (hy.blt _ (by decide +kernel)) (pa_cons ha pa_nil (args_ok hst)) (args_ok hst)) fun σ H R' h => ?_
  refine ti_one h _ fun v u F1 H1 s1 r1 ⟨its, q, go⟩ => ?_
  cases v <;> first | (cases q; done) | skip
  obtain ⟨hl, q⟩ := some_if q
  subst q
  have hl := in62_iff hl
  obtain rfl := r1.int
  exact ⟨_, rfl, hl.1, hl.2, go _ feed_rng⟩
/-- two arguments as a list -/
def two (r s : C → R Vl) : C → R (List Vl) := fun c => (r c).bind fun v c => (s c).bind fun u c => .ok [v, u] c
theorem ti_two {w : Wk} {σ : L2.St} {H : Hp} {R' : It → Hp → Prop} (h : tI X.K W w (two ra rb) σ H R') (Qf : V → V → Hp → Prop)
    (go : ∀ v v' u u' F1 H1, Same F1 H1 → Rdb X.K F1 H1 u v → Rdb X.K F1 H1 u' v' → (∃ its, wkD w [v, v'] = some its ∧ ∀ J, Feed X.K J [u, u'] [v, v'] its → R' J H1) → Qf u u' H1) :
    tV X.K W ra σ H fun u H1 => tV X.K W rb σ H1 fun u' H2 => Qf u u' H2 := by
  obtain ⟨F, c, α, w0, hw⟩ := h
  refine sn (okP := fun vs c1 => ∀ us F1 H1, Wf X.K F1 H1 σ c1.env α → Tr X.K c.env c1.env α F H F1 H1 → VsOk X.K H F1 H1 σ c1.env α us vs → ∃ its, wkD w (vs.map Vl.rd) = some its ∧ ∀ J, Feed X.K J us (vs.map Vl.rd) its → R' J H1) w0 .refl hw fun v c1 u F1 H1 w1 t1 v1 h1 => ?_
  refine sn w1 t1 h1 fun v' c2 u' F2 H2 w2 t2 v2 h2 => ?_
  have v1' := v1.on w0 t1 w1 t2
  refine go v.rd v'.rd u u' F2 H2 w2.sub (v1'.rdb w2) (v2.rdb w2) (h2 [u, u'] F2 H2 w2 (t1.trans t2) ⟨v1', vs_one (v2.base t1.same), fun x e hm => ?_⟩)
  subst e
  obtain ⟨p, e1, h0, hf, ho⟩ := v1
  obtain ⟨o, q⟩ := ho.there
  obtain ⟨p', e2, h2⟩ := tmps_fresh (vs_one v2) hm
  rw [e1] at e2; cases e2
  rw [q] at h2; cases h2
theorem i_rng2 (hy : Hyp L P call W X) {x : PySem.Str} {p pos : Pos} (hst : ∀ x y, a ≠ .Starred x y) (hst' : ∀ x y, b ≠ .Starred x y) (hg : glB X.env.scope x = true) (hx : x = ("range" : PySem.Str)) (ha : PE X a (tV X.K W ra)) (hb : PE X b (tV X.K W rb)) :
    PI X tg (.Call (.Name x p) [a, b] [] pos) (tI X.K W .rng2 (two ra rb)) := by
  subst hx
  obtain ⟨h1, h2, h3⟩ := gl_of hg
  have e2 : starEach [b] X.env = [(false, eval b X.env)] := args_ok hst'
  refine pi_mono (pi_range2 h1 (hy.blt _ (by decide +kernel)) (pa_cons ha (pa_cons hb pa_nil (args_ok hst')) (args_ok hst)) (by rw [args_ok hst, e2]) e2) fun σ H R' h => ?_
  refine ti_two h _ fun v v' u u' F1 H1 s1 r1 r2 ⟨its, q, go⟩ => ?_
  cases v <;> first | (cases q; done) | skip
  cases v' <;> first | (cases q; done) | skip
  obtain ⟨hl, q⟩ := some_if q
  subst q
  simp only [Bool.and_eq_true] at hl
  have hl1 := in62_iff hl.1
  have hl2 := in62_iff hl.2
  obtain rfl := r1.int
  obtain rfl := r2.int
  exact ⟨_, _, rfl, ⟨hl1.1, hl1.2, hl2.1, hl2.2⟩, go _ feed_rng⟩
theorem bind_as {α β γ : Type} {r : R α} {f : α → C → R β} {g : β → C → R γ} : (r.bind f).bind g = r.bind fun a c => (f a c).bind g := by cases r <;> rfl
theorem at_rv {α : Type} {xs : List α} {n k : Nat} (r : Bool) (hn : xs.length = n) (hk : k < n) : (if r then xs.reverse else xs)[k]? = xs[Zp.itPos r n k]? := by
  cases r with
  | false => rfl
  | true =>
    show xs.reverse[k]? = _
    rw [List.getElem?_reverse (by omega)]
    simp only [Zp.itPos]
    congr 1; omega
theorem feed_zz {K : Fg} {a b : Addr} {r : Bool} {n1 n2 : Nat} {xs ys : List D} (h1 : xs.length = n1) (h2 : ys.length = n2) : Feed K (Zp.Itzz K true r n1 n2 a b) [.ref a, .ref b] [.lst xs, .lst ys] (zipT xs.reverse (if r then ys.reverse else ys)) where
  go := fun k d F H hs h e => by
    obtain ⟨a', vs, ea, g, rr⟩ := (rdbs2 h).1.list hs
    obtain ⟨b', ws, eb, g', rr'⟩ := (rdbs2 h).2.list hs
    cases ea; cases eb
    have hk := (List.getElem?_eq_some_iff.mp e).1
    rw [zipT_len] at hk
    have hl2 : (if r then ys.reverse else ys).length = n2 := by cases r <;> simp [h2]
    rw [hl2, List.length_reverse, h1] at hk
    have hk1 : k < n1 := by omega
    have hk2 : k < n2 := by omega
    obtain ⟨y, z, e0, e1, _⟩ := zipT_get _ _ k d e
    have e0' := (at_rv true h1 hk1).symm.trans e0
    have e1' := (at_rv r h2 hk2).symm.trans e1
    obtain ⟨v, e2, _⟩ := rr.get e0'
    obtain ⟨w, e3, _⟩ := rr'.get e1'
    exact ⟨vs, ws, v, w, g, g', hk1, hk2, e2, e3⟩
  yld := fun k d F H hs h e x H' y => by
    obtain ⟨a', vs, ea, g, rr⟩ := (rdbs2 h).1.list hs
    obtain ⟨b', ws, eb, g', rr'⟩ := (rdbs2 h).2.list hs
    cases ea; cases eb
    have hk := (List.getElem?_eq_some_iff.mp e).1
    rw [zipT_len] at hk
    have hl2 : (if r then ys.reverse else ys).length = n2 := by cases r <;> simp [h2]
    rw [hl2, List.length_reverse, h1] at hk
    have hk1 : k < n1 := by omega
    have hk2 : k < n2 := by omega
    obtain ⟨p, q, e0, e1, rfl⟩ := zipT_get _ _ k d e
    obtain ⟨v, e2, rv⟩ := rr.get ((at_rv true h1 hk1).symm.trans e0)
    obtain ⟨w, e3, rw'⟩ := rr'.get ((at_rv r h2 hk2).symm.trans e1)
    obtain ⟨T, u, u', rfl, hT, rfl, y1, y2⟩ := y
    have t1 := y1 vs g
    have t2 := y2 ws g'
    rw [e2] at t1; rw [e3] at t2; cases t1; cases t2
    exact new_pair hs hT rv rw'
  stop := fun F H hs h => by
    obtain ⟨a', vs, ea, g, rr⟩ := (rdbs2 h).1.list hs
    obtain ⟨b', ws, eb, g', rr'⟩ := (rdbs2 h).2.list hs
    cases ea; cases eb
    have hl2 : (if r then ys.reverse else ys).length = n2 := by cases r <;> simp [h2]
    refine ⟨vs, ws, g, g', by rw [rr.length, h1], by rw [rr'.length, h2], ?_⟩
    rw [zipT_len, hl2, List.length_reverse, h1]
    omega
theorem ti_zz {r : Bool} {σ : L2.St} {H : Hp} {R' : It → Hp → Prop} (h : tI X.K W (.zipr r) (two (fun c => (ra c).bind kIsl) rb) σ H R') :
    tV X.K W ra σ H fun v H1 => ∃ (a : Addr) (xs : List V), v = .ref a ∧ SqL X.K H1 a xs ∧ tV X.K W rb σ H1 fun v2 H2 => ∃ (b : Addr) (ys xs' : List V), v2 = .ref b ∧ SqL X.K H2 a xs' ∧ SqL X.K H2 b ys ∧ R' (Zp.Itzz X.K true r xs.length ys.length a b) H2 := by
  obtain ⟨F, c, α, w0, hw⟩ := h
  have e : two (fun c => (ra c).bind kIsl) rb c = (ra c).bind fun v c => (kIsl v c).bind fun v c => (rb c).bind fun u c => .ok [v, u] c := bind_as
  rw [e] at hw
  clear e
  refine sn (okP := fun vs c1 => ∀ us F1 H1, Wf X.K F1 H1 σ c1.env α → Tr X.K c.env c1.env α F H F1 H1 → VsOk X.K H F1 H1 σ c1.env α us vs → ∃ its, wkD (.zipr r) (vs.map Vl.rd) = some its ∧ ∀ J, Feed X.K J us (vs.map Vl.rd) its → R' J H1) w0 .refl hw fun v c1 u F1 H1 w1 t1 v1 h1 => ?_
  have rd1 := v1.rdb w1
  unfold kIsl at h1
  cases e : v.rd <;> rw [e] at h1 rd1 <;> first | exact False.elim h1 | skip
  rename_i xs
  obtain ⟨l, vs, rfl, g, rr⟩ := rd1.list w1.sub
  refine ⟨l, vs, rfl, g, ?_⟩
  refine sn w1 t1 h1 fun v' c2 u' F2 H2 w2 t2 v2 h2 => ?_
  have v1' := v1.on w0 t1 w1 t2
  obtain ⟨its, q, go⟩ := h2 [_, u'] F2 H2 w2 (t1.trans t2) ⟨v1', vs_one (v2.base t1.same), fun x e0 hm => by
    subst e0
    obtain ⟨p, e1, h0, hf, ho⟩ := v1
    obtain ⟨o, q⟩ := ho.there
    obtain ⟨p', e2, h2⟩ := tmps_fresh (vs_one v2) hm
    rw [e1] at e2; cases e2
    rw [q] at h2; cases h2⟩
  have rd1' := v1'.rdb w2
  have rd2 := v2.rdb w2
  rw [List.map_cons, List.map_cons, List.map_nil, e] at q go
  rw [e] at rd1'
  cases e2 : v'.rd <;> rw [e2] at q go rd2 <;> first | (cases q; done) | skip
  rename_i ys
  cases q
  obtain ⟨l', vs', el, g', rr'⟩ := rd1'.list w2.sub
  cases el
  obtain ⟨b, ws, rfl, gb, rrb⟩ := rd2.list w2.sub
  exact ⟨b, ws, vs', rfl, g', gb, go _ (feed_zz rr.length.symm rrb.length.symm)⟩
theorem i_zrl (hy : Hyp L P call W X) {x y : PySem.Str} {p p2 pos pos2 tpos : Pos} {elts : List Expr} {kk : Nat} (hst : ∀ x y, a ≠ .Starred x y) (hst' : ∀ x y, b ≠ .Starred x y) (hg : glB X.env.scope x = true) (hx : x = ("zip" : PySem.Str)) (hg2 : glB X.env.scope y = true) (hy2 : y = ("reversed" : PySem.Str)) (ha : PE X a (tV X.K W ra)) (hb : PE X b (tV X.K W rb)) :
    PI X (.Tuple elts kk tpos) (.Call (.Name x p) [.Call (.Name y p2) [a] [] pos2, b] [] pos) (tI X.K W (.zipr false) (two (fun c => (ra c).bind kIsl) rb)) := by
  subst hx hy2
  obtain ⟨h1, _, _⟩ := gl_of hg
  obtain ⟨h2, _, _⟩ := gl_of hg2
  exact pi_mono (Zp.pi_zip_rl h1 (hy.blt _ (by decide +kernel)) h2 (hy.blt _ (by decide +kernel)) ha hb (args_ok hst) (args_ok (by simp)) (args_ok hst') (back_no (by simpa using hst') pos)) fun σ H R' h => ti_zz h
theorem i_zrr (hy : Hyp L P call W X) {x y z : PySem.Str} {p p2 p3 pos pos2 pos3 tpos : Pos} {elts : List Expr} {kk : Nat} (hst : ∀ x y, a ≠ .Starred x y) (hst' : ∀ x y, b ≠ .Starred x y) (hg : glB X.env.scope x = true) (hx : x = ("zip" : PySem.Str)) (hg2 : glB X.env.scope y = true) (hy2 : y = ("reversed" : PySem.Str)) (hg3 : glB X.env.scope z = true) (hz2 : z = ("reversed" : PySem.Str)) (ha : PE X a (tV X.K W ra)) (hb : PE X b (tV X.K W rb)) :
    PI X (.Tuple elts kk tpos) (.Call (.Name x p) [.Call (.Name y p2) [a] [] pos2, .Call (.Name z p3) [b] [] pos3] [] pos) (tI X.K W (.zipr true) (two (fun c => (ra c).bind kIsl) rb)) := by
  subst hx hy2 hz2
  obtain ⟨h1, _, _⟩ := gl_of hg
  obtain ⟨h2, _, _⟩ := gl_of hg2
  exact pi_mono (Zp.pi_zip_rr h1 (hy.blt _ (by decide +kernel)) h2 (hy.blt _ (by decide +kernel)) ha hb (args_ok hst) (args_ok (by simp)) (args_ok (by simp)) (args_ok hst') (back_no (by simp) pos)) fun σ H R' h => ti_zz h
theorem i_zip (hy : Hyp L P call W X) {x : PySem.Str} {p pos tpos : Pos} {elts : List Expr} {kk : Nat} (hst : ∀ x y, a ≠ .Starred x y) (hst' : ∀ x y, b ≠ .Starred x y) (hg : glB X.env.scope x = true) (hx : x = ("zip" : PySem.Str)) (ha : PE X a (tV X.K W ra)) (hb : PE X b (tV X.K W rb)) :
    PI X (.Tuple elts kk tpos) (.Call (.Name x p) [a, b] [] pos) (tI X.K W .zip (two ra rb)) := by
  subst hx
  obtain ⟨h1, h2, h3⟩ := gl_of hg
  refine pi_mono (pi_zipA h1 (hy.blt _ (by decide +kernel)) (pa_cons ha (pa_cons hb pa_nil (args_ok hst')) (args_ok hst)) (args_ok hst) (back_no (by simpa using hst') pos)) fun σ H R' h => ?_
  refine ti_two h _ fun v v' u u' F1 H1 s1 r1 r2 ⟨its, q, go⟩ => ?_
  cases v <;> first | (cases q; done) | skip
  · cases v' <;> first | (cases q; done) | skip
    cases q
    obtain ⟨l, vs, rfl, g, f, r⟩ := r1.tup s1
    obtain ⟨l', vs', rfl, g', f', r'⟩ := r2.tup s1
    exact ⟨l, l', vs, vs', rfl, .inr ⟨g, g', go _ feed_zipT⟩⟩
  · cases v' <;> first | (cases q; done) | skip
    cases q
    obtain ⟨l, vs, rfl, g, r⟩ := r1.list s1
    obtain ⟨l', vs', rfl, g', r'⟩ := r2.list s1
    exact ⟨l, l', vs, vs', rfl, .inl ⟨g, g', go _ feed_zip⟩⟩
end
end Ev
end
section
set_option maxRecDepth 100000
set_option maxHeartbeats 1000000
/-! Ev8: targets; list comprehensions. -/
namespace Ev
open PySem L2
section
variable {K : Fg} {F H F₁ H₁ : Hp} {σ : L2.St} {ρ : List Sl} {α : Nat → Addr}
/-- a name gets data -/
theorem Wf.set (w : Wf K F H σ ρ α) {i : Nat} {x : D} {v : V} (r : Rep K F v x) : Wf K F H (σ.set i (some v)) (setS ρ i (.dat x)) α := by
  refine ⟨w.sub, w.gt, by rw [setS_length, List.length_set]; exact w.len, fun j => ?_, fun j k y z e1 e2 => ?_⟩
  · rw [getS_setS]
    by_cases h : i = j ∧ i < ρ.length
    · rw [if_pos h, ← h.1, List.getElem?_set_self (by rw [← w.len]; exact h.2)]
      exact ⟨v, rfl, r⟩
    · rw [if_neg h]
      by_cases hij : i = j
      · have hl : ρ.length ≤ j := by
          rcases Nat.lt_or_ge i ρ.length with q | q
          · exact absurd ⟨hij, q⟩ h
          · omega
        rw [getS_out _ _ hl]
        trivial
      · rw [List.getElem?_set_ne hij]
        exact w.slot j
  · exact w.inj j k y z (own_setS e1) (own_setS e2)
/-- an object that is nobody's is changed -/
theorem Wf.out (w : Wf K F H σ ρ α) {p : Addr} {o : HO} (gt : GoodT K (upd H p o)) (hf : F p = none) (hn : ∀ i x, getS ρ i = .own x → α i ≠ p) : Wf K F (upd H p o) σ ρ α := by
  refine ⟨w.sub.out hf, gt, w.len, fun i => ?_, w.inj⟩
  · have k := w.slot i
    cases e : getS ρ i with
    | no => trivial
    | dat x => rw [e] at k; exact k
    | own x =>
      rw [e] at k
      obtain ⟨k1, k2, k3⟩ := k
      exact ⟨k1, k2, k3.mono (Same.refl _) (upd_ne (hn i x e))⟩
/-- the frame's values agree where something is known -/
theorem Wf.frame (w : Wf K F H σ ρ α) {σ' : L2.St} {ρ' : List Sl} (hl : ρ'.length = σ'.length) (h : ∀ i, getS ρ' i = .no ∨ (getS ρ' i = getS ρ i ∧ σ'[i]? = σ[i]?)) : Wf K F H σ' ρ' α := by
  refine ⟨w.sub, w.gt, hl, fun i => ?_, fun i j x y e1 e2 => ?_⟩
  · rcases h i with q | ⟨q1, q2⟩
    · rw [q]; trivial
    · rw [q1, q2]; exact w.slot i
  · have f : ∀ i x, getS ρ' i = .own x → getS ρ i = .own x := fun i x e => by
      rcases h i with q | ⟨q1, q2⟩
      · rw [q] at e; cases e
      · rw [← q1]; exact e
    exact w.inj i j x y (f i x e1) (f j y e2)
theorem getS_no (l : List Sl) (i : Nat) : getS (setS l i .no) i = .no := by
  rw [getS_setS]
  split
  · rfl
  · rename_i h
    have : l.length ≤ i := by
      rcases Nat.lt_or_ge i l.length with q | q
      · exact absurd ⟨rfl, q⟩ h
      · exact q
    exact getS_out _ _ this
theorem wipe_env (c : C) : ∀ (vs : List Nat) (i : Nat), getS (c.wipe vs).env i = if i ∈ vs then .no else getS c.env i
  | [], i => by simp [C.wipe]
  | v :: vs, i => by
    show getS (setS (c.wipe vs).env v .no) i = _
    by_cases h : v = i
    · subst h
      rw [getS_no]; simp
    · rw [getS_setS, if_neg (by simp [h]), wipe_env c vs i]
      simp [Ne.symm h]
theorem wipe_len (c : C) : ∀ (vs : List Nat), (c.wipe vs).env.length = c.env.length
  | [] => rfl
  | v :: vs => by
    show (setS (c.wipe vs).env v .no).length = _
    rw [setS_length, wipe_len c vs]
theorem wipe_get : ∀ {vs : List Nat} {i : Nat}, (wipe σ vs)[i]? = if i ∈ vs then (σ[i]?).map fun _ => none else σ[i]?
  | [], i => by simp [wipe]
  | v :: vs, i => by
    unfold wipe
    by_cases h : v = i
    · subst h
      rw [List.getElem?_set_self']
      rw [wipe_get (vs := vs)]
      split
      · simp; cases σ[v]? <;> simp
      · simp; rfl
    · rw [List.getElem?_set_ne h, wipe_get (vs := vs)]
      simp [Ne.symm h]
theorem wipe_ext {σ' : L2.St} {vs : List Nat} (hl : σ'.length = σ.length) (h : ∀ i, i ∉ vs → σ'[i]? = σ[i]?) : wipe σ' vs = wipe σ vs := by
  apply List.ext_getElem?
  intro i
  rw [wipe_get, wipe_get]
  split
  · have : σ'[i]?.isSome = σ[i]?.isSome := by
      rw [Bool.eq_iff_iff]; simp [hl]
    cases e1 : σ'[i]? <;> cases e2 : σ[i]? <;> simp [e1, e2] at this ⊢
  · exact h i (by assumption)
end

/-! ### targets -/
def gNs : List Nat → TGs
  | [] => gNil
  | i :: is => gCons (gName i) (gNs is)
def gT (K : Fg) : Tg → TG
  | .nm i => gName i
  | .tp is => gTup K is.length (gNs is)
def tgMem (j : Nat) : Tg → Prop
  | .nm i => j = i
  | .tp is => j ∈ is
section
variable {K : Fg} {F H : Hp} {α : Nat → Addr}
theorem gNs_ok {Q : L2.St → Hp → Prop} : ∀ {is : List Nat} {vs : List V} {xs : List D} {σ : L2.St} {c : C}, Wf K F H σ c.env α → Reps K F vs xs → is.length = xs.length →
    (∀ σ', Wf K F H σ' (tgt.sets is xs c).env α → σ'.length = σ.length → (∀ j, j ∉ is → σ'[j]? = σ[j]? ∧ getS (tgt.sets is xs c).env j = getS c.env j) → (∀ j x, getS (tgt.sets is xs c).env j = .own x → getS c.env j = .own x) → Q σ' H) → gNs is vs σ H Q
  | [], _, _, σ, c, w, .nil, _, go => ⟨rfl, go σ w rfl (fun _ _ => ⟨rfl, rfl⟩) fun _ _ h => h⟩
  | i :: is, _, _, σ, c, w, .cons (v := v) (d := x) r rs, hl, go => by
    refine ⟨_, _, rfl, ?_⟩
    show gNs is _ (σ.set i (some v)) H Q
    have w1 : Wf K F H (σ.set i (some v)) (c.set i (.dat x)).env α := w.set r
    refine gNs_ok (c := c.set i (.dat x)) w1 rs (by simpa using hl) fun σ' w' hl' h1 h2 => go σ' w' (by rw [hl', List.length_set]) (fun j hj => ?_) fun j y q => own_setS (h2 j y q)
    simp only [List.mem_cons, not_or] at hj
    obtain ⟨e1, e2⟩ := h1 j hj.2
    refine ⟨by rw [e1, List.getElem?_set_ne (Ne.symm hj.1)], ?_⟩
    show getS (tgt.sets is _ (c.set i (.dat x))).env j = _
    rw [e2]
    show getS (setS c.env i (.dat x)) j = _
    rw [getS_setS, if_neg (fun q => hj.1 q.1.symm)]
theorem gT_ok {t : Tg} {v : V} {x : D} {σ : L2.St} {c c' : C} {Q : L2.St → Hp → Prop} (w : Wf K F H σ c.env α) (r : Rep K F v x) (e : tgt t x c = some c')
    (go : ∀ σ', Wf K F H σ' c'.env α → σ'.length = σ.length → (∀ j, ¬ tgMem j t → σ'[j]? = σ[j]? ∧ getS c'.env j = getS c.env j) → (∀ j y, getS c'.env j = .own y → getS c.env j = .own y) → Q σ' H) : gT K t v σ H Q := by
  cases t with
  | nm i =>
    cases e
    refine go _ (w.set r) (by rw [List.length_set]) (fun j hj => ⟨List.getElem?_set_ne (fun q => hj q.symm), ?_⟩) fun j y q => own_setS q
    show getS (setS c.env i (.dat x)) j = _
    rw [getS_setS, if_neg (fun q => hj q.1.symm)]
  | tp is =>
    cases x <;> first | (cases e; done) | skip
    rename_i xs
    obtain ⟨hl, e⟩ := some_ifp e
    subst e
    cases r with
    | tup s rs => exact ⟨_, _, rfl, sqt_mono w.sub s, by rw [rs.length, hl], gNs_ok w rs hl fun σ' w' h0 h1 h2 => go σ' w' h0 h1 h2⟩
end
section
variable {X : Cx}
theorem nms_pgs {sc : Scope} (hsc : ∀ x, locB sc x = true → L2.Loc X.env.scope x) (hN : X.N.Nodup) (hf : ∀ x, locB sc x = true → X.fn x = true ∨ X.env.scope.names.lookup x = some .local) : ∀ {is : List Nat} {es : List Expr}, nmsOk X.N sc is es = true → PGs X es (gNs is) ∧ (assignEach es X.env).length = is.length ∧ (assignEach es X.env).findIdx? (·.1) = none
  | [], [], _ => ⟨pgs_nil, rfl, rfl⟩
  | [], _ :: _, h => by cases h
  | _ :: _, [], h => by cases h
  | i :: is, e :: es, h => by
    cases e with
    | Name x p =>
      simp only [nmsOk, Bool.and_eq_true, tgtB, decide_eq_true_eq] at h
      obtain ⟨h1, h2, h3⟩ := nms_pgs hsc hN hf h.2
      refine ⟨pgs_cons (pg_name hN h.1.1 (hsc x h.1.2) (hf x h.1.2)) h1, by show (assignEach es X.env).length + 1 = is.length + 1; rw [h2], ?_⟩
      show List.findIdx? (·.1) ((false, _) :: assignEach es X.env) = none
      rw [List.findIdx?_cons]
      simp [h3]
    | _ => cases h
theorem pg_T {sc : Scope} (hsc : ∀ x, locB sc x = true → L2.Loc X.env.scope x) (hc : X.calm = true) (hN : X.N.Nodup) (hf : ∀ x, locB sc x = true → X.fn x = true ∨ X.env.scope.names.lookup x = some .local) {t : Tg} {e : Expr} (h : tgOk X.N sc t e = true) : PG X e (gT X.K t) := by
  cases t with
  | nm i =>
    cases e <;> first | (cases h; done) | skip
    simp only [tgOk, tgtB, Bool.and_eq_true, decide_eq_true_eq] at h
    exact pg_name hN h.1 (hsc _ h.2) (hf _ h.2)
  | tp is =>
    cases e <;> first | (cases h; done) | skip
    rename_i es _ _
    obtain ⟨h1, h2, h3⟩ := nms_pgs hsc hN hf (show nmsOk X.N sc is es = true from h)
    exact pg_tup hc h1 h2 h3
end

/-! ### list comprehensions -/
section
variable {X : Cx} {W : WX} {L : Lk} {P : Pg} {call : CallT}
abbrev W0 : WX := fun _ _ _ _ => False
theorem noex_ok {α : Type} {r : R α} {p : α → C → Prop} {q q' : Xc → C → Prop} (h : WpR (noex r) p q) : WpR r p q' := by
  cases r with
  | st => exact h
  | ok a c => exact h
  | ex x c => exact False.elim h
theorem lc_step {f : D → C → R (Option D)} {x : D} {xs acc : List D} {c : C} {p : List D → C → Prop} {q : Xc → C → Prop} (h : WpR (lcL f (x :: xs) acc c) p q) :
    WpR (f x c) (fun o c => match o with
      | some y => acc.length < line ∧ WpR (lcL f xs (acc ++ [y]) c) p q
      | none => WpR (lcL f xs acc c) p q) q := by
  unfold lcL at h
  refine h.bind.mono (fun o c1 h1 => ?_) fun _ _ h => h
  cases o with
  | none => exact h1
  | some y =>
    simp only at h1 ⊢
    split at h1
    · exact ⟨by assumption, h1⟩
    · exact False.elim h1
theorem Rdbs.mono {K : Fg} {F H F' H' : Hp} (fs : Same F F') (hs : Same H H') : ∀ {us : List V} {ds : List D}, Rdbs K F H us ds → Rdbs K F' H' us ds
  | _, _, .nil => .nil
  | _, _, .cons a b => .cons (a.mono fs hs) (Rdbs.mono fs hs b)
/-- the state between two turns -/
structure LcW (K : Fg) (σ : L2.St) (vs : List Nat) (α : Nat → Addr) (F₁ H₁ : Hp) (ρ₁ : List Sl) (Dp : Addr) (F H : Hp) (c : C) (acc : List D) : Prop where
  wf : Wf K F H (wipe σ vs) c.env α
  tr : Tr K ρ₁ c.env α F₁ H₁ F H
  dn : F Dp = none
  lst : ∃ ws, H Dp = some (.lst ws) ∧ Reps K F ws acc
  nov : ∀ i, i ∈ vs → getS c.env i = .no
/-- the reading of a comprehension -/
theorem lc_read {t : Tg} {vs : List Nat} {w : Wk} {re : C → R Vl} {rt : C → R Bool} {ri : C → R (List Vl)} (hv : ∀ j, tgMem j t → j ∈ vs) {σ : L2.St} {H : Hp} {Q : VK}
    (h : tV X.K W (fun c => (ri c).bind fun us c => (ofO (wkD w (us.map Vl.rd)) c).bind fun its c => doLc t vs rt re its c) σ H Q) :
    tLc (tI X.K W w ri) (gT X.K t) (tTt X.K W0 rt) (tV X.K W0 re) vs σ H Q := by
  obtain ⟨F0, c0, α, w0, hw⟩ := h
  refine ⟨F0, c0, α, w0, hw.bind.mono (fun us c1 hk vus F1 H1 w1 t1 v1 => ?_) fun _ _ hq => hq⟩
  obtain ⟨its, ei, hk⟩ := hk.bind.ofO
  refine ⟨its, ei, fun J fd Dp hD => ?_⟩
  unfold doLc at hk
  have hno : ∀ i, i ∈ vs → ∀ x, getS c1.env i ≠ .own x := fun i hi x e => by
    have : vs.any (fun i => isOwn (c1.get i)) = true := List.any_eq_true.mpr ⟨i, hi, by unfold C.get; rw [e]; rfl⟩
    rw [if_pos this] at hk
    exact hk
  have hk : WpR (lcL (lcF t vs rt re) its [] (c1.wipe vs)) (fun ys c => PV X.K σ F0 H c0 α Q (Vl.tmp (.lst ys)) c) (PX X.K W σ F0 H c0 α) := by
    by_cases q : vs.any (fun i => isOwn (c1.get i)) = true
    · rw [if_pos q] at hk; exact False.elim hk
    · rw [if_neg q] at hk; exact hk.bind
  have hcell : ∀ i x, getS c1.env i = .own x → α i ≠ Dp := fun i x e z => by
    obtain ⟨o, q⟩ := w1.there e
    rw [z, hD] at q; cases q
  have sD : Grow X.K H1 (upd H1 Dp (.lst [])) := grow_upd hD
  have fD : F1 Dp = none := w1.sub.free hD
  -- the state ahead of the first turn
  have start : LcW X.K σ vs α F1 H1 c1.env Dp F1 (upd H1 Dp (.lst [])) (c1.wipe vs) [] := by
    refine ⟨(w1.out (w1.gt.tabs (grow_upd hD).tabs) fD hcell).frame (by rw [wipe_len, wipe_length]; exact w1.len) fun i => ?_, ⟨sD, Same.refl _, fun _ _ q => .inl q, fun i x q => ?_, fun i x q => .inl ?_⟩, fD, ⟨[], upd_same, .nil⟩, fun i hi => by rw [wipe_env, if_pos hi]⟩
    · rw [wipe_env, wipe_get]
      by_cases hi : i ∈ vs
      · left; rw [if_pos hi]
      · right; simp [hi]
    · rw [wipe_env] at q
      split at q
      · cases q
      · exact q
    · rw [wipe_env]
      split
      · rename_i hi
        exact absurd q (hno i hi x)
      · exact q
  refine ⟨fun i m H' => m = its.length - i ∧ i ≤ its.length ∧ ∃ F c acc, LcW X.K σ vs α F1 H1 c1.env Dp F H' c acc ∧ WpR (lcL (lcF t vs rt re) (its.drop i) acc c) (fun ys c => PV X.K σ F0 H c0 α Q (Vl.tmp (.lst ys)) c) (PX X.K W σ F0 H c0 α),
    ⟨_, rfl, Nat.zero_le _, F1, _, [], start, hk⟩, ?_⟩
  rintro i m H2 ⟨rfl, hi, F2, c2, acc, S, h2⟩
  obtain ⟨ws, hl, rl⟩ := S.lst
  have rd2 : Rdbs X.K F2 H2 vus (us.map Vl.rd) := (rdbs_of w1 v1).mono S.tr.sub S.tr.same
  by_cases hlt : i < its.length
  · right
    obtain ⟨d, ed⟩ : ∃ d, its[i]? = some d := ⟨its[i], List.getElem?_eq_getElem hlt⟩
    have edr : its.drop i = d :: its.drop (i + 1) := by
      rw [List.drop_eq_getElem_cons hlt]
      rw [List.getElem?_eq_getElem hlt] at ed
      cases ed; rfl
    rw [edr] at h2
    refine ⟨fd.go i d F2 H2 S.wf.sub rd2 ed, fun H' => ∃ F c acc, LcW X.K σ vs α F1 H1 c1.env Dp F H' c acc ∧ WpR (lcL (lcF t vs rt re) (its.drop (i + 1)) acc c) (fun ys c => PV X.K σ F0 H c0 α Q (Vl.tmp (.lst ys)) c) (PX X.K W σ F0 H c0 α),
      fun H' q => ⟨its.length - (i + 1), by omega, rfl, hlt, q⟩, fun x H' y => ?_⟩
    obtain ⟨F3, hs3, fs3, s3, new3, r3⟩ := fd.yld i d F2 H2 S.wf.sub rd2 ed x H' y
    obtain ⟨w3, t3⟩ := S.wf.res hs3 fs3 s3 new3
    have h3 := lc_step h2
    unfold lcF at h3
    cases et : tgt t d c2 with
    | none => rw [et] at h3; exact False.elim h3
    | some c3 =>
      rw [et] at h3
      have h3 := (noex_ok (q' := fun _ _ => False) h3).bind
      have key : ∀ i, i ∉ vs → ¬ tgMem i t := fun i hi q => hi (hv i q)
      refine gT_ok w3 r3 et fun σ' w4 hl4 same4 back4 => ⟨?_, ?_⟩
      · have : wipe σ' vs = wipe (wipe σ vs) vs := wipe_ext (by rw [hl4]) fun i hi => (same4 i (key i hi)).1
        rw [this]
        apply wipe_ext
        · rw [wipe_length]
        · intro i hi; exact wipe_out hi
      · -- the test
        have fix4 : ∀ i, i ∉ vs → σ'[i]? = σ[i]? := fun i hi => by rw [(same4 i (key i hi)).1]; exact wipe_out hi
        have len4 : σ'.length = σ.length := by rw [hl4, wipe_length]
        have t4 : Tr X.K c1.env c3.env α F1 H1 F3 H' := by
          have z := S.tr.trans t3
          refine ⟨z.same, z.sub, z.new, fun i x q => z.back i x (back4 i x q), fun i x q => ?_⟩
          rcases z.keep i x q with p | p
          · have hi : i ∉ vs := fun hi => hno i hi x q
            left; rw [(same4 i (key i hi)).2]; exact p
          · exact .inr ⟨p.1, fun y py => p.2 y (back4 i y py)⟩
        have D3 : F3 Dp = none ∧ H' Dp = some (.lst ws) := by
          refine ⟨?_, hs3 _ _ hl⟩
          cases z : F3 Dp with
          | none => rfl
          | some o =>
            rcases new3 _ _ z with q | q
            · rw [S.dn] at q; cases q
            · exact (q.no hl).elim
        refine ⟨F3, c3, α, w4, h3.mono (fun b c4 h4 F4 H4 w5 t5 => ?_) fun _ _ q => False.elim q⟩
        have tr5 : Tr X.K c1.env c4.env α F1 H1 F4 H4 := t4.trans t5
        have cell5 : ∀ i x, getS c4.env i = .own x → α i ≠ Dp := fun i x q => hcell i x (tr5.back i x q)
        have dn_step : ∀ {ρ ρ' : List Sl} {Fa Ha Fb Hb : Hp}, Tr X.K ρ ρ' α Fa Ha Fb Hb → (∀ i x, getS ρ i = .own x → α i ≠ Dp) → Fa Dp = none → Ha Dp = some (.lst ws) → Fb Dp = none ∧ Hb Dp = some (.lst ws) := fun {ρ ρ' Fa Ha Fb Hb} tt hn ha hb => by
          refine ⟨?_, tt.same _ _ hb⟩
          cases z : Fb Dp with
          | none => rfl
          | some o =>
            rcases tt.new _ _ z with q | q | ⟨i, x, q, e⟩
            · rw [ha] at q; cases q
            · exact (q.no hb).elim
            · exact absurd e.symm (hn i x q)
        have D4 := dn_step t5 (fun i x q => hcell i x (t4.back i x q)) D3.1 D3.2
        -- from a state in the block to the next turn's
        have wipeWf : ∀ {F : Hp} {Hc : Hp} {c : C}, Wf X.K F Hc σ' c.env α → Wf X.K F Hc (wipe σ vs) (c.wipe vs).env α := fun {F Hc c} z => z.frame (by rw [wipe_len, wipe_length, ← len4]; exact z.len) fun i => by
          rw [wipe_env, wipe_get]
          by_cases hi : i ∈ vs
          · left; rw [if_pos hi]
          · right; simp [hi, fix4 i hi]
        have wipeTr : ∀ {F Hc : Hp} {c : C}, Tr X.K c1.env c.env α F1 H1 F Hc → Tr X.K c1.env (c.wipe vs).env α F1 H1 F Hc := fun {F Hc c} z => by
          refine ⟨z.same, z.sub, z.new, fun i x q => ?_, fun i x q => ?_⟩
          · rw [wipe_env] at q
            split at q
            · cases q
            · exact z.back i x q
          · have hi : i ∉ vs := fun hi => hno i hi x q
            rw [wipe_env, if_neg hi]
            exact z.keep i x q
        cases b with
        | false =>
          simp only [Bool.false_eq_true, if_false] at h4 ⊢
          exact ⟨F4, _, acc, ⟨wipeWf w5, wipeTr tr5, D4.1, ⟨ws, D4.2, rl.mono (fs3.trans t5.sub)⟩, fun i hi => by rw [wipe_env, if_pos hi]⟩, h4⟩
        | true =>
          simp only [if_true] at h4 ⊢
          refine ⟨F4, c4, α, w5, h4.bind.mono (fun yv c5 h5 yu F5 H5 w6 t6 v6 => ?_) fun _ _ q => False.elim q⟩
          obtain ⟨hlen, h5⟩ := h5
          have tr6 := tr5.trans t6
          have D5 := dn_step t6 cell5 D4.1 D4.2
          obtain ⟨F6, z⟩ := freeze w6 (fun i x q => w5.there (t6.back i x q)) v6 c5.sto
          have ec : frz yv ⟨c5.env, c5.sto⟩ = frz yv c5 := rfl
          rw [ec] at z
          have D6 : F6 Dp = none := by
            cases p : F6 Dp with
            | none => rfl
            | some o =>
              rcases z.new _ _ p with q | ⟨q, _, _⟩ | ⟨i, x, q, e⟩
              · rw [D5.1] at q; cases q
              · rw [D4.2] at q; cases q
              · exact absurd e.symm (hcell i x (tr6.back i x q))
          have cell6 : ∀ i x, getS (frz yv c5).env i = .own x → α i ≠ Dp := fun i x q => hcell i x (tr6.back i x (z.back i x q))
          refine ⟨ws, D5.2, by rw [← (show ws.length = acc.length from rl.length)] at hlen; rw [← line_eq]; exact hlen, F6, _, _, ⟨wipeWf (z.wf.out (z.wf.gt.tabs (TB.put D5.2).tabs) D6 cell6), wipeTr ⟨tr6.same.put hD D5.2, tr6.sub.trans z.sub, fun a o q => ?_, fun i x q => tr6.back i x (z.back i x q), fun i x q => ?_⟩, D6, ⟨ws ++ [yu], upd_same, (rl.mono ((fs3.trans t5.sub).trans (t6.sub.trans z.sub))).app (.one z.rep)⟩, fun i hi => by rw [wipe_env, if_pos hi]⟩, h5⟩
          · rcases z.new a o q with q | ⟨q, _, _⟩ | ⟨i, x, q, e⟩
            · exact tr6.new a o q
            · exact .inr (.inl (.inl (tr5.same.free q)))
            · exact .inr (.inr ⟨i, x, tr6.back i x q, e⟩)
          · rcases tr6.keep i x q with p | p
            · exact z.keep i x p
            · exact .inr ⟨p.1.mono z.sub, fun y py => p.2 y (z.back i y py)⟩
  · left
    have ei2 : i = its.length := by omega
    subst ei2
    rw [List.drop_length] at h2
    refine ⟨fd.stop F2 H2 S.wf.sub rd2, ?_⟩
    have h2 : PV X.K σ F0 H c0 α Q (Vl.tmp (.lst acc)) c2 := h2
    refine h2 _ F2 H2 (S.wf.frame (by rw [← wipe_length σ vs]; exact S.wf.len) fun i => ?_) (t1.trans S.tr) ⟨Dp, rfl, t1.same.free hD, S.dn, ws, hl, rl⟩
    by_cases hi : i ∈ vs
    · left; exact S.nov i hi
    · right; exact ⟨rfl, (wipe_out hi).symm⟩
end
end Ev
end
section
set_option maxRecDepth 100000
set_option maxHeartbeats 1000000
/-! Ev6d: dict displays with texts as keys. -/
namespace Ev
open PySem L2
theorem mergeK_new : ∀ (more kvs : List (Key × V)), (∀ p ∈ more, valV kvs p.1 = none) → (more.map (·.1)).Nodup → mergeK kvs more = kvs ++ more
  | [], kvs, _, _ => by show kvs = kvs ++ []; rw [List.append_nil]
  | p :: r, kvs, h, nd => by
    rw [List.map_cons, List.nodup_cons] at nd
    have e : mergeK kvs (p :: r) = mergeK (putK kvs p.1 p.2) r := rfl
    have hn := h p List.mem_cons_self
    have ih := mergeK_new r (putK kvs p.1 p.2) (fun q hq => by
      rw [valV_put, if_neg]
      · exact h q (List.mem_cons_of_mem _ hq)
      · intro z
        exact nd.1 (List.mem_map.mpr ⟨q, hq, z⟩)) nd.2
    rw [e, ih, putK_new p.2 hn, List.append_assoc]
    rfl
section
variable {K : Fg} {F H F' H' : Hp} {σ : L2.St} {ρ ρ' : List Sl} {α : Nat → Addr}
theorem tabs_dK {a : Addr} {ws : List (Key × V)} {o : HO} {P : Addr} (q : H a = some (.dK ws)) (t : LamX.TabS H P lamN) : LamX.TabS (upd H a o) P lamN := by
  obtain ⟨ps, h1, h2, h3⟩ := t
  refine ⟨ps, by rw [upd_ne (ne_of h1 q (fun z => by cases z))]; exact h1, h2, fun pos cv hc => ?_⟩
  obtain ⟨c, e1, e2⟩ := h3 pos cv hc
  refine ⟨c, e1, ?_⟩
  rw [upd_ne (ne_of e2 q (fun z => by unfold LamX.CodeO at z; cases z))]
  exact e2
theorem Grow.putD {a : Addr} {ws : List (Key × V)} {o : HO} (g : Grow K F H) (n : F a = none) (q : H a = some (.dK ws)) : Grow K F (upd H a o) := ⟨g.toSame.out n, fun T m t => tabs_dK q (g.tabs T m t)⟩
theorem Wf.growO (w : Wf K F H σ ρ α) {a : Addr} {o : HO} (hf : F a = none) (q : H a = some o) (hn : ∀ i x, getS ρ i = .own x → α i ≠ a) : Wf K (upd F a o) H σ ρ α := by
  have s : Same F (upd F a o) := same_upd hf
  refine ⟨w.sub.known q, w.gt, w.len, fun i => ?_, w.inj⟩
  · have k := w.slot i
    cases e : getS ρ i with
    | no => trivial
    | dat x =>
      rw [e] at k
      obtain ⟨v, k1, k2⟩ := k
      exact ⟨v, k1, k2.mono s⟩
    | own x =>
      rw [e] at k
      obtain ⟨k1, k2, k3⟩ := k
      exact ⟨k1, by rw [upd_ne (hn i x e)]; exact k2, k3.mono s rfl⟩
/-- expressions, one behind the other -/
def seqR : List (C → R Vl) → C → R (List Vl)
  | [], c => .ok [] c
  | r :: rs, c => (r c).bind fun v c => (seqR rs c).bind fun vs c => .ok (v :: vs) c
theorem evEs_seq (P : Pg) (call : CallT) : ∀ (es : List E), evEs P call es = seqR (es.map (evE P call))
  | [] => by funext c; rw [evEs.eq_def]; rfl
  | e :: es => by
    funext c
    rw [evEs.eq_def]
    simp only [List.map_cons, seqR, evEs_seq P call es]
def trsOf (K : Fg) (W : WX) : List PySem.Str → List (C → R Vl) → List (TE × TE)
  | x :: xs, r :: rs => (tC (.str x), tV K W r) :: trsOf K W xs rs
  | _, _ => []
def prsOf (xs : List PySem.Str) (us : List V) : List (V × V) := (xs.zip us).map fun p => (.str p.1, p.2)
theorem pairs_ok {W : WX} : ∀ (xs : List PySem.Str) (rs : List (C → R Vl)), xs.length = rs.length → ∀ {σ : L2.St} {F H : Hp} {c : C} {α : Nat → Addr} (w : Wf K F H σ c.env α) {Qp : List (V × V) → Hp → Prop}
    (h : WpR (seqR rs c) (fun vs c' => ∀ us F' H', Wf K F' H' σ c'.env α → Tr K c.env c'.env α F H F' H' → VsOk K H F' H' σ c'.env α us vs → Qp (prsOf xs us) H') (PX K W σ F H c α)), tPairs (trsOf K W xs rs) σ H Qp
  | [], [], _, σ, F, H, c, α, w, Qp, h => h [] F H w .refl trivial
  | [], _ :: _, hl, _, _, _, _, _, _, _, _ => by simp at hl
  | _ :: _, [], hl, _, _, _, _, _, _, _, _ => by simp at hl
  | x :: xs, r :: rs, hl, σ, F, H, c, α, w, Qp, h => by
    show tV K W r σ H fun y H2 => tPairs (trsOf K W xs rs) σ H2 fun ps H3 => Qp ((V.str x, y) :: ps) H3
    have h : WpR ((r c).bind fun v c => (seqR rs c).bind fun vs c => .ok (v :: vs) c) _ _ := h
    refine sn w .refl h fun v c1 u1 F1 H1 w1 t1 v1 h1 => ?_
    refine pairs_ok xs rs (by simpa using hl) w1 (h1.bind.mono (fun vs c2 hk us F2 H2 w2 t2 vs2 => ?_) fun _ _ hq => hq.on t1)
    refine hk (u1 :: us) F2 H2 w2 (t1.trans t2) ⟨v1.on w t1 w1 t2, vs2.base t1.same, fun x e hm => ?_⟩
    subst e
    obtain ⟨a, e1, h0, hf, ho⟩ := v1
    obtain ⟨o, q⟩ := ho.there
    obtain ⟨p, e2, h2⟩ := tmps_fresh vs2 hm
    rw [e1] at e2
    cases e2
    rw [q] at h2; cases h2
end
section
variable {X : Cx} {W : WX} {pos : Pos}
theorem e_dsp {keys : List (Option Expr)} {values : List Expr} {xs : List PySem.Str} {rs : List (C → R Vl)} (hp : PPs X pos keys values (trsOf X.K W xs rs)) (hall : keys.all (·.isSome) = true) (hkl : keys.length = values.length) (h0 : keys ≠ []) (h15 : keys.length ≤ 15)
    (hx : xs.length = rs.length) (hxk : xs.length ≤ 15) (hok : ∀ x ∈ xs, okS x = true) (hnd : xs.Nodup) (hvl : ∀ c vs c', seqR rs c = .ok vs c' → vs.length = rs.length) :
    PE X (.Dict keys values pos) (tV X.K W fun c => (seqR rs c).bind fun vs c => .ok (.d (.dct (xs.map fun x => .str x.cps.toList) (vs.map Vl.rd))) (frzs vs c)) := by
  refine pe_mono (pe_disp hp hall hkl h0 h15) fun σ H Q ⟨F, c, α, w, hw⟩ => ?_
  intro p hpn
  have fF : F p = none := w.sub.free hpn
  have cell : ∀ i x, getS c.env i = .own x → α i ≠ p := fun i x e z => by
    obtain ⟨o, q⟩ := w.there e
    rw [z, hpn] at q; cases q
  have g0 : Grow X.K H (upd H p (.dK [])) := grow_upd hpn
  have w0 : Wf X.K F (upd H p (.dK [])) σ c.env α := w.out (w.gt.tabs g0.tabs) fF cell
  have t0 : Tr X.K c.env c.env α F H F (upd H p (.dK [])) := ⟨g0, Same.refl _, fun _ _ q => .inl q, fun _ _ q => q, fun _ _ q => .inl q⟩
  refine pairs_ok xs rs hx w0 (hw.bind.imp (fun vs c1 ev hk us F1 H1 w1 t1 v1 => ?_) fun _ _ hq => hq.on t0)
  have hp1 : H1 p = some (.dK []) := t1.same _ _ upd_same
  obtain ⟨F2, w2, r2, t2, s12, new2⟩ := all_frozen w0 t1 w1 v1
  have ul : us.length = xs.length := by rw [r2.length, List.length_map, hvl _ _ _ ev, hx]
  refine ⟨hp1, (xs.zip us).map fun q => (Sum.inr q.1, q.2), ?_, ?_, ?_⟩
  · unfold prsOf
    rw [List.map_map]; rfl
  · rw [List.length_map, List.length_zip]; omega
  · have keysEq : ((xs.zip us).map fun q => ((Sum.inr q.1 : Key), q.2)).map (·.1) = xs.map Sum.inr := by
      rw [List.map_map]
      have : ((fun x : Key × V => x.1) ∘ fun q : PySem.Str × V => ((Sum.inr q.1 : Key), q.2)) = (Sum.inr ∘ Prod.fst) := rfl
      rw [this, ← List.map_map, List.map_fst_zip (by omega)]
    have em : mergeK [] ((xs.zip us).map fun q => ((Sum.inr q.1 : Key), q.2)) = (xs.zip us).map fun q => ((Sum.inr q.1 : Key), q.2) := by
      rw [mergeK_new _ [] (fun _ _ => rfl)]
      · rfl
      · rw [keysEq]
        exact List.Pairwise.map Sum.inr (fun a b h e => h (Sum.inr.inj e)) hnd
    rw [em]
    have fp : F2 p = none := by
      cases z : F2 p with
      | none => rfl
      | some o =>
        rcases t2.new _ _ z with q | q | ⟨i, x, q, e⟩
        · rw [fF] at q; cases q
        · rcases q with q | ⟨ys, q⟩
          · rw [upd_same] at q; cases q
          · rw [upd_same] at q; cases q
        · exact absurd e.symm (cell i x q)
    have cell2 : ∀ i x, getS (frzs vs c1).env i = .own x → α i ≠ p := fun i x q => cell i x (t2.back i x q)
    generalize hkv : ((xs.zip us).map fun q => ((Sum.inr q.1 : Key), q.2)) = kvs at *
    have s3 : Same F2 (upd F2 p (.dK kvs)) := same_upd fp
    have w3 : Wf X.K F2 (upd H1 p (.dK kvs)) σ (frzs vs c1).env α := w2.out (w2.gt.tabs fun P m t => tabs_dK hp1 t) fp cell2
    have w4 : Wf X.K (upd F2 p (.dK kvs)) (upd H1 p (.dK kvs)) σ (frzs vs c1).env α := w3.growO fp upd_same cell2
    have t4 : Tr X.K c.env (frzs vs c1).env α F H (upd F2 p (.dK kvs)) (upd H1 p (.dK kvs)) := by
      refine ⟨(g0.trans t2.same).putD hpn hp1, t2.sub.trans s3, fun a o q => ?_, t2.back, fun i x q => ?_⟩
      · by_cases ha : a = p
        · subst ha; exact .inr (.inl (.inl hpn))
        · rw [upd_ne ha] at q
          rcases t2.new a o q with z | z | z
          · exact .inl z
          · exact .inr (.inl (z.back g0.toSame))
          · exact .inr (.inr z)
      · rcases t2.keep i x q with z | z
        · exact .inl z
        · exact .inr ⟨z.1.mono s3, z.2⟩
    have hk : PV X.K σ F H c α Q (.d (.dct (xs.map fun x => .str x.cps.toList) (vs.map Vl.rd))) (frzs vs c1) := hk
    refine hk (.ref p) _ _ w4 t4 ?_
    show Rep X.K (upd F2 p (.dK kvs)) (.ref p) (.dct _ _)
    refine .dctK (vs := us) (.inl upd_same) ?_ ?_ ?_ (r2.mono s3)
    · rw [← hkv, List.all_eq_true]
      intro q hq
      obtain ⟨z, hz, rfl⟩ := List.mem_map.mp hq
      exact hok _ (List.of_mem_zip hz).1
    · have : kvs.map (fun p => kD p.1) = (kvs.map (·.1)).map kD := by rw [List.map_map]; rfl
      rw [this, keysEq, List.map_map]
      rfl
    · rw [← hkv, List.map_map]
      have : ((fun x : Key × V => x.2) ∘ fun q : PySem.Str × V => ((Sum.inr q.1 : Key), q.2)) = Prod.snd := rfl
      rw [this, List.map_snd_zip (by omega)]
end
end Ev
end
section
set_option maxRecDepth 100000
set_option maxHeartbeats 1000000
/-! Ev9: every expression that the check takes keeps its reading. -/
namespace Ev
open PySem L2
section
variable {L : Lk} {P : Pg} {call : CallT}
/-- all that is asked of a context -/
structure Al (L : Lk) (P : Pg) (call : CallT) (W : WX) (X : Cx) : Prop where
  hy : Hyp L P call W X
  fn : Fns L P call X
  mt : ∀ g' g, L.hm g' g = true → MOk L call X g' g
theorem Al.blk {W : WX} {X : Cx} (h : Al L P call W X) (s : Shared) (H : Hp) (scope : Scope) (C0 : Addr) (cl : List (PySem.Str × Addr)) (fp : List Addr) : Al L P call W0 (X.blk s H scope (compEnvC scope cl C0 X.env) fp) :=
  ⟨⟨h.hy.calm, h.hy.nd, takes0, h.hy.units, h.hy.blt, h.hy.consts, h.hy.cls, h.hy.xcl, h.hy.news⟩, ⟨fun g hg => ⟨(h.fn.fns g hg).ok⟩, fun g x y hg => ⟨(h.fn.c2 g x y hg).ok⟩⟩, fun g' g hg => ⟨(h.mt g' g hg).ok⟩⟩
theorem blk_loc {X : Cx} (s : Shared) (H : Hp) (scope : Scope) (C0 : Addr) (cl : List (PySem.Str × Addr)) (fp : List Addr) (x : PySem.Str) (h : locB scope x = true) :
    L2.Loc (X.blk s H scope (compEnvC scope cl C0 X.env) fp).env.scope x ∧ ((X.blk s H scope (compEnvC scope cl C0 X.env) fp).fn x = true ∨ (X.blk s H scope (compEnvC scope cl C0 X.env) fp).env.scope.names.lookup x = some .local) := by
  rcases loc_of h with q | q
  · have e : (relS scope X.env.scope).names.lookup x = some .local := lookup_relS_keep (by decide) q
    exact ⟨.inl e, .inr e⟩
  · have e : (relS scope X.env.scope).names.lookup x = some .cell := lookup_relS_keep (by decide) q
    exact ⟨.inr e, .inl (by show (scope.names.lookup x == some .cell) = true; rw [q]; rfl)⟩
structure TOk (X : Cx) (e : Expr) (t : TT) : Prop where
  pt : PT X e t
  pw : ∀ op l p, e = .BoolOp op l p → PW X e t
theorem pt_st {X : Cx} {W : WX} {e : Expr} : TOk X e (tTt X.K W fun _ => .st) := ⟨⟨fun pins s σ H Q I ⟨F, c, α, w, hw⟩ => False.elim hw⟩, fun _ _ _ _ => ⟨fun wh pins s σ H Q I ⟨F, c, α, w, hw⟩ => False.elim hw⟩⟩
theorem pe_st {X : Cx} {W : WX} {e : Expr} : PE X e (tV X.K W fun _ => .st) := ⟨fun pins s σ H Q I ⟨F, c, α, w, hw⟩ => False.elim hw⟩
/-- no star, no set, no slice passes the check -/
theorem ok_plain {N : List PySem.Str} {sc : Scope} {e : E} {a : Expr} (h : okE L N sc e a = true) : (∀ x y, a ≠ .Starred x y) ∧ (∀ x y z, a ≠ .Set x y z) ∧ (∀ x y s z, a ≠ .Slice x y s z) ∧ (∀ x y, a ≠ .NamedExpr x y (default : Pos)) := by
  refine ⟨fun x y q => ?_, fun x y z q => ?_, fun x y s z q => ?_, fun x y q => ?_⟩ <;> subst q <;> cases e <;> simp [okE, noOdd] at h
theorem ok_stars {N : List PySem.Str} {sc : Scope} : ∀ {es : List E} {as : List Expr}, okEs L N sc es as = true → ∀ a ∈ as, ∀ x y, a ≠ .Starred x y
  | [], [], _ => by simp
  | e :: es, a :: as, h => by
    simp only [okEs, Bool.and_eq_true] at h
    intro z hz
    rcases List.mem_cons.mp hz with rfl | hz
    · exact (ok_plain h.1).1
    · exact ok_stars h.2 z hz
  | [], _ :: _, h => by simp [okEs] at h
  | _ :: _, [], h => by simp [okEs] at h
theorem evEs_len : ∀ (es : List E) (c : C) (vs : List Vl) (c' : C), evEs P call es c = .ok vs c' → vs.length = es.length
  | [], c, vs, c', h => by
    simp only [evEs] at h
    cases h; rfl
  | e :: es, c, vs, c', h => by
    simp only [evEs] at h
    cases e1 : evE P call e c with
    | st => rw [e1] at h; cases h
    | ex x c1 => rw [e1] at h; cases h
    | ok v c1 =>
      rw [e1] at h
      simp only [R.bind] at h
      cases e2 : evEs P call es c1 with
      | st => rw [e2] at h; cases h
      | ex x c2 => rw [e2] at h; cases h
      | ok us c2 =>
        rw [e2] at h
        simp only [R.bind] at h
        cases h
        simp [evEs_len es _ us _ e2]
theorem okEs_len {N : List PySem.Str} {sc : Scope} : ∀ {es : List E} {as : List Expr}, okEs L N sc es as = true → es.length = as.length
  | [], [], _ => rfl
  | e :: es, a :: as, h => by
    simp only [okEs, Bool.and_eq_true] at h
    simp [okEs_len h.2]
  | [], _ :: _, h => by simp [okEs] at h
  | _ :: _, [], h => by simp [okEs] at h
theorem short_of {N : List PySem.Str} {sc : Scope} {es : List E} {as : List Expr} (h : okEs L N sc es as = true) (hl : as.length ≤ 1000) : Short (evEs P call es) := fun c vs c' e => by rw [evEs_len es c vs c' e, okEs_len h]; exact hl

theorem tp_of {N : List PySem.Str} {sc : Scope} {w : Wk} {t : Tg} {tg : Expr} (hw : wkT w t = true) (h : tgOk N sc t tg = true) : (w = .enum ∨ w = .zip ∨ (∃ r, w = .zipr r) ∨ w = .revdr) → ∃ es k p, tg = .Tuple es k p := by
  intro hh
  cases t with
  | nm i => rcases hh with rfl | rfl | ⟨r, rfl⟩ | rfl <;> cases hw
  | tp is => cases tg <;> first | (cases h; done) | exact ⟨_, _, _, rfl⟩
theorem ok_walk {N : List PySem.Str} {sc : Scope} {xs : List E} {w : Wk} {a : Expr} (h : okW L N sc xs w a = true) : ∀ x y z, a ≠ .Set x y z := by
  rcases xs with _ | ⟨x, _ | ⟨y, _ | ⟨_, _⟩⟩⟩
  · cases w <;> simp [okW] at h
  · cases w <;> first | exact (ok_plain (show okE L N sc x a = true from h)).2.1 | (intro p q r e; subst e; simp [okW] at h; done)
  · cases w <;> (intro p q r e; subst e; simp [okW] at h; done)
  · cases w <;> simp [okW] at h
theorem folded {X : Cx} {a : Expr} (h : ∀ x y z, a ≠ .Set x y z) (v : Value) : foldedSetIterable a X.env v = pure v := by
  cases a <;> first | rfl | exact absurd rfl (h _ _ _)
theorem evEs_two (x y : E) : evEs P call [x, y] = two (evE P call x) (evE P call y) := by
  funext c
  unfold two
  simp only [evEs]
  cases evE P call x c with
  | st => rfl
  | ex x c1 => rfl
  | ok v c1 =>
    simp only [R.bind]
    cases evE P call y c1 <;> rfl
section
variable {N : List PySem.Str} {W : WX} {X : Cx} {sc : Scope} {a : Expr}
theorem cCall {g : Nat} {xs : List E} (A : Al L P call W X) (hs : X.env.scope = sc) (h : okE L N sc (.call g xs) a = true) (hE : ∀ as, okEs L N sc xs as = true → PA X as (tVs X.K W (evEs P call xs))) : PE X a (tV X.K W (evE P call (.call g xs))) := by
  cases a <;> first | (cases h; done) | (simp [okE] at h; done) | skip
  rename_i f as ks p
  cases f <;> first | (cases h; done) | (simp [okE] at h; done) | skip
  cases ks <;> first | (cases h; done) | (simp [okE] at h; done) | skip
  simp only [okE, Bool.or_eq_true, Bool.and_eq_true, beq_iff_eq] at h
  rcases h with h | h
  · have h2 := hE _ h.2
    cases as with
    | nil =>
      cases xs with
      | nil => exact e_call0 A.hy A.fn (hs ▸ h.1.1.1) h.1.1.2 h.1.2
      | cons y ys => simp [okEs] at h
    | cons b r => exact e_call A.hy A.fn (hs ▸ h.1.1.1) h.1.1.2 h.1.2 (ok_stars h.2) h2
  · split at h
    · simp only [Bool.and_eq_true, decide_eq_true_eq] at h
      exact e_call2 A.hy A.fn (hs ▸ h.1.1.1) (hs ▸ h.1.1.2) h.1.2 (ok_stars h.2) (hE _ h.2)
    · cases h
theorem cBlt {f : Blt} {xs : List E} (A : Al L P call W X) (hs : X.env.scope = sc) (h : okE L N sc (.blt f xs) a = true) (hE : ∀ as, okEs L N sc xs as = true → PA X as (tVs X.K W (evEs P call xs))) : PE X a (tV X.K W (evE P call (.blt f xs))) := by
  cases a <;> first | (cases h; done) | (simp [okE] at h; done) | skip
  rename_i g as ks p
  cases g <;> first | (cases h; done) | (simp [okE] at h; done) | skip
  cases ks <;> first | (cases h; done) | (simp [okE] at h; done) | skip
  simp only [okE, Bool.and_eq_true, beq_iff_eq] at h
  obtain ⟨h, hcm⟩ := h
  have h2 := hE _ h.2
  cases as with
  | nil => simp at h
  | cons b r => exact e_blt A.hy hcm (hs ▸ h.1.1.1) h.1.1.2 (ok_stars h.2) h2
theorem cIsi {x : E} {t : Ty} (A : Al L P call W X) (hs : X.env.scope = sc) (h : okE L N sc (.isi x t) a = true) (hE : ∀ b, okE L N sc x b = true → PE X b (tV X.K W (evE P call x))) : PE X a (tV X.K W (evE P call (.isi x t))) := by
  cases a <;> first | (cases h; done) | (simp [okE] at h; done) | skip
  rename_i g as ks p
  cases g <;> first | (cases h; done) | (simp [okE] at h; done) | skip
  cases ks <;> first | (cases h; done) | (simp [okE] at h; done) | skip
  rcases as with _ | ⟨b, _ | ⟨d, _ | ⟨_, _⟩⟩⟩ <;> first | (cases h; done) | (simp [okE] at h; done) | skip
  · cases d <;> first | (cases h; done) | (simp [okE] at h; done) | skip
    simp only [okE, Bool.and_eq_true, beq_iff_eq] at h
    exact e_isi A.hy (ok_plain h.2).1 (hs ▸ h.1.1.1.1) h.1.1.1.2 (hs ▸ h.1.1.2) h.1.2 (hE _ h.2)
theorem cIx {x y : E} (A : Al L P call W X) (h : okE L N sc (.ix x y) a = true) (hx : ∀ b, okE L N sc x b = true → PE X b (tV X.K W (evE P call x))) (hy : ∀ b, okE L N sc y b = true → PE X b (tV X.K W (evE P call y))) : PE X a (tV X.K W (evE P call (.ix x y))) := by
  cases a <;> first | (cases h; done) | (simp [okE] at h; done) | skip
  simp only [okE, Bool.and_eq_true] at h
  exact e_ix A.hy.units (fun p q r => (ok_plain h.2).2.2.1 p q none r) (hx _ h.1) (hy _ h.2)
theorem okKs_cons {ks : List (List Nat)} {q : Option Expr} {kx : List (Option Expr)} (h : okKs ks (q :: kx) = true) : ∃ (y : PySem.Str) (k : Nat) (p : Pos) (kk : List Nat) (ks' : List (List Nat)), q = some (.Constant (.str y) k p) ∧ ks = kk :: ks' ∧ y.cps.toList = kk ∧ okS y = true ∧ kk ∉ ks' ∧ okKs ks' kx = true := by
  unfold okKs at h
  split at h
  · rename_i a b; cases b
  · rename_i kk ks' y k p r hh
    cases hh
    simp only [Bool.and_eq_true, decide_eq_true_eq, Bool.not_eq_true'] at h
    obtain ⟨⟨⟨h1, h2⟩, h3⟩, h4⟩ := h
    exact ⟨y, k, p, kk, ks', rfl, rfl, h1, h2, fun z => by simp [z] at h3, h4⟩
  · cases h
theorem okKs_len : ∀ {ks : List (List Nat)} {kx : List (Option Expr)}, okKs ks kx = true → ks.length = kx.length
  | [], [], _ => rfl
  | [], _ :: _, h => by cases h
  | _ :: _, [], h => by cases h
  | k :: ks, q :: kx, h => by
    obtain ⟨_, _, _, _, _, _, e, _, _, _, h4⟩ := okKs_cons h
    cases e
    rw [List.length_cons, List.length_cons, okKs_len h4]
theorem okKs_all : ∀ {ks : List (List Nat)} {kx : List (Option Expr)}, okKs ks kx = true → kx.all (·.isSome) = true
  | _, [], _ => rfl
  | ks, q :: kx, h => by
    obtain ⟨_, _, _, _, _, e1, e, _, _, _, h4⟩ := okKs_cons h
    subst e1
    rw [List.all_cons, okKs_all h4]; rfl
theorem call_form {g : Nat} {xs : List E} (h : okE L N sc (.call g xs) a = true) : ∃ f as ks p, a = .Call f as ks p := by
  cases a <;> first | (cases h; done) | exact ⟨_, _, _, _, rfl⟩
theorem blt_form {f : Blt} {xs : List E} (h : okE L N sc (.blt f xs) a = true) : ∃ f as ks p, a = .Call f as ks p := by
  cases a <;> first | (cases h; done) | exact ⟨_, _, _, _, rfl⟩
theorem isi_form {x : E} {t : Ty} (h : okE L N sc (.isi x t) a = true) : ∃ f as ks p, a = .Call f as ks p := by
  cases a <;> first | (cases h; done) | exact ⟨_, _, _, _, rfl⟩
theorem ix_form {x y : E} (h : okE L N sc (.ix x y) a = true) : ∃ b d p, a = .Subscript b d p := by
  cases a <;> first | (cases h; done) | exact ⟨_, _, _, rfl⟩
theorem v_form {i : Nat} (h : okE L N sc (.v i) a = true) : ∃ x p, a = .Name x p ∧ varB N sc i x = true := by
  cases a <;> first | (cases h; done) | exact ⟨_, _, rfl, h⟩
theorem leaf_call {f : Expr} {as : List Expr} {ks : List Keyword} {p : Pos} {r : C → R Vl} (h : PE X (.Call f as ks p) (tV X.K W r)) : TOk X (.Call f as ks p) (tTt X.K W fun c => (r c).bind asB) := ⟨t_val h fun _ => rfl, fun _ _ _ e => by cases e⟩
theorem leaf_sub {b d : Expr} {p : Pos} {r : C → R Vl} (h : PE X (.Subscript b d p) (tV X.K W r)) : TOk X (.Subscript b d p) (tTt X.K W fun c => (r c).bind asB) := ⟨t_val h fun _ => rfl, fun _ _ _ e => by cases e⟩
theorem leaf_name {x : PySem.Str} {p : Pos} {r : C → R Vl} (h : PE X (.Name x p) (tV X.K W r)) : TOk X (.Name x p) (tTt X.K W fun c => (r c).bind asB) := ⟨t_val h fun _ => rfl, fun _ _ _ e => by cases e⟩
end
mutual
theorem sE {N : List PySem.Str} : ∀ (e : E) (W : WX) (X : Cx) (sc : Scope) (a : Expr), Al L P call W X → X.N = N → X.env.scope = sc → okE L N sc e a = true → PE X a (tV X.K W (evE P call e))
  | .v i, W, X, sc, a, A, hN, hs, h => by
    cases a <;> first | (cases h; done) | (simp [okE] at h; done) | skip
    subst hN hs
    exact e_var h
  | .k g, W, X, sc, a, A, hN, hs, h => by
    cases a <;> first | (cases h; done) | (simp [okE] at h; done) | skip
    subst hN hs
    simp only [okE, Bool.and_eq_true] at h
    exact e_glob A.hy h.1 h.2
  | .n, W, X, sc, a, A, hN, hs, h => by
    cases a <;> first | (cases h; done) | (simp [okE] at h; done) | skip
    rename_i c k p
    cases c <;> first | (cases h; done) | (simp [okE] at h; done) | skip
    exact e_con pe_non fun F => .non
  | .b x, W, X, sc, a, A, hN, hs, h => by
    cases a <;> first | (cases h; done) | (simp [okE] at h; done) | skip
    rename_i c k p
    cases c <;> first | (cases h; done) | (simp [okE] at h; done) | skip
    simp only [okE] at h
    rw [eq_of_beq h]
    exact e_con pe_bl fun F => .bl _
  | .i x, W, X, sc, a, A, hN, hs, h => by
    cases a <;> first | (cases h; done) | (simp [okE] at h; done) | skip
    rename_i c k p
    cases c <;> first | (cases h; done) | (simp [okE] at h; done) | skip
    simp only [okE] at h
    rw [eq_of_beq h]
    exact e_con pe_int fun F => .int _
  | .s x, W, X, sc, a, A, hN, hs, h => by
    cases a <;> first | (cases h; done) | (simp [okE] at h; done) | skip
    rename_i c k p
    cases c <;> first | (cases h; done) | (simp [okE] at h; done) | skip
    simp only [okE, Bool.and_eq_true, decide_eq_true_eq] at h
    exact e_str h.1 h.2
  | .bin o x y, W, X, sc, a, A, hN, hs, h => by
    cases a <;> first | (cases h; done) | (simp [okE] at h; done) | skip
    simp only [okE, Bool.and_eq_true] at h
    exact e_bin h.1.1 (sE x W X sc _ A hN hs h.1.2) (sE y W X sc _ A hN hs h.2)
  | .neg x, W, X, sc, a, A, hN, hs, h => by
    cases a <;> first | (cases h; done) | (simp [okE] at h; done) | skip
    rename_i o b p
    cases o <;> first | (cases h; done) | (simp [okE] at h; done) | skip
    simp only [okE] at h
    exact e_neg (sE x W X sc _ A hN hs h)
  | .cmp o x y, W, X, sc, a, A, hN, hs, h => by
    cases a <;> first | (cases h; done) | (simp [okE] at h; done) | skip
    rename_i l os cs p
    rcases os with _ | ⟨q, _ | ⟨_, _⟩⟩ <;> first | (cases h; done) | (simp [okE] at h; done) | skip
    rcases cs with _ | ⟨b, _ | ⟨_, _⟩⟩ <;> first | (cases h; done) | (simp [okE] at h; done) | skip
    simp only [okE, Bool.and_eq_true] at h
    exact e_cmp A.hy h.1.1 (ok_plain h.2).2.1 (sE x W X sc _ A hN hs h.1.2) (sE y W X sc _ A hN hs h.2)
  | .chain o o' x y z, W, X, sc, a, A, hN, hs, h => by
    cases a <;> first | (cases h; done) | (simp [okE] at h; done) | skip
    rename_i l os cs p
    rcases os with _ | ⟨q, _ | ⟨r, _ | ⟨_, _⟩⟩⟩ <;> first | (cases h; done) | (simp [okE] at h; done) | skip
    rcases cs with _ | ⟨b, _ | ⟨d, _ | ⟨_, _⟩⟩⟩ <;> first | (cases h; done) | (simp [okE] at h; done) | skip
    simp only [okE, Bool.and_eq_true] at h
    exact e_chain A.hy h.1.1.1.1 h.1.1.1.2 (ok_plain h.2).2.1 (sE x W X sc _ A hN hs h.1.1.2) (sE y W X sc _ A hN hs h.1.2) (sE z W X sc _ A hN hs h.2)
  | .and x y, W, X, sc, a, A, hN, hs, h => by
    cases a <;> first | (cases h; done) | (simp [okE] at h; done) | skip
    rename_i o l p
    cases o <;> first | (cases h; done) | (simp [okE] at h; done) | skip
    rcases l with _ | ⟨b, _ | ⟨d, r⟩⟩ <;> first | (cases h; done) | (simp [okE] at h; done) | skip
    simp only [okE, Bool.and_eq_true] at h
    have h1 := sE x W X sc _ A hN hs h.1
    cases r with
    | nil => exact e_and h1 (e_one (sE y W X sc _ A hN hs h.2))
    | cons z r => exact e_and h1 (sE y W X sc _ A hN hs h.2)
  | .or x y, W, X, sc, a, A, hN, hs, h => by
    cases a <;> first | (cases h; done) | (simp [okE] at h; done) | skip
    rename_i o l p
    cases o <;> first | (cases h; done) | (simp [okE] at h; done) | skip
    rcases l with _ | ⟨b, _ | ⟨d, r⟩⟩ <;> first | (cases h; done) | (simp [okE] at h; done) | skip
    simp only [okE, Bool.and_eq_true] at h
    have h1 := sE x W X sc _ A hN hs h.1
    cases r with
    | nil => exact e_or h1 (e_one (sE y W X sc _ A hN hs h.2))
    | cons z r => exact e_or h1 (sE y W X sc _ A hN hs h.2)
  | .not x, W, X, sc, a, A, hN, hs, h => by
    cases a <;> first | (cases h; done) | (simp [okE] at h; done) | skip
    rename_i o b p
    cases o <;> first | (cases h; done) | (simp [okE] at h; done) | skip
    simp only [okE] at h
    exact e_not (sE x W X sc _ A hN hs h)
  | .ite t x y, W, X, sc, a, A, hN, hs, h => by
    cases a <;> first | (cases h; done) | (simp [okE] at h; done) | skip
    simp only [okE, Bool.and_eq_true] at h
    exact e_ite (sT t W X sc _ A hN hs h.1.1).pt (sE x W X sc _ A hN hs h.1.2) (sE y W X sc _ A hN hs h.2)
  | .call g xs, W, X, sc, a, A, hN, hs, h => cCall A hs h fun as q => sEs xs W X sc as A hN hs q
  | .meth g' g x xs, W, X, sc, a, A, hN, hs, h => by
    cases a <;> first | (cases h; done) | (simp [okE] at h; done) | skip
    rename_i f as ks p
    cases f <;> first | (cases h; done) | (simp [okE] at h; done) | skip
    cases ks <;> first | (cases h; done) | (simp [okE] at h; done) | skip
    simp only [okE, Bool.and_eq_true, beq_iff_eq, decide_eq_true_eq] at h
    obtain ⟨⟨⟨⟨⟨⟨⟨h1, h2⟩, h3⟩, h4⟩, h5⟩, h6⟩, h7⟩, h8⟩ := h
    subst h1
    cases as with
    | nil => simp at h4
    | cons b r => exact e_meth A.hy h3 (by simpa using h6) h5 (A.mt g' g h2) (ok_stars h8) (sE x W X sc _ A hN hs h7) (sEs xs W X sc _ A hN hs h8)
  | .new g xs, W, X, sc, a, A, hN, hs, h => by
    cases a <;> first | (cases h; done) | (simp [okE] at h; done) | skip
    rename_i f as ks p
    cases f <;> first | (cases h; done) | (simp [okE] at h; done) | skip
    cases ks <;> first | (cases h; done) | (simp [okE] at h; done) | skip
    simp only [okE, Bool.and_eq_true, beq_iff_eq] at h
    obtain ⟨⟨⟨⟨h1, h2⟩, h3⟩, h4⟩, h5⟩ := h
    subst h2
    cases as with
    | nil => simp at h4
    | cons b r => exact e_new A.hy (hs ▸ h1) h3 (ok_stars h5) (sEs xs W X sc _ A hN hs h5)
  | .bm _ _ _, W, X, sc, a, A, hN, hs, h => pe_st
  | .fld x g f, W, X, sc, a, A, hN, hs, h => by
    cases a <;> first | (cases h; done) | (simp [okE] at h; done) | skip
    simp only [okE, Bool.and_eq_true, decide_eq_true_eq] at h
    obtain ⟨⟨⟨h1, h2⟩, h3⟩, h4⟩ := h
    exact e_fld h1 h3 (A.hy.cls g h2) (sE x W X sc _ A hN hs h4)
  | .blt f xs, W, X, sc, a, A, hN, hs, h => cBlt A hs h fun as q => sEs xs W X sc as A hN hs q
  | .isi x t, W, X, sc, a, A, hN, hs, h => cIsi A hs h fun b q => sE x W X sc b A hN hs q
  | .ix x y, W, X, sc, a, A, hN, hs, h => cIx A h (fun b q => sE x W X sc b A hN hs q) fun b q => sE y W X sc b A hN hs q
  | .sl x lo hi, W, X, sc, a, A, hN, hs, h => by
    cases a <;> first | (cases h; done) | (simp [okE] at h; done) | skip
    rename_i b d p
    cases d <;> first | (cases h; done) | (simp [okE] at h; done) | skip
    rename_i l u s p2
    cases s <;> first | (cases h; done) | (simp [okE] at h; done) | skip
    simp only [okE, Bool.and_eq_true] at h
    exact e_sl (sE x W X sc _ A hN hs h.1.1) (sO lo W X sc _ A hN hs h.1.2) (sO hi W X sc _ A hN hs h.2)
  | .rev x, W, X, sc, a, A, hN, hs, h => by
    cases a <;> first | (cases h; done) | (simp [okE] at h; done) | skip
    rename_i b d p
    cases d <;> first | (cases h; done) | (simp [okE] at h; done) | skip
    rename_i l u s p2
    cases l <;> first | (cases h; done) | (simp [okE] at h; done) | skip
    cases u <;> first | (cases h; done) | (simp [okE] at h; done) | skip
    cases s <;> first | (cases h; done) | (simp [okE] at h; done) | skip
    rename_i s
    cases s <;> first | (cases h; done) | (simp [okE] at h; done) | skip
    rename_i o z p3
    cases o <;> first | (cases h; done) | (simp [okE] at h; done) | skip
    cases z <;> first | (cases h; done) | (simp [okE] at h; done) | skip
    rename_i c k p4
    cases c <;> first | (cases h; done) | (simp [okE] at h; done) | skip
    rename_i n
    by_cases hn : n = 1
    · subst hn
      exact e_rev (sE x W X sc _ A hN hs h)
    · exfalso; simp [okE, hn] at h
  | .dsp ks xs, W, X, sc, a, A, hN, hs, h => by
    cases a <;> first | (cases h; done) | (simp [okE] at h; done) | skip
    rename_i kx vx psn
    simp only [okE, Bool.and_eq_true, decide_eq_true_eq, Bool.not_eq_true', List.isEmpty_eq_false_iff] at h
    obtain ⟨⟨⟨⟨h1, h2⟩, h3⟩, h4⟩, h5⟩ := h
    obtain ⟨s, e1, e2, e3, e4, e5⟩ := sPs xs W X sc _ A hN hs h2 ks _ h1 h3
    have hl : s.length = xs.length := e4
    have hk := okKs_len h1
    have := e_dsp (X := X) (W := W) (pos := psn) (e5 psn) (okKs_all h1) h3 h4 h5 (by rw [List.length_map]; exact hl) (by rw [← e1, List.length_map] at hk; omega) e2 e3 fun c vs c' q => by
      rw [← evEs_seq] at q
      rw [List.length_map]
      exact evEs_len xs c vs c' q
    have ee : evE P call (.dsp ks xs) = fun c => (seqR (xs.map (evE P call)) c).bind fun vs c => .ok (.d (.dct (s.map fun x => .str x.cps.toList) (vs.map Vl.rd))) (frzs vs c) := by
      funext c
      rw [evE.eq_def]
      simp only [← evEs_seq]
      rw [← e1, List.map_map]
      rfl
    rw [ee]
    exact this
  | .tup xs, W, X, sc, a, A, hN, hs, h => by
    cases a <;> first | (cases h; done) | (simp [okE] at h; done) | skip
    simp only [okE, Bool.and_eq_true, decide_eq_true_eq] at h
    exact e_tup (short_of h.1 h.2) (sEs xs W X sc _ A hN hs h.1)
  | .lst xs, W, X, sc, a, A, hN, hs, h => by
    cases a <;> first | (cases h; done) | (simp [okE] at h; done) | skip
    simp only [okE, Bool.and_eq_true, decide_eq_true_eq] at h
    exact e_lst (short_of h.1 h.2) (sEs xs W X sc _ A hN hs h.1)
  | .isl x, W, X, sc, a, A, hN, hs, h => by
    simp only [okE, Bool.and_eq_true] at h
    exact e_isl (sE x W X sc _ A hN hs h.2)
  | .orv x y, W, X, sc, a, A, hN, hs, h => by
    cases a <;> first | (cases h; done) | (simp [okE] at h; done) | skip
    rename_i o l p
    cases o <;> first | (cases h; done) | (simp [okE] at h; done) | skip
    rcases l with _ | ⟨b, _ | ⟨d, _ | ⟨_, _⟩⟩⟩ <;> first | (cases h; done) | (simp [okE] at h; done) | skip
    simp only [okE, Bool.and_eq_true] at h
    exact e_orv (sE x W X sc _ A hN hs h.1) (e_one (sE y W X sc _ A hN hs h.2))
  | .lc e t vs w xs cs, W, X, sc, a, A, hN, hs, h => by
    cases a <;> first | (cases h; done) | (simp [okE] at h; done) | skip
    rename_i elt gs scope p
    rcases gs with _ | ⟨⟨tg, iter, ifs, k⟩, _ | ⟨_, _⟩⟩ <;> first | (cases h; done) | (simp [okE] at h; done) | skip
    simp only [okE, Bool.and_eq_true, decide_eq_true_eq] at h
    obtain ⟨⟨⟨⟨⟨⟨⟨⟨hk, h1⟩, h2⟩, hw⟩, h3⟩, h4⟩, h5⟩, h6⟩, hcm⟩ := h
    subst hk
    have hv : ∀ j, tgMem j t → j ∈ vs := by
      cases t with
      | nm i => intro j hj; rw [show j = i from hj]; simpa [tgIn] using h3
      | tp is => intro j hj; simp only [tgIn, List.all_eq_true] at h3; simpa using h3 j hj
    have own : (ownOf N vs).map (·.2) = vs := by simp [ownOf, List.map_map, Function.comp_def]
    have hb := blkOk_by h1
    subst hN hs
    have pi : PI X tg iter (tI X.K W w (evEs P call xs)) := sW xs w W X tg iter _ A rfl rfl h6 (tp_of hw h2)
    have r := pe_lc (pos := p) (g := gT X.K t) (tt := tTt X.K W0 (evTs P call cs)) (te := tV X.K W0 (evE P call e)) (A.hy.calm hcm) A.hy.nd pi hb (fun s H C0 cl fp => pg_T (fun x hx => (blk_loc s H scope C0 cl fp x hx).1) (A.hy.calm hcm) A.hy.nd (fun x hx => (blk_loc s H scope C0 cl fp x hx).2) h2)
      (fun s H C0 cl fp => sTs cs W0 _ _ _ (A.blk s H scope C0 cl fp) rfl rfl h5) (fun s H C0 cl fp => sE e W0 _ _ _ (A.blk s H scope C0 cl fp) rfl rfl h4) (fun x => folded (ok_walk h6) x)
    rw [own] at r
    exact pe_mono r fun σ H Q hq => lc_read hv hq
theorem sW {N : List PySem.Str} : ∀ (xs : List E) (w : Wk) (W : WX) (X : Cx) (tg a : Expr) (sc : Scope), Al L P call W X → X.N = N → X.env.scope = sc → okW L N sc xs w a = true → ((w = .enum ∨ w = .zip ∨ (∃ r, w = .zipr r) ∨ w = .revdr) → ∃ es k p, tg = .Tuple es k p) → PI X tg a (tI X.K W w (evEs P call xs))
  | [x], .seq, W, X, tg, a, sc, A, hN, hs, h, ht => i_seq (sE x W X sc _ A hN hs h)
  | [x], .rng1, W, X, tg, a, sc, A, hN, hs, h, ht => by
    cases a <;> first | (cases h; done) | (simp [okW] at h; done) | skip
    rename_i f as ks p
    cases f <;> first | (cases h; done) | (simp [okW] at h; done) | skip
    rcases as with _ | ⟨a, _ | ⟨_, _⟩⟩ <;> first | (cases h; done) | (simp [okW] at h; done) | skip
    cases ks <;> first | (cases h; done) | (simp [okW] at h; done) | skip
    simp only [okW, Bool.and_eq_true, beq_iff_eq] at h
    exact i_rng1 A.hy (ok_plain h.2).1 (hs ▸ h.1.1) h.1.2 (sE x W X sc _ A hN hs h.2)
  | [x, y], .rng2, W, X, tg, a, sc, A, hN, hs, h, ht => by
    cases a <;> first | (cases h; done) | (simp [okW] at h; done) | skip
    rename_i f as ks p
    cases f <;> first | (cases h; done) | (simp [okW] at h; done) | skip
    rcases as with _ | ⟨a, _ | ⟨b, _ | ⟨_, _⟩⟩⟩ <;> first | (cases h; done) | (simp [okW] at h; done) | skip
    cases ks <;> first | (cases h; done) | (simp [okW] at h; done) | skip
    simp only [okW, Bool.and_eq_true, beq_iff_eq] at h
    rw [evEs_two]
    exact i_rng2 A.hy (ok_plain h.1.2).1 (ok_plain h.2).1 (hs ▸ h.1.1.1) h.1.1.2 (sE x W X sc _ A hN hs h.1.2) (sE y W X sc _ A hN hs h.2)
  | [x], .enum, W, X, tg, a, sc, A, hN, hs, h, ht => by
    obtain ⟨es, k, p0, rfl⟩ := ht (.inl rfl)
    cases a <;> first | (cases h; done) | (simp [okW] at h; done) | skip
    rename_i f as ks p
    cases f <;> first | (cases h; done) | (simp [okW] at h; done) | skip
    rcases as with _ | ⟨a, _ | ⟨_, _⟩⟩ <;> first | (cases h; done) | (simp [okW] at h; done) | skip
    cases ks <;> first | (cases h; done) | (simp [okW] at h; done) | skip
    simp only [okW, Bool.and_eq_true, beq_iff_eq] at h
    exact i_enum A.hy (ok_plain h.2).1 (hs ▸ h.1.1) h.1.2 (sE x W X sc _ A hN hs h.2)
  | [x], .revd, W, X, tg, a, sc, A, hN, hs, h, ht => by
    cases a <;> first | (cases h; done) | (simp [okW] at h; done) | skip
    rename_i f as ks p
    cases f <;> first | (cases h; done) | (simp [okW] at h; done) | skip
    rcases as with _ | ⟨a, _ | ⟨_, _⟩⟩ <;> first | (cases h; done) | (simp [okW] at h; done) | skip
    cases ks <;> first | (cases h; done) | (simp [okW] at h; done) | skip
    simp only [okW, Bool.and_eq_true, beq_iff_eq] at h
    exact i_rev A.hy (ok_plain h.2).1 (hs ▸ h.1.1) h.1.2 (sE x W X sc _ A hN hs h.2)
  | [x, y], .zip, W, X, tg, a, sc, A, hN, hs, h, ht => by
    obtain ⟨es, k, p0, rfl⟩ := ht (.inr (.inl rfl))
    cases a <;> first | (cases h; done) | (simp [okW] at h; done) | skip
    rename_i f as ks p
    cases f <;> first | (cases h; done) | (simp [okW] at h; done) | skip
    rcases as with _ | ⟨a, _ | ⟨b, _ | ⟨_, _⟩⟩⟩ <;> first | (cases h; done) | (simp [okW] at h; done) | skip
    cases ks <;> first | (cases h; done) | (simp [okW] at h; done) | skip
    simp only [okW, Bool.and_eq_true, beq_iff_eq] at h
    rw [evEs_two]
    exact i_zip A.hy (ok_plain h.1.2).1 (ok_plain h.2).1 (hs ▸ h.1.1.1) h.1.1.2 (sE x W X sc _ A hN hs h.1.2) (sE y W X sc _ A hN hs h.2)
  | [x, y], .zipr r, W, X, tg, a, sc, A, hN, hs, h, ht => by
    obtain ⟨es, k, p0, rfl⟩ := ht (.inr (.inr (.inl ⟨_, rfl⟩)))
    cases a <;> first | (cases h; done) | (simp [okW] at h; done) | skip
    rename_i f as ks p
    cases f <;> first | (cases h; done) | (simp [okW] at h; done) | skip
    rcases as with _ | ⟨a, _ | ⟨b, _ | ⟨_, _⟩⟩⟩ <;> first | (cases h; done) | (simp [okW] at h; done) | skip
    cases ks <;> first | (cases h; done) | (simp [okW] at h; done) | skip
    simp only [okW, Bool.and_eq_true, beq_iff_eq] at h
    obtain ⟨⟨⟨⟨h1, h2⟩, h3⟩, h4⟩, h5⟩ := h
    cases x <;> first | (cases h3; done) | skip
    rename_i x
    cases e : revArg sc a with
    | none => rw [e] at h4; cases h4
    | some a' =>
      rw [e] at h4
      simp only [okE, Bool.and_eq_true] at h4
      obtain ⟨g, p1, p2, rfl, q1, q2⟩ := revArg_form e
      rw [evEs_two]
      cases r with
      | false => exact i_zrl A.hy (ok_plain h4.2).1 (ok_plain h5).1 (hs ▸ h1) h2 (hs ▸ q1) q2 (sE x W X sc _ A hN hs h4.2) (sE y W X sc _ A hN hs h5)
      | true =>
        cases e2 : revArg sc b with
        | none => rw [if_pos rfl, e2] at h5; cases h5
        | some b' =>
          rw [if_pos rfl, e2] at h5
          obtain ⟨g', p3, p4, rfl, q3, q4⟩ := revArg_form e2
          exact i_zrr A.hy (ok_plain h4.2).1 (ok_plain h5).1 (hs ▸ h1) h2 (hs ▸ q1) q2 (hs ▸ q3) q4 (sE x W X sc _ A hN hs h4.2) (sE y W X sc _ A hN hs h5)
  | [], w, W, X, tg, a, sc, A, hN, hs, h, ht => by cases w <;> simp [okW] at h
  | [_], .zipr _, W, X, tg, a, sc, A, hN, hs, h, ht => by simp [okW] at h
  | [_], .rng2, W, X, tg, a, sc, A, hN, hs, h, ht => by simp [okW] at h
  | [_], .rng3, W, X, tg, a, sc, A, hN, hs, h, ht => by simp [okW] at h
  | [_], .zip, W, X, tg, a, sc, A, hN, hs, h, ht => by simp [okW] at h
  | [x], .revdr, W, X, tg, a, sc, A, hN, hs, h, ht => by
    obtain ⟨es, k, p0, rfl⟩ := ht (.inr (.inr (.inr rfl)))
    cases a <;> first | (cases h; done) | (simp [okW] at h; done) | skip
    rename_i f as ks p
    cases f <;> first | (cases h; done) | (simp [okW] at h; done) | skip
    rcases as with _ | ⟨b, _ | ⟨_, _⟩⟩ <;> first | (cases h; done) | (simp [okW] at h; done) | skip
    cases ks <;> first | (cases h; done) | (simp [okW] at h; done) | skip
    simp only [okW, Bool.and_eq_true, beq_iff_eq] at h
    obtain ⟨⟨h1, h2⟩, h3⟩ := h
    cases e : revArg sc b with
    | none => rw [e] at h3; cases h3
    | some a' =>
      rw [e] at h3
      obtain ⟨g, q1, q2, rfl, hg, rfl⟩ := revArg_form e
      exact i_enumR A.hy (ok_plain h3).1 (hs ▸ h1) h2 (hs ▸ hg) rfl (sE x W X sc _ A hN hs h3)
  | [_, _], .seq, W, X, tg, a, sc, A, hN, hs, h, ht => by simp [okW] at h
  | [_, _], .rng1, W, X, tg, a, sc, A, hN, hs, h, ht => by simp [okW] at h
  | [_, _], .rng3, W, X, tg, a, sc, A, hN, hs, h, ht => by simp [okW] at h
  | [_, _], .enum, W, X, tg, a, sc, A, hN, hs, h, ht => by simp [okW] at h
  | [_, _], .revd, W, X, tg, a, sc, A, hN, hs, h, ht => by simp [okW] at h
  | [_, _], .revdr, W, X, tg, a, sc, A, hN, hs, h, ht => by simp [okW] at h
  | _ :: _ :: _ :: _, w, W, X, tg, a, sc, A, hN, hs, h, ht => by cases w <;> simp [okW] at h
theorem sEs {N : List PySem.Str} : ∀ (es : List E) (W : WX) (X : Cx) (sc : Scope) (as : List Expr), Al L P call W X → X.N = N → X.env.scope = sc → okEs L N sc es as = true → PA X as (tVs X.K W (evEs P call es))
  | [], W, X, sc, as, A, hN, hs, h => by
    cases as with
    | nil => exact a_nil
    | cons a as => cases h
  | e :: es, W, X, sc, as, A, hN, hs, h => by
    cases as with
    | nil => cases h
    | cons a as =>
      simp only [okEs, Bool.and_eq_true] at h
      exact a_cons (ok_plain h.1).1 (sE e W X sc _ A hN hs h.1) (sEs es W X sc _ A hN hs h.2)
theorem sPs {N : List PySem.Str} : ∀ (es : List E) (W : WX) (X : Cx) (sc : Scope) (as : List Expr), Al L P call W X → X.N = N → X.env.scope = sc → okEs L N sc es as = true → ∀ (ks : List (List Nat)) (kx : List (Option Expr)), okKs ks kx = true → kx.length = as.length →
    ∃ s : List PySem.Str, s.map (fun x => x.cps.toList) = ks ∧ (∀ x ∈ s, okS x = true) ∧ s.Nodup ∧ s.length = es.length ∧ ∀ pos, PPs X pos kx as (trsOf X.K W s (es.map (evE P call)))
  | [], W, X, sc, as, A, hN, hs, h, ks, kx, hk, hl => by
    cases as with
    | nil =>
      cases kx with
      | nil =>
        cases ks with
        | nil => exact ⟨[], rfl, fun _ z => (nomatch z), List.nodup_nil, rfl, fun _ => pps_nil⟩
        | cons _ _ => cases hk
      | cons _ _ => cases hl
    | cons a as => cases h
  | e :: es, W, X, sc, as, A, hN, hs, h, ks, kx, hk, hl => by
    cases as with
    | nil => cases h
    | cons a as =>
      cases kx with
      | nil => cases hl
      | cons q kx =>
        simp only [okEs, Bool.and_eq_true] at h
        obtain ⟨y, k, p, kk, ks', eq, ek, h1, h2, h3, h4⟩ := okKs_cons hk
        subst eq ek
        obtain ⟨s, e1, e2, e3, e4, e5⟩ := sPs es W X sc as A hN hs h.2 ks' kx h4 (by simpa using hl)
        have ha := sE e W X sc a A hN hs h.1
        refine ⟨y :: s, by rw [List.map_cons, e1, h1], fun x hx => ?_, List.nodup_cons.mpr ⟨fun z => ?_, e3⟩, by rw [List.length_cons, List.length_cons, e4], fun pos => pps_cons pe_str ha (e5 pos)⟩
        · rcases List.mem_cons.mp hx with rfl | hx
          · exact h2
          · exact e2 x hx
        · have : y.cps.toList ∈ ks' := by rw [← e1]; exact List.mem_map.mpr ⟨y, z, rfl⟩
          rw [h1] at this
          exact h3 this
theorem sO {N : List PySem.Str} : ∀ (e : Option E) (W : WX) (X : Cx) (sc : Scope) (a : Option Expr), Al L P call W X → X.N = N → X.env.scope = sc → okO L N sc e a = true → PO X a (tO X.K W (evO P call e))
  | none, W, X, sc, a, A, hN, hs, h => by
    cases a with
    | none => exact p_none
    | some a => cases h
  | some e, W, X, sc, a, A, hN, hs, h => by
    cases a with
    | none => cases h
    | some a => exact p_some (sE e W X sc _ A hN hs h)
theorem sT {N : List PySem.Str} : ∀ (e : E) (W : WX) (X : Cx) (sc : Scope) (a : Expr), Al L P call W X → X.N = N → X.env.scope = sc → okE L N sc e a = true → TOk X a (tTt X.K W (evT P call e))
  | .and x y, W, X, sc, a, A, hN, hs, h => by
    cases a <;> first | (cases h; done) | (simp [okE] at h; done) | skip
    rename_i o l p
    cases o <;> first | (cases h; done) | (simp [okE] at h; done) | skip
    rcases l with _ | ⟨b, _ | ⟨d, r⟩⟩ <;> first | (cases h; done) | (simp [okE] at h; done) | skip
    simp only [okE, Bool.and_eq_true] at h
    have h1 := (sT x W X sc _ A hN hs h.1).pt
    have w : PW X (.BoolOp .And (b :: d :: r) p) (tTt X.K W (evT P call (.and x y))) := by
      cases r with
      | nil => exact w_and h1 (w_and1 (sT y W X sc _ A hN hs h.2).pt)
      | cons z r => exact w_and h1 ((sT y W X sc _ A hN hs h.2).pw _ _ _ rfl)
    exact ⟨w.pt, fun _ _ _ e => w⟩
  | .or x y, W, X, sc, a, A, hN, hs, h => by
    cases a <;> first | (cases h; done) | (simp [okE] at h; done) | skip
    rename_i o l p
    cases o <;> first | (cases h; done) | (simp [okE] at h; done) | skip
    rcases l with _ | ⟨b, _ | ⟨d, r⟩⟩ <;> first | (cases h; done) | (simp [okE] at h; done) | skip
    simp only [okE, Bool.and_eq_true] at h
    have h1 := (sT x W X sc _ A hN hs h.1).pt
    have w : PW X (.BoolOp .Or (b :: d :: r) p) (tTt X.K W (evT P call (.or x y))) := by
      cases r with
      | nil => exact w_or h1 (w_or1 (sT y W X sc _ A hN hs h.2).pt)
      | cons z r => exact w_or h1 ((sT y W X sc _ A hN hs h.2).pw _ _ _ rfl)
    exact ⟨w.pt, fun _ _ _ e => w⟩
  | .not x, W, X, sc, a, A, hN, hs, h => by
    cases a <;> first | (cases h; done) | (simp [okE] at h; done) | skip
    rename_i o b p
    cases o <;> first | (cases h; done) | (simp [okE] at h; done) | skip
    simp only [okE] at h
    exact ⟨t_not (sT x W X sc _ A hN hs h).pt, fun _ _ _ e => by cases e⟩
  | .cmp o x y, W, X, sc, a, A, hN, hs, h => by
    cases a <;> first | (cases h; done) | (simp [okE] at h; done) | skip
    rename_i l os cs p
    rcases os with _ | ⟨q, _ | ⟨_, _⟩⟩ <;> first | (cases h; done) | (simp [okE] at h; done) | skip
    rcases cs with _ | ⟨b, _ | ⟨_, _⟩⟩ <;> first | (cases h; done) | (simp [okE] at h; done) | skip
    simp only [okE, Bool.and_eq_true] at h
    exact ⟨t_cmp A.hy h.1.1 (ok_plain h.2).2.1 (sE x W X sc _ A hN hs h.1.2) (sE y W X sc _ A hN hs h.2), fun _ _ _ e => by cases e⟩
  | .chain o o' x y z, W, X, sc, a, A, hN, hs, h => by
    cases a <;> first | (cases h; done) | (simp [okE] at h; done) | skip
    rename_i l os cs p
    rcases os with _ | ⟨q, _ | ⟨r, _ | ⟨_, _⟩⟩⟩ <;> first | (cases h; done) | (simp [okE] at h; done) | skip
    rcases cs with _ | ⟨b, _ | ⟨d, _ | ⟨_, _⟩⟩⟩ <;> first | (cases h; done) | (simp [okE] at h; done) | skip
    simp only [okE, Bool.and_eq_true] at h
    exact ⟨t_chain A.hy h.1.1.1.1 h.1.1.1.2 (ok_plain h.2).2.1 (sE x W X sc _ A hN hs h.1.1.2) (sE y W X sc _ A hN hs h.1.2) (sE z W X sc _ A hN hs h.2), fun _ _ _ e => by cases e⟩
  | .v i, W, X, sc, a, A, hN, hs, h => by
    obtain ⟨x, p, rfl, hv⟩ := v_form h
    subst hN hs
    exact leaf_name (e_var hv)
  | .call g xs, W, X, sc, a, A, hN, hs, h => by
    obtain ⟨f, as, ks, p, rfl⟩ := call_form h
    exact leaf_call (cCall A hs h fun as q => sEs xs W X sc as A hN hs q)
  | .blt g xs, W, X, sc, a, A, hN, hs, h => by
    obtain ⟨f, as, ks, p, rfl⟩ := blt_form h
    exact leaf_call (cBlt A hs h fun as q => sEs xs W X sc as A hN hs q)
  | .isi x t, W, X, sc, a, A, hN, hs, h => by
    obtain ⟨f, as, ks, p, rfl⟩ := isi_form h
    exact leaf_call (cIsi A hs h fun b q => sE x W X sc b A hN hs q)
  | .ix x y, W, X, sc, a, A, hN, hs, h => by
    obtain ⟨b, d, p, rfl⟩ := ix_form h
    exact leaf_sub (cIx A h (fun b q => sE x W X sc b A hN hs q) fun b q => sE y W X sc b A hN hs q)
  | .k _, W, X, sc, a, A, hN, hs, h => pt_st
  | .n, W, X, sc, a, A, hN, hs, h => pt_st
  | .b _, W, X, sc, a, A, hN, hs, h => pt_st
  | .i _, W, X, sc, a, A, hN, hs, h => pt_st
  | .s _, W, X, sc, a, A, hN, hs, h => pt_st
  | .bin _ _ _, W, X, sc, a, A, hN, hs, h => pt_st
  | .neg _, W, X, sc, a, A, hN, hs, h => pt_st
  | .ite _ _ _, W, X, sc, a, A, hN, hs, h => pt_st
  | .meth _ _ _ _, W, X, sc, a, A, hN, hs, h => pt_st
  | .new _ _, W, X, sc, a, A, hN, hs, h => pt_st
  | .bm _ _ _, W, X, sc, a, A, hN, hs, h => pt_st
  | .fld _ _ _, W, X, sc, a, A, hN, hs, h => pt_st
  | .sl _ _ _, W, X, sc, a, A, hN, hs, h => pt_st
  | .rev _, W, X, sc, a, A, hN, hs, h => pt_st
  | .tup _, W, X, sc, a, A, hN, hs, h => pt_st
  | .lst _, W, X, sc, a, A, hN, hs, h => pt_st
  | .lc _ _ _ _ _ _, W, X, sc, a, A, hN, hs, h => pt_st
  | .isl _, W, X, sc, a, A, hN, hs, h => pt_st
  | .dsp _ _, W, X, sc, a, A, hN, hs, h => pt_st
  | .orv _ _, W, X, sc, a, A, hN, hs, h => pt_st
theorem sTs {N : List PySem.Str} : ∀ (cs : List E) (W : WX) (X : Cx) (sc : Scope) (as : List Expr), Al L P call W X → X.N = N → X.env.scope = sc → okEs L N sc cs as = true → PTs X as (tTt X.K W (evTs P call cs))
  | [], W, X, sc, as, A, hN, hs, h => by
    cases as with
    | nil => exact ⟨fun pins s σ H Q I ⟨F, c, α, w, hw⟩ => pts_nil.run pins s σ H Q I (hw F H w .refl)⟩
    | cons a as => cases h
  | [e], W, X, sc, as, A, hN, hs, h => by
    rcases as with _ | ⟨a, _ | ⟨_, _⟩⟩
    · cases h
    · simp only [okEs, Bool.and_eq_true] at h
      exact pts_one (sT e W X sc _ A hN hs h.1).pt
    · simp [okEs] at h
  | _ :: _ :: _, W, X, sc, as, A, hN, hs, h => ⟨fun pins s σ H Q I ⟨F, c, α, w, hw⟩ => False.elim hw⟩
end
end
end Ev
end
section
set_option maxRecDepth 100000
set_option maxHeartbeats 1000000
/-! Ev10: statements. -/
namespace Ev
open PySem L2

/-- a statement's step; kp: the names whose values stay -/
structure SR (K : Fg) (kp : Nat → Prop) (σ σ' : L2.St) (ρ ρ' : List Sl) (α α' : Nat → Addr) (F H F' H' : Hp) : Prop where
  kept : ∀ a o, H a = some o → (∀ ps, o ≠ .tbl ps) → (∀ i x, getS ρ i = .own x → a ≠ α i) → H' a = some o
  tb : TB K H H'
  dom : ∀ a o, H a = some o → ∃ o', H' a = some o'
  sub : Same F F'
  new : ∀ a o, F' a = some o → F a = some o ∨ Nw H a ∨ ∃ i x, getS ρ i = .own x ∧ a = α i
  cells : ∀ i x, getS ρ' i = .own x → H (α' i) = none ∨ ∃ j y, getS ρ j = .own y ∧ α' i = α j
  len : σ'.length = σ.length
  fix : ∀ i, kp i → σ'[i]? = σ[i]? ∧ (∀ x, getS ρ i = .own x → getS ρ' i = .own x ∨ (Rep K F' (.ref (α i)) x ∧ ∀ y, getS ρ' i ≠ .own y)) ∧ ∀ y, getS ρ' i = .own y → getS ρ i = .own y
/-- a function's end -/
structure SEnd (K : Fg) (ρ : List Sl) (α : Nat → Addr) (F H F' H' : Hp) : Prop where
  kept : ∀ a o, H a = some o → (∀ ps, o ≠ .tbl ps) → (∀ i x, getS ρ i = .own x → a ≠ α i) → H' a = some o
  tb : TB K H H'
  sub : Same F F'
  s' : Same F' H'
  new : ∀ a o, F' a = some o → F a = some o ∨ Nw H a ∨ ∃ i x, getS ρ i = .own x ∧ a = α i
def RvOk (K : Fg) (ρ : List Sl) (α : Nat → Addr) (H F' H' : Hp) (u : V) : Rv → Prop
  | .d x => Rep K F' u x
  | .own x => ∃ a, u = .ref a ∧ F' a = none ∧ Own K F' H' a x ∧ (H a = none ∨ ∃ i y, getS ρ i = .own y ∧ a = α i)
section
variable {K : Fg} {kp : Nat → Prop} {σ σ' σ'' : L2.St} {ρ ρ' ρ'' : List Sl} {α α' α'' : Nat → Addr} {F H F' H' F'' H'' : Hp}
theorem Tr.sr (t : Tr K ρ ρ' α F H F' H') : SR K kp σ σ ρ ρ' α α F H F' H' :=
  ⟨fun a o h nt _ => t.same.keep a o h nt, t.same.tb, fun a o h => t.same.toSame.there h, t.sub, t.new, fun i x h => .inr ⟨i, x, t.back i x h, rfl⟩, rfl, fun i _ => ⟨rfl, t.keep i, t.back i⟩⟩
theorem SR.refl : SR K kp σ σ ρ ρ α α F H F H := Tr.refl.sr
theorem SR.noCell (s : SR K kp σ σ' ρ ρ' α α' F H F' H') {a : Addr} {o : HO} (h : H a = some o) (hn : ∀ i x, getS ρ i = .own x → a ≠ α i) : ∀ i x, getS ρ' i = .own x → a ≠ α' i := fun i x q e => by
  rcases s.cells i x q with z | ⟨j, y, z, e2⟩
  · rw [← e, h] at z; cases z
  · exact hn j y z (e.trans e2)
theorem SR.newBack (s : SR K kp σ σ' ρ ρ' α α' F H F' H') {a : Addr} (h : H' a = none ∨ ∃ i x, getS ρ' i = .own x ∧ a = α' i) : H a = none ∨ ∃ i x, getS ρ i = .own x ∧ a = α i := by
  rcases h with h | ⟨i, x, q, e⟩
  · left
    cases z : H a with
    | none => rfl
    | some o =>
      obtain ⟨o', p⟩ := s.dom a o z
      rw [h] at p; cases p
  · rcases s.cells i x q with z | ⟨j, y, z, e2⟩
    · exact .inl (e ▸ z)
    · exact .inr ⟨j, y, z, e.trans e2⟩
theorem SR.nwBack (s : SR K kp σ σ' ρ ρ' α α' F H F' H') {a : Addr} (h : Nw H' a ∨ ∃ i x, getS ρ' i = .own x ∧ a = α' i) : Nw H a ∨ ∃ i x, getS ρ i = .own x ∧ a = α i := by
  rcases h with (h | ⟨xs, h⟩) | h
  · exact (s.newBack (.inl h)).imp .inl id
  · by_cases hn : ∃ i x, getS ρ i = .own x ∧ a = α i
    · exact .inr hn
    · left
      cases q : H a with
      | none => exact .inl q
      | some o =>
        by_cases ht : ∃ ps, o = .tbl ps
        · obtain ⟨ps, rfl⟩ := ht
          obtain ⟨ps', e⟩ := s.tb.tbls a ps q
          rw [h] at e; cases e
        · have e := s.kept a o q (fun ps z => ht ⟨ps, z⟩) fun i x g e => hn ⟨i, x, g, e⟩
          rw [h] at e; cases e; exact .inr ⟨xs, q⟩
  · exact (s.newBack (.inr h)).imp .inl id
theorem SR.trans (w : Wf K F H σ ρ α) (w' : Wf K F' H' σ' ρ' α') (s : SR K kp σ σ' ρ ρ' α α' F H F' H') (t : SR K kp σ' σ'' ρ' ρ'' α' α'' F' H' F'' H'') : SR K kp σ σ'' ρ ρ'' α α'' F H F'' H'' := by
  refine ⟨fun a o h nt hn => t.kept a o (s.kept a o h nt hn) nt (s.noCell h hn), s.tb.trans t.tb, fun a o h => ?_, s.sub.trans t.sub, fun a o h => ?_, fun i x h => ?_, t.len.trans s.len, fun i hi => ?_⟩
  · obtain ⟨o', p⟩ := s.dom a o h
    exact t.dom a o' p
  · rcases t.new a o h with h | h
    · exact s.new a o h
    · exact .inr (s.nwBack h)
  · rcases t.cells i x h with h | ⟨j, y, q, e⟩
    · exact s.newBack (.inl h)
    · exact s.newBack (.inr ⟨j, y, q, e⟩)
  · obtain ⟨a1, a2, a3⟩ := s.fix i hi
    obtain ⟨b1, b2, b3⟩ := t.fix i hi
    refine ⟨b1.trans a1, fun x h => ?_, fun y h => a3 y (b3 y h)⟩
    rcases a2 x h with q | ⟨q1, q2⟩
    · have e : α' i = α i := by
        have c1 := (w.cell h).1
        have c2 := (w'.cell q).1
        rw [a1, c1] at c2
        exact (V.ref.inj (Option.some.inj (Option.some.inj c2))).symm
      rcases b2 x q with p | p
      · exact .inl p
      · exact .inr ⟨e ▸ p.1, p.2⟩
    · exact .inr ⟨q1.mono t.sub, fun y p => q2 y (b3 y p)⟩
theorem SR.weak {kp' : Nat → Prop} (s : SR K kp σ σ' ρ ρ' α α' F H F' H') (h : ∀ i, kp' i → kp i) : SR K kp' σ σ' ρ ρ' α α' F H F' H' :=
  ⟨s.kept, s.tb, s.dom, s.sub, s.new, s.cells, s.len, fun i hi => s.fix i (h i hi)⟩
theorem SR.fin (s : SR K kp σ σ' ρ ρ' α α' F H F' H') (t : SEnd K ρ' α' F' H' F'' H'') : SEnd K ρ α F H F'' H'' := by
  refine ⟨fun a o h nt hn => t.kept a o (s.kept a o h nt hn) nt (s.noCell h hn), s.tb.trans t.tb, s.sub.trans t.sub, t.s', fun a o h => ?_⟩
  rcases t.new a o h with h | h
  · exact s.new a o h
  · exact .inr (s.nwBack h)
theorem SR.rv (s : SR K kp σ σ' ρ ρ' α α' F H F' H') {u : V} {v : Rv} (h : RvOk K ρ' α' H' F'' H'' u v) : RvOk K ρ α H F'' H'' u v := by
  cases v with
  | d x => exact h
  | own x =>
    obtain ⟨a, e, h1, h2, h3⟩ := h
    exact ⟨a, e, h1, h2, s.newBack h3⟩
end

section
variable (K : Fg) (W : WX) (kp : Nat → Prop)
def PF (D : Ends) (σ : L2.St) (F H : Hp) (c : C) (α : Nat → Addr) (f : Fl) (c' : C) : Prop := match f with
  | .nx => ∀ σ' F' H' α', Wf K F' H' σ' c'.env α' → SR K kp σ σ' c.env c'.env α α' F H F' H' → D.nx σ' H'
  | .bk => ∀ σ' F' H' α', Wf K F' H' σ' c'.env α' → SR K kp σ σ' c.env c'.env α α' F H F' H' → D.bk σ' H'
  | .ct => ∀ σ' F' H' α', Wf K F' H' σ' c'.env α' → SR K kp σ σ' c.env c'.env α α' F H F' H' → D.ct σ' H'
  | .rt v => ∀ u F' H', SEnd K c.env α F H F' H' → RvOk K c.env α H F' H' u v → D.rt u H'
def PXs (σ : L2.St) (F H : Hp) (c : C) (α : Nat → Addr) (x : Xc) (c' : C) : Prop :=
  ∀ cls d σ' F' H' α', Wf K F' H' σ' c'.env α' → SR K kp σ σ' c.env c'.env α α' F H F' H' → XOk K F' H' cls d x → W cls d σ' H'
def tS (r : C → R Fl) : TS := fun D σ H => ∃ F c α, Wf K F H σ c.env α ∧ WpR (r c) (PF K kp D σ F H c α) (PXs K W kp σ F H c α)
end
section
variable {K : Fg} {W : WX} {kp kp' : Nat → Prop} {σ σ₁ : L2.St} {F H F₁ H₁ : Hp} {c c₁ c' : C} {α α₁ : Nat → Addr} {D : Ends}
theorem PXs.on {x : Xc} (w : Wf K F H σ c.env α) (w₁ : Wf K F₁ H₁ σ₁ c₁.env α₁) (s : SR K kp σ σ₁ c.env c₁.env α α₁ F H F₁ H₁) (h : PXs K W kp σ F H c α x c') : PXs K W kp σ₁ F₁ H₁ c₁ α₁ x c' :=
  fun cls d σ2 F2 H2 α2 w2 s2 xk => h cls d σ2 F2 H2 α2 w2 (s.trans w w₁ s2) xk
theorem PXs.px {x : Xc} (h : PXs K W kp σ F H c α x c') : PX K W σ F H c α x c' := fun cls d F' H' w t xk => h cls d σ F' H' α w t.sr xk
theorem PF.on {f : Fl} (w : Wf K F H σ c.env α) (w₁ : Wf K F₁ H₁ σ₁ c₁.env α₁) (s : SR K kp σ σ₁ c.env c₁.env α α₁ F H F₁ H₁) (h : PF K kp D σ F H c α f c') : PF K kp D σ₁ F₁ H₁ c₁ α₁ f c' := by
  cases f with
  | nx => exact fun σ2 F2 H2 α2 w2 s2 => h σ2 F2 H2 α2 w2 (s.trans w w₁ s2)
  | bk => exact fun σ2 F2 H2 α2 w2 s2 => h σ2 F2 H2 α2 w2 (s.trans w w₁ s2)
  | ct => exact fun σ2 F2 H2 α2 w2 s2 => h σ2 F2 H2 α2 w2 (s.trans w w₁ s2)
  | rt v => exact fun u F2 H2 e r => h u F2 H2 (s.fin e) (s.rv r)
theorem PF.weak {f : Fl} (hk : ∀ i, kp i → kp' i) (h : PF K kp D σ F H c α f c') : PF K kp' D σ F H c α f c' := by
  cases f with
  | nx => exact fun σ2 F2 H2 α2 w2 s2 => h σ2 F2 H2 α2 w2 (s2.weak hk)
  | bk => exact fun σ2 F2 H2 α2 w2 s2 => h σ2 F2 H2 α2 w2 (s2.weak hk)
  | ct => exact fun σ2 F2 H2 α2 w2 s2 => h σ2 F2 H2 α2 w2 (s2.weak hk)
  | rt v => exact h
theorem PXs.weak {x : Xc} (hk : ∀ i, kp i → kp' i) (h : PXs K W kp σ F H c α x c') : PXs K W kp' σ F H c α x c' := fun cls d σ' F' H' α' w s xk => h cls d σ' F' H' α' w (s.weak hk) xk
theorem tS_weak {r : C → R Fl} (hk : ∀ i, kp i → kp' i) (h : tS K W kp r D σ H) : tS K W kp' r D σ H := by
  obtain ⟨F, c, α, w, hw⟩ := h
  exact ⟨F, c, α, w, hw.mono (fun _ _ q => q.weak hk) fun _ _ q => q.weak hk⟩
/-- the rest of a block -/
theorem restS {r : C → R Fl} (w : Wf K F H σ c.env α) (w₁ : Wf K F₁ H₁ σ₁ c₁.env α₁) (s : SR K kp σ σ₁ c.env c₁.env α α₁ F H F₁ H₁) (h : WpR (r c₁) (PF K kp D σ F H c α) (PXs K W kp σ F H c α)) : tS K W kp r D σ₁ H₁ :=
  ⟨F₁, c₁, α₁, w₁, h.mono (fun _ _ q => q.on w w₁ s) fun _ _ q => q.on w w₁ s⟩
/-- an expression at a statement's head -/
theorem sv {r : C → R Vl} {k : Vl → C → R Fl} {R' : V → Hp → Prop} (w : Wf K F H σ c.env α) (h : WpR ((r c).bind k) (PF K kp D σ F H c α) (PXs K W kp σ F H c α))
    (go : ∀ v c₁ u F₁ H₁, Wf K F₁ H₁ σ c₁.env α → Tr K c.env c₁.env α F H F₁ H₁ → VOk K H F₁ H₁ σ c₁.env α u v → WpR (k v c₁) (PF K kp D σ F H c α) (PXs K W kp σ F H c α) → R' u H₁) : tV K W r σ H R' :=
  ⟨F, c, α, w, h.bind.mono (fun v c₁ hk u F₁ H₁ w₁ t₁ v₁ => go v c₁ u F₁ H₁ w₁ t₁ v₁ hk) fun _ _ hq => hq.px⟩
theorem svT {r : C → R Bool} {k : Bool → C → R Fl} {R' : Bool → Hp → Prop} (w : Wf K F H σ c.env α) (h : WpR ((r c).bind k) (PF K kp D σ F H c α) (PXs K W kp σ F H c α))
    (go : ∀ b c₁ F₁ H₁, Wf K F₁ H₁ σ c₁.env α → Tr K c.env c₁.env α F H F₁ H₁ → WpR (k b c₁) (PF K kp D σ F H c α) (PXs K W kp σ F H c α) → R' b H₁) : tTt K W r σ H R' :=
  ⟨F, c, α, w, h.bind.mono (fun v c₁ hk F₁ H₁ w₁ t₁ => go v c₁ F₁ H₁ w₁ t₁ hk) fun _ _ hq => hq.px⟩
end

section
variable {X : Cx} {W : WX} {kp : Nat → Prop} {pos : Pos} {a : Expr} {ra : C → R Vl}
theorem ps_mono {st : Stmt} {t t' : TS} (h : PS X st t) (m : ∀ D σ H, t' D σ H → t D σ H) : PS X st t' := ⟨fun pins s σ H D I q => h.run pins s σ H D I (m D σ H q)⟩
theorem pss_mono {st : List Stmt} {t t' : TS} (h : PSs X st t) (m : ∀ D σ H, t' D σ H → t D σ H) : PSs X st t' := ⟨fun pins s σ H D I q => h.run pins s σ H D I (m D σ H q)⟩
theorem k_pass : PS X (.Pass pos) (tS X.K W kp fun c => .ok .nx c) := ps_mono ps_pass fun D σ H ⟨F, c, α, w, hw⟩ => hw σ F H α w .refl
theorem k_brk : PS X (.Break pos) (tS X.K W kp fun c => .ok .bk c) := ps_mono ps_break fun D σ H ⟨F, c, α, w, hw⟩ => hw σ F H α w .refl
theorem k_cnt : PS X (.Continue pos) (tS X.K W kp fun c => .ok .ct c) := ps_mono ps_continue fun D σ H ⟨F, c, α, w, hw⟩ => hw σ F H α w .refl
theorem k_nil : PSs X [] (tS X.K W kp fun c => .ok .nx c) := pss_mono pss_nil fun D σ H ⟨F, c, α, w, hw⟩ => hw σ F H α w .refl
theorem k_cons {st : Stmt} {r : List Stmt} {q q' : C → R Fl} (h1 : PS X st (tS X.K W kp q)) (h2 : PSs X r (tS X.K W kp q')) : PSs X (st :: r) (tS X.K W kp fun c => (q c).bind fun f c => nxt f c q') := by
  refine pss_mono (pss_cons h1 h2) fun D σ H ⟨F, c, α, w, hw⟩ => ?_
  refine ⟨F, c, α, w, hw.bind.mono (fun f c1 hk => ?_) fun _ _ q => q⟩
  cases f with
  | nx => exact fun σ1 F1 H1 α1 w1 s1 => restS w w1 s1 hk
  | bk => exact hk
  | ct => exact hk
  | rt v => exact hk
theorem k_ife {e : Expr} {x y : List Stmt} {qt : C → R Bool} {q q' : C → R Fl} (ht : PT X e (tTt X.K W qt)) (h1 : PSs X x (tS X.K W kp q)) (h2 : PSs X y (tS X.K W kp q')) :
    PS X (.If e x y pos) (tS X.K W kp fun c => (qt c).bind fun b c => if b then q c else q' c) := by
  refine ps_mono (ps_if ht h1 h2) fun D σ H ⟨F, c, α, w, hw⟩ => ?_
  refine svT w hw fun b c1 F1 H1 w1 t1 h => ?_
  cases b with
  | true => exact restS w w1 t1.sr h
  | false => exact restS w w1 t1.sr h
theorem k_exp (ha : PE X a (tV X.K W ra)) (hs : swapsWith a none pos.line X.env = pure false) : PS X (.Expr a pos) (tS X.K W kp fun c => (ra c).bind fun _ c => .ok .nx c) := by
  refine ps_mono (ps_expr ha hs) fun D σ H ⟨F, c, α, w, hw⟩ => ?_
  exact sv w hw fun v c1 u F1 H1 w1 t1 v1 h => h σ F1 H1 α w1 t1.sr
theorem send_of {K : Fg} {σ : L2.St} {F H F₁ H₁ : Hp} {ρ ρ' : List Sl} {α : Nat → Addr} (w : Wf K F₁ H₁ σ ρ' α) (t : Tr K ρ ρ' α F H F₁ H₁) : SEnd K ρ α F H F₁ H₁ := ⟨fun a o h nt _ => t.same.keep a o h nt, t.same.tb, t.sub, w.sub, t.new⟩
theorem k_ret (ha : PE X a (tV X.K W ra)) : PS X (.Return (some a) pos) (tS X.K W kp fun c => (ra c).bind fun v c => .ok (.rt (v.rv c)) c) := by
  refine ps_mono (ps_ret ha) fun D σ H ⟨F, c, α, w, hw⟩ => ?_
  refine sv w hw fun v c1 u F1 H1 w1 t1 v1 h => h u F1 H1 (send_of w1 t1) ?_
  cases v with
  | d x => exact v1
  | tmp x =>
    obtain ⟨p, e, h0, hf, ho⟩ := v1
    exact ⟨p, e, hf, ho, .inl h0⟩
  | bor i x =>
    obtain ⟨e, hσ, h1⟩ := v1
    rcases h1 with h1 | h1
    · obtain ⟨_, k2, k3⟩ := w1.cell h1
      have er : (Vl.bor i x).rv c1 = .own x := by unfold Vl.rv C.get; simp only [h1]
      rw [er]
      exact ⟨_, e, k2, k3, .inr ⟨i, x, t1.back i x h1, rfl⟩⟩
    · have er : (Vl.bor i x).rv c1 = .d x := by
        unfold Vl.rv C.get
        cases q : getS c1.env i with
        | own y => exact absurd q (h1.2 y)
        | _ => simp only [q]
      rw [er]
      exact h1.1
theorem k_retn : PS X (.Return none pos) (tS X.K W kp fun c => .ok (.rt (.d .non)) c) :=
  ps_mono ps_retN fun D σ H ⟨F, c, α, w, hw⟩ => hw _ F H ⟨fun a o h _ _ => h, TB.refl _, Same.refl _, w.sub, fun _ _ h => .inl h⟩ .non

/-! ### assignments -/
section
variable {K : Fg} {σ : L2.St} {F H : Hp} {ρ : List Sl} {α : Nat → Addr}
/-- a name gets data: the step -/
theorem sr_dat (w : Wf K F H σ ρ α) {i : Nat} {x : D} {v : V} (r : Rep K F v x) (hk : ∀ k, kp k → k ≠ i) : Wf K F H (σ.set i (some v)) (setS ρ i (.dat x)) α ∧ SR K kp σ (σ.set i (some v)) ρ (setS ρ i (.dat x)) α α F H F H := by
  refine ⟨w.set r, fun a o h _ _ => h, TB.refl _, fun a o h => ⟨o, h⟩, Same.refl _, fun a o h => .inl h, fun j y h => .inr ⟨j, y, own_setS h, rfl⟩, List.length_set, fun j hj => ⟨List.getElem?_set_ne (hk j hj).symm, fun y h => .inl ?_, fun y h => own_setS h⟩⟩
  rw [getS_setS, if_neg (fun q => hk j hj q.1.symm)]
  exact h
def reα (α : Nat → Addr) (i : Nat) (a : Addr) : Nat → Addr := fun k => if k = i then a else α k
/-- a name gets a list of its own -/
theorem wf_own (w : Wf K F H σ ρ α) {i : Nat} {x : D} {a : Addr} (hf : F a = none) (ho : Own K F H a x) (hn : ∀ j y, getS ρ j = .own y → j ≠ i → α j ≠ a) : Wf K F H (σ.set i (some (.ref a))) (setS ρ i (.own x)) (reα α i a) := by
  have get : ∀ j, getS (setS ρ i (.own x)) j = if i = j ∧ i < ρ.length then .own x else getS ρ j := fun j => getS_setS _ _ _ _
  refine ⟨w.sub, w.gt, by rw [setS_length, List.length_set]; exact w.len, fun j => ?_, fun j k y z e1 e2 e3 => ?_⟩
  · rw [get]
    by_cases h : i = j ∧ i < ρ.length
    · rw [if_pos h, ← h.1, List.getElem?_set_self (by rw [← w.len]; exact h.2)]
      unfold reα
      rw [if_pos rfl]
      exact ⟨rfl, hf, ho⟩
    · rw [if_neg h]
      by_cases hij : i = j
      · have hl : ρ.length ≤ j := by
          rcases Nat.lt_or_ge i ρ.length with q | q
          · exact absurd ⟨hij, q⟩ h
          · omega
        rw [getS_out _ _ hl]
        trivial
      · rw [List.getElem?_set_ne hij]
        have : reα α i a j = α j := by unfold reα; rw [if_neg (Ne.symm hij)]
        rw [this]
        exact w.slot j
  · rw [get] at e1 e2
    unfold reα at e3
    by_cases hj : j = i
    · by_cases hk : k = i
      · rw [hj, hk]
      · rw [if_pos hj, if_neg hk] at e3
        rw [if_neg (fun q => hk q.1.symm)] at e2
        exact absurd e3.symm (hn k z e2 hk)
    · by_cases hk : k = i
      · rw [if_neg hj, if_pos hk] at e3
        rw [if_neg (fun q => hj q.1.symm)] at e1
        exact absurd e3 (hn j y e1 hj)
      · rw [if_neg hj, if_neg hk] at e3
        rw [if_neg (fun q => hj q.1.symm)] at e1
        rw [if_neg (fun q => hk q.1.symm)] at e2
        exact w.inj j k y z e1 e2 e3
end
theorem lay_read {t : Tg} {D : Ends} {σ : L2.St} {F H F₁ H₁ : Hp} {c c₁ : C} {α : Nat → Addr} {u : V} {v : Vl} (hk : ∀ k, kp k → ¬ tgMem k t) (w : Wf X.K F H σ c.env α) (w₁ : Wf X.K F₁ H₁ σ c₁.env α) (t₁ : Tr X.K c.env c₁.env α F H F₁ H₁) (v₁ : VOk X.K H F₁ H₁ σ c₁.env α u v)
    (h : WpR (lay t v c₁) (PF X.K kp D σ F H c α) (PXs X.K W kp σ F H c α)) : gT X.K t u σ H₁ D.nx := by
  cases t with
  | nm i =>
    have hk : ∀ k, kp k → k ≠ i := hk
    cases v with
    | d x =>
      obtain ⟨w2, s2⟩ := sr_dat (kp := kp) w₁ v₁ hk
      exact h _ F₁ H₁ α w2 (t₁.sr.trans w w₁ s2)
    | tmp x =>
      obtain ⟨a, rfl, h0, hf, ho⟩ := v₁
      have hn : ∀ j y, getS c₁.env j = .own y → j ≠ i → α j ≠ a := fun j y q _ e => by
        obtain ⟨o, p⟩ := cells w t₁ j y q
        rw [e, h0] at p; cases p
      refine h _ F₁ H₁ (reα α i a) (wf_own w₁ hf ho hn) ⟨fun b o q nt _ => t₁.same.keep b o q nt, t₁.same.tb, fun b o q => t₁.same.toSame.there q, t₁.sub, t₁.new, fun j y q => ?_, List.length_set, fun j hj => ?_⟩
      · unfold reα
        by_cases hji : j = i
        · rw [if_pos hji]; exact .inl h0
        · rw [if_neg hji]
          have q : getS (setS c₁.env i (.own x)) j = .own y := q
          rw [getS_setS, if_neg (fun z => hji z.1.symm)] at q
          exact .inr ⟨j, y, t₁.back j y q, rfl⟩
      · have hji := hk j hj
        have g : getS (c₁.set i (.own x)).env j = getS c₁.env j := by
          show getS (setS c₁.env i (.own x)) j = _
          rw [getS_setS, if_neg (fun z => hji z.1.symm)]
        exact ⟨List.getElem?_set_ne hji.symm, fun y q => by rw [g]; exact t₁.keep j y q, fun y q => t₁.back j y (g ▸ q)⟩
    | bor j x =>
      obtain ⟨F2, z⟩ := freeze w₁ (cells w t₁) v₁ c₁.sto
      have ec : frz (.bor j x) ⟨c₁.env, c₁.sto⟩ = frz (.bor j x) c₁ := rfl
      rw [ec] at z
      have t2 : Tr X.K c.env (frz (.bor j x) c₁).env α F H F2 H₁ := by
        refine ⟨t₁.same, t₁.sub.trans z.sub, fun a o q => ?_, fun k y q => t₁.back k y (z.back k y q), fun k y q => ?_⟩
        · rcases z.new a o q with q | ⟨q, _, _⟩ | ⟨k, y, q, e⟩
          · exact t₁.new a o q
          · exact .inr (.inl (.inl q))
          · exact .inr (.inr ⟨k, y, t₁.back k y q, e⟩)
        · rcases t₁.keep k y q with p | p
          · exact z.keep k y p
          · exact .inr ⟨p.1.mono z.sub, fun y2 py => p.2 y2 (z.back k y2 py)⟩
      obtain ⟨w3, s3⟩ := sr_dat (kp := kp) z.wf z.rep hk
      exact h _ F2 H₁ α w3 (t2.sr.trans w z.wf s3)
  | tp is =>
    cases v <;> first | exact False.elim h | skip
    rename_i x
    unfold lay at h
    cases e : tgt (.tp is) x c₁ with
    | none => simp only [e] at h; exact False.elim h
    | some c2 =>
      simp only [e] at h
      refine gT_ok w₁ v₁ e fun σ' w' hl h1 h2 => h σ' F₁ H₁ α w' ⟨fun b o q nt _ => t₁.same.keep b o q nt, t₁.same.tb, fun b o q => t₁.same.toSame.there q, t₁.sub, t₁.new, fun j y q => .inr ⟨j, y, t₁.back j y (h2 j y q), rfl⟩, hl, fun j hj => ?_⟩
      obtain ⟨g1, g2⟩ := h1 j (hk j hj)
      exact ⟨g1, fun y q => by rw [g2]; exact t₁.keep j y q, fun y q => t₁.back j y (h2 j y q)⟩
theorem k_asg {t : Tg} {tg : Expr} (hk : ∀ k, kp k → ¬ tgMem k t) (ha : PE X a (tV X.K W ra)) (hg : PG X tg (gT X.K t)) (hs : swapsWithSole [tg] a pos.line X.env = pure false) (hw : swappedStores [tg] a X.env = pure none) (h1 : (assignEach [tg] X.env).map (·.2) = [assign tg X.env]) :
    PS X (.Assign [tg] a pos) (tS X.K W kp fun c => (ra c).bind (lay t)) := by
  refine ps_mono (ps_asg ha hg hs hw h1) fun D σ H ⟨F, c, α, w, hw⟩ => ?_
  exact sv w hw fun v c1 u F1 H1 w1 t1 v1 h => lay_read hk w w1 t1 v1 h

/-! ### lists of one's own change -/
section
variable {K : Fg} {σ : L2.St} {F H : Hp} {ρ : List Sl} {α : Nat → Addr}
/-- a name's own list is written -/
theorem wf_write (w : Wf K F H σ ρ α) {i : Nat} {x : D} {xs : List D} {ws : List V} (h : getS ρ i = .own x) (r : Reps K F ws xs) :
    Wf K F (upd H (α i) (.lst ws)) σ (setS ρ i (.own (.lst xs))) α := by
  obtain ⟨k1, k2, k3⟩ := w.cell h
  refine ⟨w.sub.out k2, w.gt.tabs (k3.ls.elim fun _ z => z.elim fun _ z => (TB.put z.2.1).tabs), by rw [setS_length]; exact w.len, fun j => ?_, fun j k y z e1 e2 e3 => ?_⟩
  · rw [getS_setS]
    split
    · rename_i q
      rw [← q.1]
      exact ⟨k1, k2, ws, upd_same, r⟩
    · rename_i q
      have k := w.slot j
      cases e : getS ρ j with
      | no => trivial
      | dat y => rw [e] at k; exact k
      | own y =>
        rw [e] at k
        obtain ⟨a1, a2, a3⟩ := k
        refine ⟨a1, a2, a3.mono (Same.refl _) (upd_ne fun z => ?_)⟩
        have := w.inj j i y x e h z
        have hl : i < ρ.length := by
          rcases Nat.lt_or_ge i ρ.length with z | z
          · exact z
          · rw [getS_out _ _ z] at h; cases h
        exact q ⟨this.symm, hl⟩
  · have f : ∀ j y, getS (setS ρ i (.own (.lst xs))) j = .own y → ∃ y', getS ρ j = .own y' := fun j y e => by
      rw [getS_setS] at e
      split at e
      · rename_i q; exact ⟨x, q.1 ▸ h⟩
      · exact ⟨y, e⟩
    obtain ⟨y', f1⟩ := f j y e1
    obtain ⟨z', f2⟩ := f k z e2
    exact w.inj j k y' z' f1 f2 e3
theorem sr_write (w : Wf K F H σ ρ α) {i : Nat} {x : D} {xs : List D} {ws : List V} (h : getS ρ i = .own x) (hk : ∀ k, kp k → k ≠ i) :
    SR K kp σ σ ρ (setS ρ i (.own (.lst xs))) α α F H F (upd H (α i) (.lst ws)) := by
  refine ⟨fun a o q _ hn => by rw [upd_ne (hn i x h)]; exact q, (w.cell h).2.2.ls.elim fun _ z => z.elim fun _ z => TB.put z.2.1, fun a o q => ?_, Same.refl _, fun _ _ q => .inl q, fun j y q => ?_, rfl, fun j hj => ⟨rfl, fun y q => .inl ?_, fun y q => ?_⟩⟩
  · by_cases e : a = α i
    · rw [e, upd_same]; exact ⟨_, rfl⟩
    · rw [upd_ne e]; exact ⟨o, q⟩
  · rw [getS_setS] at q
    split at q
    · rename_i z; exact .inr ⟨i, x, h, by rw [z.1]⟩
    · exact .inr ⟨j, y, q, rfl⟩
  · rw [getS_setS, if_neg (fun z => hk j hj z.1.symm)]; exact q
  · rw [getS_setS, if_neg (fun z => hk j hj z.1.symm)] at q; exact q
theorem tr_fz {σ : L2.St} {F H F₁ H₁ F₂ : Hp} {c c₁ : C} {α : Nat → Addr} {u : V} {v : Vl} {ρ' : List Sl} (t₁ : Tr K c.env c₁.env α F H F₁ H₁) (z : Fz K H H₁ σ c₁.env ρ' α F₁ F₂ u v) : Tr K c.env ρ' α F H F₂ H₁ := by
  refine ⟨t₁.same, t₁.sub.trans z.sub, fun a o q => ?_, fun k y q => t₁.back k y (z.back k y q), fun k y q => ?_⟩
  · rcases z.new a o q with q | ⟨q, _, _⟩ | ⟨k, y, q, e⟩
    · exact t₁.new a o q
    · exact .inr (.inl (.inl q))
    · exact .inr (.inr ⟨k, y, t₁.back k y q, e⟩)
  · rcases t₁.keep k y q with p | p
    · exact z.keep k y p
    · exact .inr ⟨p.1.mono z.sub, fun y2 py => p.2 y2 (z.back k y2 py)⟩
end
variable {x : PySem.Str} {i : Nat}
theorem tyV_lst {K : Fg} {H : Hp} {a : Addr} {ws : List V} (h : H a = some (.lst ws)) : tyV K "list" (.ref a) H := .inl ⟨rfl, ws, .inl (.inl h)⟩
theorem own_slot {K : Fg} {σ : L2.St} {F H : Hp} {c : C} {α : Nat → Addr} (w : Wf K F H σ c.env α) {i : Nat} {x : D} (h : c.get i = .own x) : σ[i]? = some (some (.ref (α i))) ∧ ∃ xs ws, x = .lst xs ∧ H (α i) = some (.lst ws) ∧ Reps K F ws xs := by
  obtain ⟨k1, k2, k3⟩ := w.cell (show getS c.env i = .own x from h)
  exact ⟨k1, k3.ls⟩
theorem k_app (hk : ∀ k, kp k → k ≠ i) (hv : varB X.N X.env.scope i x = true) {p apos cpos pos : Pos} (hst : ∀ y z, a ≠ .Starred y z) (hl : (apos.endLine == cpos.line) = true) (ha : PE X a (tV X.K W ra)) :
    PS X (.Expr (.Call (.Attribute (.Name x p) "append" apos) [a] [] cpos) pos) (tS X.K W kp fun c => match c.get i with
      | .own (.lst _) => (ra c).bind (doApp i)
      | _ => .st) := by
  unfold varB at hv
  simp only [Bool.and_eq_true, decide_eq_true_eq, Bool.not_eq_true'] at hv
  have ho := pe_var (X := X) (i := i) (pos := p) hv.1.1.1 (vis_of hv.1.1.2) hv.1.2 hv.2
  have hs : starEach [a] X.env = [(false, eval a X.env)] := args_ok hst
  refine ps_mono (ps_expr (pe_bm PySem.F.plainAttrs_list PySem.F.slot_list_append PySem.F.type_list_append mt_append ho (pa_cons ha pa_nil hs) rfl (by rw [hs]; rfl) hl hs rfl) rfl) fun D σ H ⟨F, c, α, w, hw⟩ => ?_
  cases e0 : c.get i with
  | no => simp only [e0] at hw; exact False.elim hw
  | dat y => simp only [e0] at hw; exact False.elim hw
  | own y =>
    obtain ⟨k1, xs0, ws0, rfl, k2, k3⟩ := own_slot w e0
    simp only [e0] at hw
    refine ⟨_, k1, tyV_lst k2, ?_⟩
    refine sv w hw fun v c1 u F1 H1 w1 t1 v1 h => ?_
    obtain ⟨F2, z⟩ := freeze w1 (cells w t1) v1 c1.sto
    have ec : frz v ⟨c1.env, c1.sto⟩ = frz v c1 := rfl
    rw [ec] at z
    unfold doApp at h
    cases e1 : (frz v c1).get i with
    | no => simp only [e1] at h; exact False.elim h
    | dat y => simp only [e1] at h; exact False.elim h
    | own y =>
      obtain ⟨k1', xs, ws, rfl, k2', k3'⟩ := own_slot z.wf e1
      simp only [e1] at h
      split at h
      · rename_i hlen
        have t2 := tr_fz t1 z
        refine ⟨_, ws, u, rfl, rfl, k2', by rw [k3'.length, ← line_eq]; exact hlen, ?_⟩
        have w3 := wf_write z.wf (show getS (frz v c1).env i = .own (.lst xs) from e1) (k3'.app (.one z.rep))
        exact h σ F2 _ α w3 (t2.sr.trans w z.wf (sr_write z.wf (show getS (frz v c1).env i = .own (.lst xs) from e1) hk))
      · exact False.elim h
theorem k_pop {t : Tg} {tg : Expr} (hk : ∀ k, kp k → k ≠ i ∧ ¬ tgMem k t) (hv : varB X.N X.env.scope i x = true) {p apos cpos pos : Pos} (hl : (apos.endLine == cpos.line) = true) (hg : PG X tg (gT X.K t)) (hw' : swappedStores [tg] (.Call (.Attribute (.Name x p) "pop" apos) [] [] cpos) X.env = pure none) (hs : swapsWithSole [tg] (.Call (.Attribute (.Name x p) "pop" apos) [] [] cpos) pos.line X.env = pure false) (h1 : (assignEach [tg] X.env).map (·.2) = [assign tg X.env]) :
    PS X (.Assign [tg] (.Call (.Attribute (.Name x p) "pop" apos) [] [] cpos) pos) (tS X.K W kp fun c => match c.get i with
    | .own (.lst xs) => match xs.getLast? with
      | some x => lay t (.d x) (c.set i (.own (.lst xs.dropLast)))
      | none => .st
    | _ => .st) := by
  unfold varB at hv
  simp only [Bool.and_eq_true, decide_eq_true_eq, Bool.not_eq_true'] at hv
  have ho := pe_var (X := X) (i := i) (pos := p) hv.1.1.1 (vis_of hv.1.1.2) hv.1.2 hv.2
  refine ps_mono (ps_asg (pe_bm0 PySem.F.plainAttrs_list PySem.F.slot_list_pop PySem.F.type_list_pop mt_pop ho rfl hl) hg hs hw' h1) fun D σ H ⟨F, c, α, w, hw⟩ => ?_
  cases e0 : c.get i with
  | no => simp only [e0] at hw; exact False.elim hw
  | dat y => simp only [e0] at hw; exact False.elim hw
  | own y =>
    obtain ⟨k1, xs, ws, rfl, k2, k3⟩ := own_slot w e0
    simp only [e0] at hw
    cases e1 : xs.getLast? with
    | none => simp only [e1] at hw; exact False.elim hw
    | some z =>
      simp only [e1] at hw
      have el : xs[xs.length - 1]? = some z := by rw [← e1, List.getLast?_eq_getElem?]
      obtain ⟨u, eu, ru⟩ := k3.get el
      refine ⟨_, k1, tyV_lst k2, _, ws, u, rfl, rfl, k2, by rw [k3.length]; exact eu, ?_⟩
      have e0' : getS c.env i = .own (.lst xs) := e0
      have w2 := wf_write w e0' k3.dropLast
      have s2 := sr_write (kp := kp) (xs := xs.dropLast) (ws := ws.dropLast) w e0' fun k q => (hk k q).1
      have hr : WpR (lay t (.d z) (c.set i (.own (.lst xs.dropLast)))) (PF X.K kp D σ F (upd H (α i) (.lst ws.dropLast)) (c.set i (.own (.lst xs.dropLast))) α) (PXs X.K W kp σ F (upd H (α i) (.lst ws.dropLast)) (c.set i (.own (.lst xs.dropLast))) α) :=
        hw.mono (fun _ _ q => q.on w w2 s2) fun _ _ q => q.on w w2 s2
      exact lay_read (v := Vl.d z) (fun k q => (hk k q).2) (c := c.set i (.own (.lst xs.dropLast))) w2 w2 .refl ru hr
end
end Ev
end
section
set_option maxRecDepth 100000
set_option maxHeartbeats 1000000
/-! Ev11: stores into lists, loops. -/
namespace Ev
open PySem L2
section
variable {X : Cx} {W : WX} {kp : Nat → Prop} {pos : Pos} {a b : Expr} {ra rb : C → R Vl} {x : PySem.Str} {i : Nat}
/-- a sub-expression at a statement, from a state on the way -/
theorem svn {K : Fg} {σ : L2.St} {F H F₁ H₁ : Hp} {c c₁ : C} {α : Nat → Addr} {D : Ends} {r : C → R Vl} {k : Vl → C → R Fl} {R' : V → Hp → Prop} (w : Wf K F H σ c.env α) (w₁ : Wf K F₁ H₁ σ c₁.env α) (t : Tr K c.env c₁.env α F H F₁ H₁)
    (h : WpR ((r c₁).bind k) (PF K kp D σ F H c α) (PXs K W kp σ F H c α))
    (go : ∀ v c₂ u F₂ H₂, Wf K F₂ H₂ σ c₂.env α → Tr K c₁.env c₂.env α F₁ H₁ F₂ H₂ → VOk K H₁ F₂ H₂ σ c₂.env α u v → WpR (k v c₂) (PF K kp D σ F H c α) (PXs K W kp σ F H c α) → R' u H₂) : tV K W r σ H₁ R' :=
  ⟨F₁, c₁, α, w₁, h.bind.mono (fun v c₂ hk u F₂ H₂ w₂ t₂ v₂ => go v c₂ u F₂ H₂ w₂ t₂ v₂ hk) fun _ _ hq => (hq.on w w₁ t.sr).px⟩
theorem k_setix (hk : ∀ k, kp k → k ≠ i) (hv : varB X.N X.env.scope i x = true) {p p2 : Pos} (hs : swapsWithSole [.Subscript (.Name x p) b p2] a pos.line X.env = pure false) (hw' : swappedStores [.Subscript (.Name x p) b p2] a X.env = pure none)
    (hb' : ∀ x y s z, b ≠ .Slice x y s z) (ha : PE X a (tV X.K W ra)) (hb : PE X b (tV X.K W rb)) :
    PS X (.Assign [.Subscript (.Name x p) b p2] a pos) (tS X.K W kp fun c => (ra c).bind fun v c => match c.get i with
      | .own (.lst _) => (rb c).bind (doSet i v)
      | _ => .st) := by
  unfold varB at hv
  simp only [Bool.and_eq_true, decide_eq_true_eq, Bool.not_eq_true'] at hv
  have ho := pe_var (X := X) (i := i) (pos := p) hv.1.1.1 (vis_of hv.1.1.2) hv.1.2 hv.2
  have hg : PG X (.Subscript (.Name x p) b p2) (gSub _ _ rSetL) := pg_sub ho hb set_list (by
    intro v
    cases b <;> first | rfl | exact absurd rfl (hb' _ _ _ _))
  refine ps_mono (ps_asg ha hg hs hw' rfl) fun D σ H ⟨F, c, α, w, hw⟩ => ?_
  refine sv w hw fun v c1 u F1 H1 w1 t1 v1 h => ?_
  cases e0 : c1.get i with
  | no => simp only [e0] at h; exact False.elim h
  | dat y => simp only [e0] at h; exact False.elim h
  | own y =>
    obtain ⟨k1, xs0, ws0, rfl, k2, k3⟩ := own_slot w1 e0
    simp only [e0] at h
    refine ⟨_, k1, ?_⟩
    refine svn w w1 t1 h fun v' c2 u2 F2 H2 w2 t2 v2 h => ?_
    have v1' := v1.on w t1 w1 t2
    obtain ⟨F3, z⟩ := freeze w2 (cells w (t1.trans t2)) v1' c2.sto
    have ec : frz v ⟨c2.env, c2.sto⟩ = frz v c2 := rfl
    rw [ec] at z
    unfold doSet at h
    cases e1 : (frz v c2).get i with
    | no => simp only [e1] at h; exact False.elim h
    | dat y => simp only [e1] at h; exact False.elim h
    | own y =>
      obtain ⟨k1', xs, ws, rfl, k2', k3'⟩ := own_slot z.wf e1
      have r2 := v2.rdb w2
      cases e2 : v'.rd <;> simp only [e1, e2] at h <;> first | exact False.elim h | skip
      rename_i k
      rw [e2] at r2
      have eu := r2.int
      cases e3 : ixN xs.length k with
      | none => simp only [e3] at h; exact False.elim h
      | some n =>
        simp only [e3] at h
        have tt := tr_fz (t1.trans t2) z
        refine ⟨_, ws, k, n, rfl, eu, k2', by rw [k3'.length]; exact e3, ?_⟩
        have w3 := wf_write z.wf (show getS (frz v c2).env i = .own (.lst xs) from e1) (k3'.set z.rep n)
        exact h σ F3 _ α w3 (tt.sr.trans w z.wf (sr_write z.wf (show getS (frz v c2).env i = .own (.lst xs) from e1) hk))

/-! ### loops -/
theorem keepsV_mem {b : List S} : ∀ {us : List Vl}, keepsV b us = true → ∀ i x, Vl.bor i x ∈ us → keepsSs i b = true
  | [], _, i, x, h => by cases h
  | v :: r, h, i, x, hm => by
    cases v with
    | d y =>
      rcases List.mem_cons.mp hm with q | q
      · cases q
      · exact keepsV_mem (us := r) h i x q
    | tmp y =>
      rcases List.mem_cons.mp hm with q | q
      · cases q
      · exact keepsV_mem (us := r) h i x q
    | bor j y =>
      simp only [keepsV, Bool.and_eq_true] at h
      rcases List.mem_cons.mp hm with q | q
      · cases q; exact h.1
      · exact keepsV_mem h.2 i x q
section
variable {K : Fg} {σ σ' : L2.St} {ρ ρ' : List Sl} {α α' : Nat → Addr} {F H F' H' H₀ : Hp}
/-- what a loop goes over stays through a turn -/
theorem rdb_keep {u : V} {v : Vl} (w : Wf K F H σ ρ α) (hc : ∀ i x, getS ρ i = .own x → ∃ o, H₀ (α i) = some o) (hv : VOk K H₀ F H σ ρ α u v) (w' : Wf K F' H' σ' ρ' α') (s : SR K kp σ σ' ρ ρ' α α' F H F' H') (hk : ∀ i x, v = .bor i x → kp i) : Rdb K F' H' u v.rd := by
  cases v with
  | d x => exact .inl (Rep.mono s.sub hv)
  | tmp x =>
    obtain ⟨p, e, h0, hf, ho⟩ := hv
    obtain ⟨xs0, vs0, _, q, _⟩ := ho.ls
    refine .inr ⟨p, e, ho.mono s.sub ?_⟩
    rw [q]
    refine s.kept p _ q (fun _ z => by cases z) fun i y g z => ?_
    obtain ⟨o', p'⟩ := hc i y g
    rw [← z, h0] at p'; cases p'
  | bor i x =>
    obtain ⟨e, hσ, h⟩ := hv
    rcases h with h | h
    · obtain ⟨a1, a2, _⟩ := s.fix i (hk i x rfl)
      rcases a2 x h with q | q
      · have c2 := w'.cell q
        have : α' i = α i := by
          have c1 := (w.cell h).1
          have c3 := c2.1
          rw [a1, c1] at c3
          exact (V.ref.inj (Option.some.inj (Option.some.inj c3))).symm
        exact .inr ⟨_, by rw [e, this], c2.2.2⟩
      · exact .inl (e ▸ q.1)
    · exact .inl (h.1.mono s.sub)
theorem rdbs_keep (w : Wf K F H σ ρ α) (hc : ∀ i x, getS ρ i = .own x → ∃ o, H₀ (α i) = some o) (w' : Wf K F' H' σ' ρ' α') (s : SR K kp σ σ' ρ ρ' α α' F H F' H') : ∀ {us : List V} {vs : List Vl}, VsOk K H₀ F H σ ρ α us vs → (∀ i x, Vl.bor i x ∈ vs → kp i) → Rdbs K F' H' us (vs.map Vl.rd)
  | [], [], _, _ => .nil
  | [], _ :: _, h, _ => False.elim h
  | _ :: _, [], h, _ => False.elim h
  | u :: us, v :: vs, h, hk => .cons (rdb_keep w hc h.1 w' s fun i x e => hk i x (e ▸ List.mem_cons_self ..)) (rdbs_keep w hc w' s h.2.1 fun i x q => hk i x (List.mem_cons_of_mem _ q))
/-- a target's step -/
theorem sr_tgt {t : Tg} (hk : ∀ k, kp k → ¬ tgMem k t) (hl : σ'.length = σ.length) (h1 : ∀ j, ¬ tgMem j t → σ'[j]? = σ[j]? ∧ getS ρ' j = getS ρ j) (h2 : ∀ j y, getS ρ' j = .own y → getS ρ j = .own y) : SR K kp σ σ' ρ ρ' α α F H F H :=
  ⟨fun _ _ q _ _ => q, TB.refl _, fun _ o q => ⟨o, q⟩, Same.refl _, fun _ _ q => .inl q, fun j y q => .inr ⟨j, y, h2 j y q, rfl⟩, hl, fun j hj => by
    obtain ⟨g1, g2⟩ := h1 j (hk j hj)
    exact ⟨g1, fun y q => .inl (by rw [g2]; exact q), fun y q => h2 j y q⟩⟩
end
theorem k_for {t : Tg} {w : Wk} {bs : List S} {tg iter : Expr} {body : List Stmt} {ri : C → R (List Vl)} {rb : C → R Fl} (hp : PassesOwn (model X.prog X.w) X.A X.env X.xe) (hc : X.calm = true) (hk : ∀ k, kp k → ¬ tgMem k t) (hkv : ∀ k, keepsSs k [.forr t w [] bs] = true → kp k)
    (hi : PI X tg iter (tI X.K W w ri)) (hg : PG X tg (gT X.K t)) (hb : PSs X body (tS X.K W kp rb)) (hs : ∀ x, foldedSetIterable iter X.env x = pure x) :
    PS X (.For tg iter body [] pos) (tS X.K W kp fun c => (ri c).bind (doFor t w bs rb)) := by
  refine ps_mono (ps_for hp hc hi hg hb hs) fun D σ H ⟨F0, c0, α0, w0, hw⟩ => ?_
  refine ⟨F0, c0, α0, w0, hw.bind.mono (fun us c1 hk1 vus F1 H1 w1 t1 v1 => ?_) fun _ _ hq => hq.px⟩
  unfold doFor at hk1
  obtain ⟨its, ei, hk1⟩ := hk1.bind.ofO
  refine ⟨its, ei, fun J fd => ?_⟩
  split at hk1
  case isFalse => exact False.elim hk1
  rename_i hkeep
  have hbor : ∀ i x, Vl.bor i x ∈ us → kp i := fun i x q => hkv i (keepsV_mem hkeep i x q)
  have hc0 := cells w0 t1
  refine ⟨fun i m σ' H' => m = its.length - i ∧ i ≤ its.length ∧ ∃ F' c' α', Wf X.K F' H' σ' c'.env α' ∧ SR X.K kp σ σ' c1.env c'.env α0 α' F1 H1 F' H' ∧ WpR (forL t rb (its.drop i) c') (PF X.K kp D σ F0 H c0 α0) (PXs X.K W kp σ F0 H c0 α0),
    ⟨_, rfl, Nat.zero_le _, F1, c1, α0, w1, .refl, hk1⟩, ?_⟩
  rintro i m σ2 H2 ⟨rfl, hle, F2, c2, α2, w2, s2, h2⟩
  have rd2 := rdbs_keep w1 hc0 w2 s2 v1 hbor
  by_cases hlt : i < its.length
  · right
    obtain ⟨d, ed⟩ : ∃ d, its[i]? = some d := ⟨its[i], List.getElem?_eq_getElem hlt⟩
    have edr : its.drop i = d :: its.drop (i + 1) := by
      rw [List.drop_eq_getElem_cons hlt]
      rw [List.getElem?_eq_getElem hlt] at ed
      cases ed; rfl
    rw [edr] at h2
    unfold forL at h2
    cases et : tgt t d c2 with
    | none => rw [et] at h2; exact False.elim h2
    | some c3 =>
      rw [et] at h2
      refine ⟨fd.go i d F2 H2 w2.sub rd2 ed, fun σ' H' => ∃ F' c' α', Wf X.K F' H' σ' c'.env α' ∧ SR X.K kp σ σ' c1.env c'.env α0 α' F1 H1 F' H' ∧ WpR (forL t rb (its.drop (i + 1)) c') (PF X.K kp D σ F0 H c0 α0) (PXs X.K W kp σ F0 H c0 α0),
        fun σ' H' q => ⟨its.length - (i + 1), by omega, rfl, hlt, q⟩, fun x H' y => ?_⟩
      obtain ⟨F3, hs3, fs3, s3, new3, r3⟩ := fd.yld i d F2 H2 w2.sub rd2 ed x H' y
      obtain ⟨w3, t3⟩ := w2.res hs3 fs3 s3 new3
      refine gT_ok w3 r3 et fun σ' w4 hl4 same4 back4 => ?_
      have s4 : SR X.K kp σ σ' c1.env c3.env α0 α2 F1 H1 F3 H' := (s2.trans w1 w2 t3.sr).trans w1 w3 (sr_tgt hk hl4 same4 back4)
      have tot : SR X.K kp σ σ' c0.env c3.env α0 α2 F0 H F3 H' := t1.sr.trans w0 w1 s4
      refine ⟨F3, c3, α2, w4, WpR.bind h2 |>.mono (fun f c4 h4 => ?_) fun _ _ q => q.on w0 w4 tot⟩
      cases f with
      | nx => exact fun σ5 F5 H5 α5 w5 s5 => ⟨F5, c4, α5, w5, s4.trans w1 w4 s5, h4⟩
      | ct => exact fun σ5 F5 H5 α5 w5 s5 => ⟨F5, c4, α5, w5, s4.trans w1 w4 s5, h4⟩
      | bk => exact fun σ5 F5 H5 α5 w5 s5 => h4 σ5 F5 H5 α5 w5 (tot.trans w0 w4 s5)
      | rt v =>
        have h4 : PF X.K kp D σ F0 H c0 α0 (.rt v) c4 := h4
        exact (h4.on w0 w4 tot : PF X.K kp D σ' F3 H' c3 α2 (.rt v) c4)
  · left
    have e2 : i = its.length := by omega
    subst e2
    rw [List.drop_length] at h2
    exact ⟨fd.stop F2 H2 w2.sub rd2, h2 σ2 F2 H2 α2 w2 (t1.sr.trans w0 w1 s2)⟩
theorem k_whl {e : Expr} {body : List Stmt} {rt : C → R Bool} {rb : C → R Fl} (hp : PassesOwn (model X.prog X.w) X.A X.env X.xe) (ht : PT X e (tTt X.K W rt)) (hb : PSs X body (tS X.K W kp rb)) :
    PS X (.While e body [] pos) (tS X.K W kp fun c => whlL rt rb fuel c) := by
  refine ps_mono (ps_while hp ht hb) fun D σ H ⟨F0, c0, α0, w0, hw⟩ => ?_
  refine ⟨fun m σ' H' => ∃ F' c' α', Wf X.K F' H' σ' c'.env α' ∧ SR X.K kp σ σ' c0.env c'.env α0 α' F0 H F' H' ∧ WpR (whlL rt rb m c') (PF X.K kp D σ F0 H c0 α0) (PXs X.K W kp σ F0 H c0 α0), ⟨fuel, F0, c0, α0, w0, .refl, hw⟩, ?_⟩
  rintro m σ2 H2 ⟨F2, c2, α2, w2, s2, h2⟩
  cases m with
  | zero => exact False.elim h2
  | succ m =>
    unfold whlL at h2
    refine ⟨F2, c2, α2, w2, h2.bind.mono (fun b c3 h3 F3 H3 w3 t3 => ?_) fun _ _ q => (q.on w0 w2 s2).px⟩
    have s3 := s2.trans w0 w2 (t3.sr (kp := kp))
    cases b with
    | false => exact h3 σ2 F3 H3 α2 w3 s3
    | true =>
      simp only [if_true] at h3 ⊢
      refine ⟨fun σ' H' => ∃ F' c' α', Wf X.K F' H' σ' c'.env α' ∧ SR X.K kp σ σ' c0.env c'.env α0 α' F0 H F' H' ∧ WpR (whlL rt rb m c') (PF X.K kp D σ F0 H c0 α0) (PXs X.K W kp σ F0 H c0 α0), fun σ' H' q => ⟨m, by omega, q⟩, ?_⟩
      refine ⟨F3, c3, α2, w3, h3.bind.mono (fun f c4 h4 => ?_) fun _ _ q => q.on w0 w3 s3⟩
      cases f with
      | nx => exact fun σ5 F5 H5 α5 w5 s5 => ⟨F5, c4, α5, w5, s3.trans w0 w3 s5, h4⟩
      | ct => exact fun σ5 F5 H5 α5 w5 s5 => ⟨F5, c4, α5, w5, s3.trans w0 w3 s5, h4⟩
      | bk => exact fun σ5 F5 H5 α5 w5 s5 => h4 σ5 F5 H5 α5 w5 (s3.trans w0 w3 s5)
      | rt v =>
        have h4 : PF X.K kp D σ F0 H c0 α0 (.rt v) c4 := h4
        exact (h4.on w0 w3 s3 : PF X.K kp D σ2 F3 H3 c3 α2 (.rt v) c4)
end
end Ev
end
section
set_option maxRecDepth 100000
set_option maxHeartbeats 4000000
/-! Xt2: raise and try keep what the readings say. -/
namespace Ev
open PySem L2

section
variable {L : Lk} {P : Pg} {call : CallT}
variable {X : Cx} {W : WX} {kp : Nat → Prop} {pos pos2 : Pos} {a e : Expr} {ra : C → R Vl} {x : PySem.Str} {i g : Nat}
theorem newX_one {g : Nat} {d : D} {fs : List D} (h : newX g [d] = some fs) : fs = [d] ∧ ((∃ s : List Nat, d = .str s ∧ s.length ≤ 1000) ∨ ∃ i : Int, d = .int i ∧ 0 ≤ i ∧ i < 1000000000000) := by
  unfold newX at h
  split at h
  · rename_i s e
    cases e
    split at h
    · rename_i q
      cases h
      simp only [Bool.and_eq_true, decide_eq_true_eq] at q
      exact ⟨rfl, .inl ⟨_, rfl, q.1⟩⟩
    · cases h
  · rename_i s e
    cases e
    split at h
    · rename_i q
      cases h
      simp only [Bool.and_eq_true, decide_eq_true_eq] at q
      exact ⟨rfl, .inr ⟨_, rfl, q.1.1, q.1.2⟩⟩
    · cases h
  · rename_i e; cases e
  · cases h
theorem k_rai1 (hy : Hyp L P call W X) (hcm : X.calm = true) {p : Pos} (hg : glB X.env.scope x = true) (hx : x = clsName (100 + g)) (hxg : L.hx g = true) (hst : ∀ x y, e ≠ .Starred x y) (hone : clsFields (100 + g) ≠ []) (ha : PE X e (tV X.K W ra)) :
    PS X (.Raise (some (.Call (.Name x p) [e] [] pos)) none pos2) (tS X.K W kp fun c => (ra c).bind fun v c => doRai g [v] c) := by
  subst hx
  obtain ⟨C, xc, hm, hlt, hsup, ⟨k, hr⟩, hcase⟩ := hy.xcl g hxg
  obtain ⟨f, ef, S⟩ := hcase.resolve_left fun z => hone z.1
  obtain ⟨h1, h2, h3⟩ := gl_of hg
  refine ps_mono (ps_raise hcm hy.takes (pmk_sx S hr h1 hm hsup ha (by rw [args_ok hst]; rfl) h2)) fun D σ H ⟨F, c, α, w, hw⟩ => ?_
  show tV X.K W ra σ H _
  refine sv w hw fun v c1 u F1 H1 w1 t1 v1 h => ?_
  unfold doRai at h
  cases e1 : newX g ([v].map Vl.rd) with
  | none => rw [e1] at h; exact False.elim h
  | some fs =>
    rw [e1] at h
    obtain ⟨rfl, hd⟩ := newX_one (d := v.rd) e1
    have r := v1.rdb w1
    have key : ((∃ y : PySem.Str, u = .str y ∧ y.length ≤ 1000) ∨ ∃ i : Int, u = .int i ∧ i.natAbs.log2 < 1920) ∧ ∀ F', Rep X.K F' u v.rd := by
      rcases hd with ⟨s, es, hl⟩ | ⟨i, es, h0, hi⟩
      · rw [es] at r ⊢
        obtain ⟨y, rfl, hy1, hy2⟩ := r.str
        subst hy1
        exact ⟨.inl ⟨y, rfl, by simpa [Str.length] using hl⟩, fun _ => .str y hy2⟩
      · rw [es] at r ⊢
        have := r.int
        subst this
        refine ⟨.inr ⟨i, rfl, ?_⟩, fun _ => .int i⟩
        by_cases hz : i.natAbs = 0
        · rw [hz]; decide
        · rw [Nat.log2_lt hz]
          have : i.natAbs < 2 ^ 40 := by omega
          exact Nat.lt_of_lt_of_le this (Nat.pow_le_pow_right (by decide) (by decide))
    refine ⟨key.1, fun d hd0 => ?_⟩
    have sF : Same F1 (upd F1 d (.xd [(f, u)])) := same_upd (w1.sub.free hd0)
    have sH : Grow X.K H1 (upd H1 d (.xd [(f, u)])) := grow_upd hd0
    have s' : Same (upd F1 d (.xd [(f, u)])) (upd H1 d (.xd [(f, u)])) := w1.sub.both hd0
    obtain ⟨w2, t2⟩ := w1.res sH sF s' fun b o z => by
      by_cases hb : b = d
      · subst hb; exact .inr (.inl hd0)
      · rw [upd_ne hb] at z; exact .inl z
    refine h (.ref C) (some d) σ _ _ α w2 ((t1.trans t2).sr) ⟨C, [u], [(f, u)], xc, rfl, fun _ => ⟨d, rfl, upd_same⟩, ?_, .cons (key.2 _) .nil⟩
    show [(f, u)] = (clsFields (100 + g)).zip [u]
    rw [ef]; rfl

/-- C(), no __init__ of its own -/
theorem pmk_x0 {C : Addr} {p : Pos} (S : XPl X.K C) (gC : X.mg x = some (.ref C)) (hg : Gl X x) (hdb : (x == ("__debug__" : PySem.Str)) = false) : PMk X (.Call (.Name x p) [] [] pos) (fun _ H Q => Q (.ref C) none H) := by
  intro pins s σ H Q I h
  refine wpAny_Call_Name_kw (ld_glob I hg gC ?_ hdb)
  refine PySem.W.callWith_K0 I.kIn S.kp ?_
  show wpAny _ _ (PySem.call (.ref C) []) _ _ _
  obtain ⟨bm, N, nm, qn, bs, hdct, sn, sub, ab, col, dd, k0, k1, k2, k3, k5, mN, hC, hN, hni, T⟩ := exc_obj I.kIn S.ex
  refine wpAny_call_exc_subT PySem.F.excBase_ValueError T hC hN hni (fun h' e hm => ?_) (by show 0 ≤ sizeLine; exact Nat.zero_le _)
  exact mk_of I hm (raises_own S.exC S.tyC) h (I.hok.gone hm.new)
theorem k_rai0 (hy : Hyp L P call W X) (hcm : X.calm = true) {p : Pos} (hg : glB X.env.scope x = true) (hx : x = clsName (100 + g)) (hxg : L.hx g = true) (hone : clsFields (100 + g) = []) :
    PS X (.Raise (some (.Call (.Name x p) [] [] pos)) none pos2) (tS X.K W kp fun c => doRai g [] c) := by
  subst hx
  obtain ⟨C, xc, hm, hlt, hsup, ⟨k, hr⟩, hcase⟩ := hy.xcl g hxg
  have S : XPl X.K C := by
    rcases hcase with h | ⟨f, ef, _⟩
    · exact h.2
    · rw [hone] at ef; cases ef
  obtain ⟨h1, h2, h3⟩ := gl_of hg
  refine ps_mono (ps_raise hcm hy.takes (pmk_x0 S hm h1 h2)) fun D σ H ⟨F, c, α, w, hw⟩ => ?_
  have hw : WpR (doRai g [] c) (PF X.K kp D σ F H c α) (PXs X.K W kp σ F H c α) := hw
  unfold doRai at hw
  cases e1 : newX g (([] : List Vl).map Vl.rd) with
  | none => rw [e1] at hw; exact False.elim hw
  | some fs =>
    rw [e1] at hw
    have ef : fs = [] := by
      have e1 : newX g [] = some fs := e1
      unfold newX at e1
      simp only at e1
      split at e1
      · cases e1; rfl
      · cases e1
    subst ef
    refine hw (.ref C) none σ F H α w .refl ⟨C, [], [], xc, rfl, fun z => absurd rfl z, ?_, .nil⟩
    show [] = (clsFields (100 + g)).zip []
    rw [hone]; rfl

/-- a name goes -/
theorem wf_no {K : Fg} {σ : L2.St} {F H : Hp} {ρ : List Sl} {α : Nat → Addr} (w : Wf K F H σ ρ α) (i : Nat) (hk : ∀ k, kp k → k ≠ i) : Wf K F H (σ.set i none) (setS ρ i .no) α ∧ SR K kp σ (σ.set i none) ρ (setS ρ i .no) α α F H F H := by
  have e1 : ∀ j, j ≠ i → (σ.set i none)[j]? = σ[j]? := fun j hj => List.getElem?_set_ne (Ne.symm hj)
  have e2 : ∀ j, j ≠ i → getS (setS ρ i .no) j = getS ρ j := fun j hj => by rw [getS_setS, if_neg fun z => hj z.1.symm]
  have e3 : ∀ j y, getS (setS ρ i .no) j = .own y → getS ρ j = .own y := fun j y h => by
    by_cases hj : j = i
    · subst hj; rw [getS_no] at h; cases h
    · rw [e2 j hj] at h; exact h
  refine ⟨w.frame (by rw [setS_length, List.length_set]; exact w.len) fun j => ?_, ?_⟩
  · by_cases hj : j = i
    · subst hj; exact .inl (getS_no _ _)
    · exact .inr ⟨e2 j hj, e1 j hj⟩
  · exact ⟨fun _ _ q _ _ => q, TB.refl _, fun _ o q => ⟨o, q⟩, Same.refl _, fun _ _ q => .inl q, fun j y q => .inr ⟨j, y, e3 j y q, rfl⟩, List.length_set, fun j hj => ⟨e1 j (hk j hj), fun y q => .inl (by rw [e2 j (hk j hj)]; exact q), e3 j⟩⟩
theorem k_tri_nm (hy : Hyp L P call W X) {n : PySem.Str} {body suite : List Stmt} {b₀ : Stmt} {np pos' : Pos} {rb rr : C → R Fl} {kp2 : Nat → Prop} (hex : X.ex = []) (hs : X.stack = X.env :: X.outer) (hf : X.env.frame = some X.env.locals) (hi : X.N[i]? = some n) (hln : X.env.kindOf n = some .local)
    (hg : glB X.env.scope x = true) (hx : x = clsName (100 + g)) (hxg : L.hx g = true) (hk : ∀ k, kp k → k ≠ i)
    (hb : ∀ (W : WX) (pn : List (Addr × Obj)) (xe : Value → Shared → Prop), Takes (X.tr pn xe) W → PassesOwn (model X.prog X.w) X.A X.env xe → PSs (X.tr pn xe) body (tS X.K W kp rb))
    (hsu : ∀ (a : Addr) (pn : List (Addr × Obj)), PSs (X.suite a pn) (b₀ :: suite) (tS X.K W0 kp rr)) :
    PS X (.Try body [.ExceptHandler (some (.Name x np)) (some n) (b₀ :: suite) pos'] [] [] pos) (tS X.K W kp fun c => triR g (some i) rr (rb c)) := by
  subst hx
  obtain ⟨Ch, xh, hm, hlt, hsup, _, _⟩ := hy.xcl g hxg
  obtain ⟨h1, h2, h3⟩ := gl_of hg
  refine ps_mono (ps_try_nm (c := .ref Ch) (tb := fun W => tS X.K W kp rb) (ts := tS X.K W0 kp rr) hex hs hf hy.nd hi hln ⟨h1, h2, .inl hm⟩ hy.takes hb hsu) fun D σ H ⟨F, c, α, w, hw⟩ => ?_
  show tS X.K _ kp rb D σ H
  have hw : WpR (triR g (some i) rr (rb c)) (PF X.K kp D σ F H c α) (PXs X.K W kp σ F H c α) := hw
  refine ⟨F, c, α, w, ?_⟩
  cases e : rb c with
  | st => rw [e] at hw; exact hw
  | ok f c' => rw [e] at hw; exact hw
  | ex y c' =>
    rw [e] at hw
    intro cls d σ1 F1 H1 α1 w1 s1 xk
    have xk0 := xk
    obtain ⟨C, vs, fs, xc, rfl, hd, hfs, rv⟩ := xk
    refine ⟨y.c == g, C, rfl, xc.xm g Ch hlt xh.at_, fun hb a na => ?_, fun hb => ?_⟩
    · have hyc : y.c = g := by simpa using hb
      have hw : WpR ((noex (rr (bindX (some i) y c'))).bind fun f c => .ok f (unX (some i) c)) (PF X.K kp D σ F H c α) (PXs X.K W kp σ F H c α) := by
        have z : triR g (some i) rr (.ex y c') = (noex (rr (bindX (some i) y c'))).bind fun f c => .ok f (unX (some i) c) := if_pos hyc
        rw [← z]; exact hw
      have sF : Same F1 (upd F1 a (xo a C d)) := same_upd (w1.sub.free na)
      have sH : Grow X.K H1 (upd H1 a (xo a C d)) := grow_upd na
      have s' : Same (upd F1 a (xo a C d)) (upd H1 a (xo a C d)) := w1.sub.both na
      obtain ⟨w2, t2⟩ := w1.res sH sF s' fun b o z => by
        by_cases hb : b = a
        · subst hb; exact .inr (.inl na)
        · rw [upd_ne hb] at z; exact .inl z
      have rep : Rep X.K (upd F1 a (xo a C d)) (.ref a) (.exn y.c y.fs) := .exn xc.at_ upd_same (fun z => by
        obtain ⟨dd, q1, q2⟩ := hd z
        exact ⟨dd, q1, sF _ _ q2⟩) hfs (rv.mono sF)
      obtain ⟨w3, s3⟩ := sr_dat (kp := kp) (i := i) w2 rep hk
      have tot : SR X.K kp σ (σ1.set i (some (.ref a))) c.env (bindX (some i) y c').env α α1 F H _ _ := (s1.trans w w1 t2.sr).trans w w2 s3
      refine ⟨_, bindX (some i) y c', α1, w3, ?_⟩
      cases e2 : rr (bindX (some i) y c') with
      | st => rw [e2] at hw; exact hw
      | ex z c3 => rw [e2] at hw; exact False.elim hw
      | ok f c3 =>
        rw [e2] at hw
        have hw : PF X.K kp D σ F H c α f (unX (some i) c3) := hw
        have hw2 := hw.on w w3 tot
        cases f with
        | nx => exact fun σ4 F4 H4 α4 w4 s4 => hw2 (σ4.set i none) F4 H4 α4 (wf_no w4 i hk).1 (s4.trans w3 w4 (wf_no w4 i hk).2)
        | bk => exact fun σ4 F4 H4 α4 w4 s4 => hw2 (σ4.set i none) F4 H4 α4 (wf_no w4 i hk).1 (s4.trans w3 w4 (wf_no w4 i hk).2)
        | ct => exact fun σ4 F4 H4 α4 w4 s4 => hw2 (σ4.set i none) F4 H4 α4 (wf_no w4 i hk).1 (s4.trans w3 w4 (wf_no w4 i hk).2)
        | rt v => exact hw2
    · have hyc : ¬ y.c = g := by simpa using hb
      have hw : PXs X.K W kp σ F H c α y c' := by
        have z : triR g (some i) rr (.ex y c') = .ex y c' := if_neg hyc
        rw [z] at hw; exact hw
      exact hw _ d σ1 F1 H1 α1 w1 s1 xk0
theorem k_tri_on (hy : Hyp L P call W X) {body suite : List Stmt} {b₀ : Stmt} {np pos' : Pos} {rb rr : C → R Fl} (hs : X.stack = X.env :: X.outer) (hf : X.env.frame = some X.env.locals)
    (hg : glB X.env.scope x = true) (hx : x = clsName (100 + g)) (hxg : L.hx g = true)
    (hb : ∀ (W : WX) (pn : List (Addr × Obj)) (xe : Value → Shared → Prop), Takes (X.tr pn xe) W → PassesOwn (model X.prog X.w) X.A X.env xe → PSs (X.tr pn xe) body (tS X.K W kp rb))
    (hsu : ∀ (a : Addr) (pn : List (Addr × Obj)), PSs (X.suite a pn) (b₀ :: suite) (tS X.K W0 kp rr)) :
    PS X (.Try body [.ExceptHandler (some (.Name x np)) none (b₀ :: suite) pos'] [] [] pos) (tS X.K W kp fun c => triR g none rr (rb c)) := by
  subst hx
  obtain ⟨Ch, xh, hm, hlt, hsup, _, _⟩ := hy.xcl g hxg
  obtain ⟨h1, h2, h3⟩ := gl_of hg
  refine ps_mono (ps_try_only (c := .ref Ch) (tb := fun W => tS X.K W kp rb) (ts := fun _ _ _ => tS X.K W0 kp rr) hs hf ⟨h1, h2, .inl hm⟩ hy.takes hb fun a oe cls d pn _ _ => hsu a ((a, oe) :: pn)) fun D σ H ⟨F, c, α, w, hw⟩ => ?_
  show tS X.K _ kp rb D σ H
  have hw : WpR (triR g none rr (rb c)) (PF X.K kp D σ F H c α) (PXs X.K W kp σ F H c α) := hw
  refine ⟨F, c, α, w, ?_⟩
  cases e : rb c with
  | st => rw [e] at hw; exact hw
  | ok f c' => rw [e] at hw; exact hw
  | ex y c' =>
    rw [e] at hw
    intro cls d σ1 F1 H1 α1 w1 s1 xk
    have xk0 := xk
    obtain ⟨C, vs, fs, xc, rfl, hd, hfs, rv⟩ := xk
    refine ⟨y.c == g, xc.xm g Ch hlt xh.at_, fun hb a na => ?_, fun hb => ?_⟩
    · have hyc : y.c = g := by simpa using hb
      have hw : WpR ((noex (rr c')).bind fun f c => .ok f c) (PF X.K kp D σ F H c α) (PXs X.K W kp σ F H c α) := by
        have z : triR g none rr (.ex y c') = (noex (rr (bindX none y c'))).bind fun f c => .ok f (unX none c) := if_pos hyc
        rw [z] at hw; exact hw
      refine ⟨_, c', α1, w1, ?_⟩
      cases e2 : rr c' with
      | st => rw [e2] at hw; exact hw
      | ex z c3 => rw [e2] at hw; exact False.elim hw
      | ok f c3 =>
        rw [e2] at hw
        have hw : PF X.K kp D σ F H c α f c3 := hw
        exact hw.on w w1 s1
    · have hyc : ¬ y.c = g := by simpa using hb
      have hw : PXs X.K W kp σ F H c α y c' := by
        have z : triR g none rr (.ex y c') = .ex y c' := if_neg hyc
        rw [z] at hw; exact hw
      exact hw _ d σ1 F1 H1 α1 w1 s1 xk0
end
end Ev
end
section
set_option maxRecDepth 100000
set_option maxHeartbeats 1000000
/-! Ev12: every statement that the check takes keeps its reading. -/
namespace Ev
open PySem L2

def swB (sc : Scope) (y : PySem.Str) (py : Pos) (scope : Scope) (p : Pos) : Bool :=
  decide (sc.names.lookup y = some .local) && (py.line == p.line) && !(scope.names.any fun (n, k) => n == y && (k == .local || k == .cell))
def plainAsg : Expr → Expr → Bool
  | .Tuple _ _ _, .Tuple _ _ _ => false
  | _, _ => true
/-- what may stand in an except suite -/
def Lk.quiet (L : Lk) : Lk := ⟨fun _ => false, L.hc, L.fn, L.hk, fun _ _ => false, fun _ => false, fun _ => false, false, fun _ => none⟩
def nmX (N : List PySem.Str) (sc : Scope) : Option Nat → Option PySem.Str → Bool
  | none, none => true
  | some i, some n => decide (N[i]? = some n) && decide (sc.names.lookup n = some .local)
  | _, _ => false
section
variable (L : Lk) (N : List PySem.Str)
mutual
def okX (sc : Scope) : S → Stmt → Bool
  | .ife c x y, .If e a b _ => okE L N sc c e && okXs sc x a && okXs sc y b
  | .ret e, .Return (some a) _ => okE L N sc e a
  | .retn, .Return none _ => true
  | .pass, .Pass _ => true
  | .brk, .Break _ => true
  | .cnt, .Continue _ => true
  | _, _ => false
termination_by structural x => x
def okXs (sc : Scope) : List S → List Stmt → Bool
  | [], [] => true
  | x :: xs, a :: as => okX sc x a && okXs sc xs as
  | _, _ => false
termination_by structural x => x
end
end
/-- x = e if c else x -/
def ifA (L : Lk) (N : List PySem.Str) (sc : Scope) (c : E) (l r : List S) (tg v : Expr) : Bool := match l, r, tg, v with
  | [.asg (.nm i) e], [.exp (.v j)], .Name x _, .IfExp d a (.Name y _) _ => i == j && x == y && tgtB N sc i x && varB N sc i x && okE L N sc c d && okE L N sc e a
  | _, _, _, _ => false
section
variable (L : Lk) (N : List PySem.Str)
mutual
def okSt (sc : Scope) : S → Stmt → Bool
  | .asg t e, .Assign [tg] a _ => tgOk N sc t tg && okE L N sc e a && plainAsg tg a
  | .app i e, .Expr (.Call (.Attribute (.Name x _) m apos) [a] [] cpos) _ => m == ("append" : PySem.Str) && varB N sc i x && (apos.endLine == cpos.line) && okE L N sc e a
  | .pop t i, .Assign [tg] (.Call (.Attribute (.Name x _) m apos) [] [] cpos) _ => m == ("pop" : PySem.Str) && varB N sc i x && (apos.endLine == cpos.line) && tgOk N sc t tg
  | .setix i x y, .Assign [.Subscript (.Name z _) b _] a _ => varB N sc i z && okE L N sc x b && okE L N sc y a
  | .ife c x y, .If e a b _ => okE L N sc c e && okSts sc x a && okSts sc y b
  | .ife c x y, .Assign [tg] v _ => ifA L N sc c x y tg v
  | .forr t w xs b, .For tg iter body [] _ => tgOk N sc t tg && wkT w t && okW L N sc xs w iter && okSts sc b body
  | .whl c b, .While e body [] _ => okE L N sc c e && okSts sc b body
  | .ret e, .Return (some a) _ => okE L N sc e a
  | .retn, .Return none _ => true
  | .exp e, .Expr a _ => okE L N sc e a && (match a with | .ListComp .. => false | _ => true)
  | .pass, .Pass _ => true
  | .brk, .Break _ => true
  | .cnt, .Continue _ => true
  | .nev, _ => true
  | .rai g [e], .Raise (some (.Call (.Name x _) [a] [] _)) none _ => glB sc x && x == clsName (100 + g) && L.hx g && !(clsFields (100 + g)).isEmpty && okE L N sc e a
  | .rai g [], .Raise (some (.Call (.Name x _) [] [] _)) none _ => glB sc x && x == clsName (100 + g) && L.hx g && (clsFields (100 + g)).isEmpty
  | .tri b h i r, .Try body [.ExceptHandler (some (.Name x _)) nm suite _] [] [] _ => okSts sc b body && glB sc x && x == clsName (100 + h) && L.hx h && nmX N sc i nm && !suite.isEmpty && okXs L.quiet N sc r suite
  | _, _ => false
termination_by structural x => x
def okSts (sc : Scope) : List S → List Stmt → Bool
  | [], [] => true
  | x :: xs, a :: as => okSt sc x a && okSts sc xs as
  | _, _ => false
termination_by structural x => x
end
end

section
variable {L : Lk} {P : Pg} {call : CallT}
structure AlS (L : Lk) (P : Pg) (call : CallT) (W : WX) (X : Cx) : Prop where
  al : Al L P call W X
  pass : PassesOwn (model X.prog X.w) X.A X.env X.xe
  fnall : ∀ x, X.fn x = true
  kind : X.env.scope.kind = .function
  calm : X.calm = true
  noex : X.ex = []
  stk : X.stack = X.env :: X.outer
  fr : X.env.frame = some X.env.locals
theorem loc_of2 {X : Cx} {x : PySem.Str} (h : locB X.env.scope x = true) : L2.Loc X.env.scope x := by
  rcases loc_of h with q | q
  · exact .inl q
  · exact .inr q
theorem AlS.pg {W : WX} {X : Cx} (A : AlS L P call W X) {t : Tg} {tg : Expr} (h : tgOk X.N X.env.scope t tg = true) : PG X tg (gT X.K t) :=
  pg_T (fun x hx => loc_of2 hx) A.calm A.al.hy.nd (fun x _ => .inl (A.fnall x)) h
theorem tg_one {X : Cx} {t : Tg} {tg : Expr} (h : tgOk X.N X.env.scope t tg = true) : (assignEach [tg] X.env).map (·.2) = [assign tg X.env] := by
  cases t <;> cases tg <;> first | (cases h; done) | rfl
/-- only a list's comprehension swaps -/
theorem sw_none {L : Lk} {N : List PySem.Str} {sc : Scope} {e : E} {a : Expr} (h : okE L N sc e a = true) (hl : ∀ x g s p, a ≠ .ListComp x g s p) (o : Option Expr) (l : Nat) (env : Env) : swapsWith a o l env = pure false := by
  cases a <;> first | rfl | exact absurd rfl (hl _ _ _ _) | (cases e <;> simp [okE, noOdd] at h; done)
theorem sw_false {elt : Expr} {gs : List Comprehension} {scope : Scope} {pos py : Pos} {y : PySem.Str} {l : Nat} {env : Env} (h : swB env.scope y py scope pos = false) : swapsWith (.ListComp elt gs scope pos) (some (.Name y py)) l env = pure false := by
  have ky : env.kindOf y = env.scope.names.lookup y := rfl
  unfold swapsWith
  simp only [Expr.pos, ky]
  unfold swB at h
  cases q : decide (env.scope.names.lookup y = some .local) with
  | false =>
    have q' : (env.scope.names.lookup y == some NameKind.local) = false := by simpa using q
    simp [q']
  | true =>
    cases q1 : (py.line == pos.line) with
    | false => simp
    | true =>
      rw [q, q1] at h
      simp only [Bool.true_and] at h
      simp only [h, Bool.and_false]
theorem stores_none {tg a : Expr} {X : Cx} {t : Tg} (ht : tgOk X.N X.env.scope t tg = true) (h : plainAsg tg a = true) : swappedStores [tg] a X.env = pure none := by
  cases t <;> cases tg <;> first | (cases ht; done) | skip
  · cases a <;> rfl
  · cases a <;> first | (cases h; done) | rfl
theorem keep_tg {k : Nat} {t : Tg} {w : Wk} {xs : List E} {b : List S} (h : keepsS k (.forr t w xs b) = true) : ¬ tgMem k t ∧ keepsSs k b = true := by
  cases t with
  | nm i =>
    simp only [keepsS, Bool.and_eq_true, bne_iff_ne] at h
    exact ⟨h.1, h.2⟩
  | tp is =>
    simp only [keepsS, Bool.and_eq_true, Bool.not_eq_true'] at h
    refine ⟨fun q => ?_, h.2⟩
    have : is.contains k = true := by simpa using (show k ∈ is from q)
    rw [this] at h; cases h.1
theorem keep_asg {k : Nat} {t : Tg} {e : E} (h : keepsS k (.asg t e) = true) : ¬ tgMem k t := by
  cases t with
  | nm i =>
    simp only [keepsS, bne_iff_ne] at h
    exact h
  | tp is =>
    simp only [keepsS, Bool.not_eq_true'] at h
    exact fun q => by
      have : is.contains k = true := by simpa using (show k ∈ is from q)
      rw [this] at h; cases h
theorem keep_pop {k i : Nat} {t : Tg} (h : keepsS k (.pop t i) = true) : k ≠ i ∧ ¬ tgMem k t := by
  cases t with
  | nm j =>
    simp only [keepsS, Bool.and_eq_true, bne_iff_ne] at h
    exact h
  | tp is =>
    simp only [keepsS, Bool.and_eq_true, bne_iff_ne, Bool.not_eq_true'] at h
    exact ⟨h.1, fun q => by
      have : is.contains k = true := by simpa using (show k ∈ is from q)
      rw [this] at h; cases h.2⟩
theorem evSs_one {s : S} {c : C} : evSs P call [s] c = evS P call s c := by
  show (evS P call s c).bind (fun f c => nxt f c (evSs P call [])) = _
  cases evS P call s c with
  | st => rfl
  | ex x c => rfl
  | ok f c => cases f <;> rfl
theorem set_same {σ : L2.St} {i : Nat} {v : V} (h : σ[i]? = some (some v)) : σ.set i (some v) = σ := by
  apply List.ext_getElem?
  intro j
  by_cases q : i = j
  · subst q
    have hl : i < σ.length := (List.getElem?_eq_some_iff.mp h).1
    rw [List.getElem?_set_self hl, h]
  · rw [List.getElem?_set_ne q]
/-- x = e if c else x -/
theorem k_asgI {i : Nat} {x : PySem.Str} {c : E} {e : E} {W : WX} {X : Cx} {d a : Expr} {kp : Nat → Prop} {pos p p2 p3 : Pos} (hkp : ∀ k, kp k → k ≠ i) (hv : varB X.N X.env.scope i x = true) (hg : PG X (.Name x p) (gT X.K (.nm i))) (ht : PT X d (tTt X.K W (evT P call c))) (ha : PE X a (tV X.K W (evE P call e))) :
    PS X (.Assign [.Name x p] (.IfExp d a (.Name x p2) p3) pos) (tS X.K W kp (evS P call (.ife c [.asg (.nm i) e] [.exp (.v i)]))) := by
  unfold varB at hv
  simp only [Bool.and_eq_true, decide_eq_true_eq, Bool.not_eq_true'] at hv
  refine ps_mono (ps_asg (pe_ifExp ht ha (pe_var (i := i) hv.1.1.1 (vis_of hv.1.1.2) hv.1.2 hv.2)) hg) fun D σ H ⟨F, c0, α, w, hw⟩ => ?_
  refine svT w hw fun b c1 F1 H1 w1 t1 h => ?_
  cases b with
  | true =>
    have h' : WpR (evS P call (.asg (.nm i) e) c1) (PF X.K kp D σ F H c0 α) (PXs X.K W kp σ F H c0 α) := by
      have h : WpR (evSs P call [.asg (.nm i) e] c1) (PF X.K kp D σ F H c0 α) (PXs X.K W kp σ F H c0 α) := h
      rw [evSs_one] at h
      exact h
    obtain ⟨F', c', α', w', h2⟩ := restS (r := evS P call (.asg (.nm i) e)) w w1 t1.sr h'
    exact sv (r := evE P call e) (k := lay (.nm i)) w' h2 fun v c2 u F2 H2 w2 t2 v2 h => lay_read (t := .nm i) (fun k q => hkp k q) w' w2 t2 v2 h
  | false =>
    have h : WpR (evSs P call [.exp (.v i)] c1) (PF X.K kp D σ F H c0 α) (PXs X.K W kp σ F H c0 α) := h
    rw [evSs_one] at h
    have h : WpR ((rdV i c1).bind fun _ c => .ok .nx c) (PF X.K kp D σ F H c0 α) (PXs X.K W kp σ F H c0 α) := h
    have k := w1.slot i
    unfold rdV C.get at h
    have go : ∀ v, σ[i]? = some (some v) → PF X.K kp D σ F H c0 α .nx c1 → tVar i σ H1 fun u H2 => gT X.K (.nm i) u σ H2 D.nx := fun v e h => by
      refine ⟨v, e, ?_⟩
      show D.nx (σ.set i (some v)) H1
      rw [set_same e]
      exact h σ F1 H1 α w1 t1.sr
    cases q : getS c1.env i with
    | no => rw [q] at h; exact False.elim h
    | dat y =>
      rw [q] at h k
      obtain ⟨v, k1, k2⟩ := k
      exact go v k1 h
    | own y =>
      rw [q] at h k
      exact go _ k.1 h
theorem ifA_form {N : List PySem.Str} {sc : Scope} {c : E} {l r : List S} {tg v : Expr} (h : ifA L N sc c l r tg v = true) : ∃ i e x p d a p2 p3, l = [.asg (.nm i) e] ∧ r = [.exp (.v i)] ∧ tg = .Name x p ∧ v = .IfExp d a (.Name x p2) p3 ∧ tgtB N sc i x = true ∧ varB N sc i x = true ∧ okE L N sc c d = true ∧ okE L N sc e a = true := by
  unfold ifA at h
  split at h
  · simp only [Bool.and_eq_true, beq_iff_eq] at h
    obtain ⟨⟨⟨⟨⟨h1, h2⟩, h3⟩, h4⟩, h5⟩, h6⟩ := h
    subst h1 h2
    exact ⟨_, _, _, _, _, _, _, _, rfl, rfl, rfl, rfl, h3, h4, h5, h6⟩
  · cases h
/-- a name gets a comprehension -/
theorem cAsg {t : Tg} {e : E} {W : WX} {X : Cx} {tg a : Expr} {pos : Pos} (A : AlS L P call W X) (ht : tgOk X.N X.env.scope t tg = true) (h : okE L X.N X.env.scope e a = true) (hp : plainAsg tg a = true) :
    PS X (.Assign [tg] a pos) (tS X.K W (fun i => keepsS i (.asg t e) = true) (evS P call (.asg t e))) := by
  have hg := A.pg ht
  have hkk : ∀ k, keepsS k (.asg t e) = true → ¬ tgMem k t := fun k q => keep_asg q
  have plain : (swapsWithSole [tg] a pos.line X.env = pure false) → PS X (.Assign [tg] a pos) (tS X.K W (fun i => keepsS i (.asg t e) = true) (evS P call (.asg t e))) := fun hs =>
    k_asg hkk (sE e W X _ a A.al rfl rfl h) hg hs (stores_none ht hp) (tg_one ht)
  by_cases hl : ∀ x g s p, a ≠ .ListComp x g s p
  · exact plain (sw_none h hl _ _ _)
  · have : ∃ x g s p, a = .ListComp x g s p := by
      apply Classical.byContradiction
      intro q
      exact hl fun x g s p z => q ⟨x, g, s, p, z⟩
    obtain ⟨elt, gs, scope, p, rfl⟩ := this
    cases t with
    | tp is =>
      cases tg <;> first | (cases ht; done) | skip
      exact plain rfl
    | nm i =>
      cases tg <;> first | (cases ht; done) | skip
      rename_i y py
      cases q : swB X.env.scope y py scope p with
      | false => exact plain (sw_false (l := pos.line) q)
      | true =>
        unfold swB at q
        simp only [Bool.and_eq_true, Bool.not_eq_true', decide_eq_true_eq] at q
        obtain ⟨⟨q1, q2⟩, q3⟩ := q
        have hsw := sw_true (elt := elt) (gs := gs) (pos := p) (l := pos.line) A.kind q1 q2 q3
        simp only [tgOk, tgtB, Bool.and_eq_true, decide_eq_true_eq] at ht
        cases e <;> first | (cases h; done) | (simp [okE, noOdd] at h; done) | skip
        rename_i e0 t vs w xs cs
        rcases gs with _ | ⟨⟨tg, iter, ifs, k⟩, _ | ⟨_, _⟩⟩ <;> first | (cases h; done) | (simp [okE, noOdd] at h; done) | skip
        simp only [okE, Bool.and_eq_true, decide_eq_true_eq] at h
        obtain ⟨⟨⟨⟨⟨⟨⟨⟨hk, h1⟩, h2⟩, hw⟩, h3⟩, h4⟩, h5⟩, h6⟩, hcm⟩ := h
        subst hk
        have hv : ∀ j, tgMem j t → j ∈ vs := by
          cases t with
          | nm i => intro j hj; rw [show j = i from hj]; simpa [tgIn] using h3
          | tp is => intro j hj; simp only [tgIn, List.all_eq_true] at h3; simpa using h3 j hj
        have own : (ownOf X.N vs).map (·.2) = vs := by simp [ownOf, List.map_map, Function.comp_def]
        have hb := blkOk_by h1
        have B := A.al
        have pi : PI X tg iter (tI X.K W w (evEs P call xs)) := sW xs w W X tg iter _ B rfl rfl h6 (tp_of hw h2)
        have r := ps_setLc (spos := pos) (g := gT X.K t) (tt := tTt X.K W0 (evTs P call cs)) (te := tV X.K W0 (evE P call e0)) A.calm B.hy.nd ht.1 q1 hsw pi hb (fun s H C0 cl fp => pg_T (fun x hx => (blk_loc s H scope C0 cl fp x hx).1) A.calm B.hy.nd (fun x hx => (blk_loc s H scope C0 cl fp x hx).2) h2)
          (fun s H C0 cl fp => sTs cs W0 _ _ _ (B.blk s H scope C0 cl fp) rfl rfl h5) (fun s H C0 cl fp => sE e0 W0 _ _ _ (B.blk s H scope C0 cl fp) rfl rfl h4) (fun x => folded (ok_walk h6) x)
        rw [own] at r
        refine ps_mono r fun D σ H ⟨F, c, α, wf, hw⟩ => ?_
        refine lc_read (W := W) hv ?_
        exact sv (r := fun c => (evEs P call xs c).bind fun us c => (ofO (wkD w (us.map Vl.rd)) c).bind fun its c => doLc t vs (evTs P call cs) (evE P call e0) its c) wf hw fun v c1 u F1 H1 w1 t1 v1 hh => lay_read (t := .nm i) hkk wf w1 t1 v1 hh
/-- the context of a try's body, of an except suite -/
theorem AlS.tr {W W' : WX} {X : Cx} (A : AlS L P call W X) {pn : List (Addr × Obj)} {xe : Value → Shared → Prop} (tk : Takes (X.tr pn xe) W') (hp : PassesOwn (model X.prog X.w) X.A X.env xe) : AlS L P call W' (X.tr pn xe) :=
  ⟨⟨⟨A.al.hy.calm, A.al.hy.nd, tk, A.al.hy.units, A.al.hy.blt, A.al.hy.consts, A.al.hy.cls, A.al.hy.xcl, A.al.hy.news⟩, ⟨fun g hg => ⟨(A.al.fn.fns g hg).ok⟩, fun g x y hg => ⟨(A.al.fn.c2 g x y hg).ok⟩⟩, fun g' g hg => ⟨(A.al.mt g' g hg).ok⟩⟩, hp, A.fnall, A.kind, A.calm, A.noex, A.stk, A.fr⟩
theorem Al.suite {W : WX} {X : Cx} (A : Al L P call W X) (a : Addr) (pn : List (Addr × Obj)) : Al L.quiet P call W0 (X.suite a pn) :=
  ⟨⟨(fun h => by cases h), A.hy.nd, takes0, A.hy.units, A.hy.blt, A.hy.consts, A.hy.cls, (fun _ h => by cases h), (fun _ h => by cases h)⟩, ⟨fun _ h => (by cases h), fun _ _ _ h => (by cases h)⟩, (fun _ _ h => by cases h)⟩
mutual
theorem sX {N : List PySem.Str} : ∀ (st : S) (W : WX) (X : Cx) (sc : Scope) (a : Stmt), Al L P call W X → X.N = N → X.env.scope = sc → okX L N sc st a = true → PS X a (tS X.K W (fun i => keepsS i st = true) (evS P call st))
  | .ife c x y, W, X, sc, a, A, hN, hs, h => by
    cases a <;> first | (cases h; done) | (simp [okX] at h; done) | skip
    simp only [okX, Bool.and_eq_true] at h
    have h1 := sXs x W X sc _ A hN hs h.1.2
    have h2 := sXs y W X sc _ A hN hs h.2
    exact k_ife (kp := fun k => keepsS k (.ife c x y) = true) (sT c W X sc _ A hN hs h.1.1).pt
      (pss_mono h1 fun D σ H q => tS_weak (fun i z => by simp only [keepsS, Bool.and_eq_true] at z; exact z.1) q)
      (pss_mono h2 fun D σ H q => tS_weak (fun i z => by simp only [keepsS, Bool.and_eq_true] at z; exact z.2) q)
  | .ret e, W, X, sc, a, A, hN, hs, h => by
    cases a <;> first | (cases h; done) | (simp [okX] at h; done) | skip
    rename_i v p
    cases v <;> first | (cases h; done) | (simp [okX] at h; done) | skip
    simp only [okX] at h
    exact k_ret (sE e W X sc _ A hN hs h)
  | .retn, W, X, sc, a, A, hN, hs, h => by
    cases a <;> first | (cases h; done) | (simp [okX] at h; done) | skip
    rename_i v p
    cases v <;> first | (cases h; done) | (simp [okX] at h; done) | skip
    exact k_retn
  | .pass, W, X, sc, a, A, hN, hs, h => by
    cases a <;> first | (cases h; done) | (simp [okX] at h; done) | skip
    exact k_pass
  | .brk, W, X, sc, a, A, hN, hs, h => by
    cases a <;> first | (cases h; done) | (simp [okX] at h; done) | skip
    exact k_brk
  | .cnt, W, X, sc, a, A, hN, hs, h => by
    cases a <;> first | (cases h; done) | (simp [okX] at h; done) | skip
    exact k_cnt
  | .asg _ _, _, _, _, _, _, _, _, h => by simp [okX] at h
  | .app _ _, _, _, _, _, _, _, _, h => by simp [okX] at h
  | .ext _ _, _, _, _, _, _, _, _, h => by simp [okX] at h
  | .pop _ _, _, _, _, _, _, _, _, h => by simp [okX] at h
  | .setix _ _ _, _, _, _, _, _, _, _, h => by simp [okX] at h
  | .forr _ _ _ _, _, _, _, _, _, _, _, h => by simp [okX] at h
  | .whl _ _, _, _, _, _, _, _, _, h => by simp [okX] at h
  | .exp _, _, _, _, _, _, _, _, h => by simp [okX] at h
  | .nev, _, _, _, _, _, _, _, h => by simp [okX] at h
  | .rai _ _, _, _, _, _, _, _, _, h => by simp [okX] at h
  | .tri _ _ _ _, _, _, _, _, _, _, _, h => by simp [okX] at h
theorem sXs {N : List PySem.Str} : ∀ (l : List S) (W : WX) (X : Cx) (sc : Scope) (as : List Stmt), Al L P call W X → X.N = N → X.env.scope = sc → okXs L N sc l as = true → PSs X as (tS X.K W (fun i => keepsSs i l = true) (evSs P call l))
  | [], W, X, sc, as, A, hN, hs, h => by
    cases as <;> first | (cases h; done) | (simp [okXs] at h; done) | skip
    exact k_nil
  | s :: l, W, X, sc, as, A, hN, hs, h => by
    cases as <;> first | (cases h; done) | (simp [okXs] at h; done) | skip
    simp only [okXs, Bool.and_eq_true] at h
    have h1 := sX s W X sc _ A hN hs h.1
    have h2 := sXs l W X sc _ A hN hs h.2
    exact k_cons (kp := fun k => keepsSs k (s :: l) = true) (ps_mono h1 fun D σ H q => tS_weak (fun i z => by simp only [keepsSs, Bool.and_eq_true] at z; exact z.1) q)
      (pss_mono h2 fun D σ H q => tS_weak (fun i z => by simp only [keepsSs, Bool.and_eq_true] at z; exact z.2) q)
end
theorem tri_form {N : List PySem.Str} {sc : Scope} {b : List S} {g : Nat} {i : Option Nat} {r : List S} {a : Stmt} (h : okSt L N sc (.tri b g i r) a = true) : ∃ (body : List Stmt) (x : PySem.Str) (np : Pos) (nm : Option PySem.Str) (suite : List Stmt) (p3 p : Pos), a = .Try body [.ExceptHandler (some (.Name x np)) nm suite p3] [] [] p ∧
    okSts L N sc b body = true ∧ glB sc x = true ∧ x = clsName (100 + g) ∧ L.hx g = true ∧ nmX N sc i nm = true ∧ (!suite.isEmpty) = true ∧ okXs L.quiet N sc r suite = true := by
  unfold okSt at h
  split at h <;> first | (rename_i q; cases q; done) | skip
  all_goals first | (cases h; done) | skip
  rename_i b' h' i' r' body x np nm suite p3 p q
  cases q
  simp only [Bool.and_eq_true, beq_iff_eq (α := PySem.Str)] at h
  obtain ⟨⟨⟨⟨⟨⟨h1, h2⟩, h3⟩, h4⟩, h5⟩, h6⟩, h7⟩ := h
  exact ⟨_, _, _, _, _, _, _, rfl, h1, h2, h3, h4, h5, h6, h7⟩
theorem cRai {g : Nat} {xs : List E} {W : WX} {X : Cx} {a : Stmt} (A : AlS L P call W X) (h : okSt L X.N X.env.scope (.rai g xs) a = true) : PS X a (tS X.K W (fun i => keepsS i (.rai g xs) = true) (evS P call (.rai g xs))) := by
  unfold okSt at h
  split at h <;> first | (rename_i q; cases q; done) | skip
  all_goals first | (cases h; done) | skip
  · rename_i g' e x p b p2 p3 q
    cases q
    simp only [Bool.and_eq_true, beq_iff_eq (α := PySem.Str)] at h
    obtain ⟨⟨⟨⟨h1, h2⟩, h3⟩, h4⟩, h5⟩ := h
    have e0 : evS P call (.rai g [e]) = fun c => (evE P call e c).bind fun v c => doRai g [v] c := by
      funext c
      have e1 : evS P call (.rai g [e]) c = (evEs P call [e] c).bind (doRai g) := by (rw [evS.eq_def]) <;> rfl
      rw [e1]
      simp only [evEs]
      cases evE P call e c <;> rfl
    rw [e0]
    exact k_rai1 A.al.hy A.calm h1 h2 h3 (ok_plain h5).1 (fun z => by rw [z] at h4; cases h4) (sE e W X _ _ A.al rfl rfl h5)
  · rename_i g' x p p2 p3 q
    cases q
    simp only [Bool.and_eq_true, beq_iff_eq (α := PySem.Str), List.isEmpty_iff] at h
    obtain ⟨⟨⟨h1, h2⟩, h3⟩, h4⟩ := h
    have e0 : evS P call (.rai g []) = fun c => doRai g [] c := by
      funext c
      have e1 : evS P call (.rai g []) c = (evEs P call [] c).bind (doRai g) := by (rw [evS.eq_def]) <;> rfl
      rw [e1]
      simp only [evEs]
      rfl
    rw [e0]
    exact k_rai0 A.al.hy A.calm h1 h2 h3 h4
mutual
theorem sS {N : List PySem.Str} : ∀ (st : S) (W : WX) (X : Cx) (sc : Scope) (a : Stmt), AlS L P call W X → X.N = N → X.env.scope = sc → okSt L N sc st a = true → PS X a (tS X.K W (fun i => keepsS i st = true) (evS P call st))
  | .asg t e, W, X, sc, a, A, hN, hs, h => by
    cases a <;> first | (cases h; done) | (simp [okSt] at h; done) | skip
    rename_i tgs v p
    rcases tgs with _ | ⟨tg, _ | ⟨_, _⟩⟩ <;> first | (cases h; done) | (simp [okSt] at h; done) | skip
    simp only [okSt, Bool.and_eq_true] at h
    subst hN hs
    exact cAsg A h.1.1 h.1.2 h.2
  | .app i e, W, X, sc, a, A, hN, hs, h => by
    cases a <;> first | (cases h; done) | (simp [okSt] at h; done) | skip
    rename_i v p
    cases v <;> first | (cases h; done) | (simp [okSt] at h; done) | skip
    rename_i f as ks p2
    cases f <;> first | (cases h; done) | (simp [okSt] at h; done) | skip
    rename_i o m p3
    cases o <;> first | (cases h; done) | (simp [okSt] at h; done) | skip
    rcases as with _ | ⟨b, _ | ⟨_, _⟩⟩ <;> first | (cases h; done) | (simp [okSt] at h; done) | skip
    cases ks <;> first | (cases h; done) | (simp [okSt] at h; done) | skip
    simp only [okSt, Bool.and_eq_true, beq_iff_eq (α := PySem.Str)] at h
    obtain ⟨⟨⟨rfl, h2⟩, h3⟩, h4⟩ := h
    subst hN hs
    exact k_app (kp := fun k => keepsS k (.app i e) = true) (fun k q => by simpa [keepsS] using q) h2 (ok_plain h4).1 h3 (sE e W X _ _ A.al rfl rfl h4)
  | .ext i e, W, X, sc, a, A, hN, hs, h => by
    cases a <;> first | (cases h; done) | (simp [okSt] at h; done)
  | .pop t i, W, X, sc, a, A, hN, hs, h => by
    cases a <;> first | (cases h; done) | (simp [okSt] at h; done) | skip
    rename_i tgs v p
    rcases tgs with _ | ⟨tg, _ | ⟨_, _⟩⟩ <;> first | (cases h; done) | (simp [okSt] at h; done) | skip
    cases v <;> first | (cases h; done) | (simp [okSt] at h; done) | skip
    rename_i f as ks p2
    cases f <;> first | (cases h; done) | (simp [okSt] at h; done) | skip
    rename_i o m p3
    cases o <;> first | (cases h; done) | (simp [okSt] at h; done) | skip
    cases as <;> first | (cases h; done) | (simp [okSt] at h; done) | skip
    cases ks <;> first | (cases h; done) | (simp [okSt] at h; done) | skip
    simp only [okSt, Bool.and_eq_true, beq_iff_eq (α := PySem.Str)] at h
    obtain ⟨⟨⟨rfl, h2⟩, h3⟩, h4⟩ := h
    subst hN hs
    exact k_pop (kp := fun k => keepsS k (.pop t i) = true) (fun k q => keep_pop q) h2 h3 (A.pg h4) (stores_none h4 (by cases tg <;> rfl)) rfl (tg_one h4)
  | .setix i x y, W, X, sc, a, A, hN, hs, h => by
    cases a <;> first | (cases h; done) | skip
    rename_i tgs v p
    cases tgs <;> first | (cases h; done) | skip
    rename_i tg r
    cases tg <;> first | (cases h; done) | skip
    rename_i o b p2
    cases o <;> first | (cases h; done) | skip
    cases r <;> first | (cases h; done) | skip
    rename_i z p3
    simp only [okSt, Bool.and_eq_true] at h
    subst hN hs
    have hs' : swapsWithSole [.Subscript (.Name z p3) b p2] v p.line X.env = pure false := by
      cases v <;> rfl
    exact k_setix (kp := fun k => keepsS k (.setix i x y) = true) (fun k q => by simpa [keepsS] using q) h.1.1 hs' rfl (ok_plain h.1.2).2.2.1 (sE y W X _ _ A.al rfl rfl h.2) (sE x W X _ _ A.al rfl rfl h.1.2)
  | .ife c x y, W, X, sc, a, A, hN, hs, h => by
    cases a <;> first | (cases h; done) | (simp [okSt] at h; done) | skip
    · rename_i tgs v p
      rcases tgs with _ | ⟨tg, _ | ⟨_, _⟩⟩ <;> first | (cases h; done) | (simp [okSt] at h; done) | skip
      simp only [okSt] at h
      obtain ⟨i, e, y, p1, d, a, p2, p3, rfl, rfl, rfl, rfl, h3, h4, h5, h6⟩ := ifA_form h
      subst hN hs
      have hg : PG X (.Name y p1) (gT X.K (.nm i)) := A.pg (t := .nm i) h3
      exact k_asgI (fun k q => by
        simp only [keepsS, keepsSs, Bool.and_eq_true, bne_iff_ne] at q
        exact q.1.1) h4 hg (sT c W X _ _ A.al rfl rfl h5).pt (sE e W X _ _ A.al rfl rfl h6)
    · simp only [okSt, Bool.and_eq_true] at h
      have h1 := sSs x W X sc _ A hN hs h.1.2
      have h2 := sSs y W X sc _ A hN hs h.2
      exact k_ife (kp := fun k => keepsS k (.ife c x y) = true) (sT c W X sc _ A.al hN hs h.1.1).pt
        (pss_mono h1 fun D σ H q => tS_weak (fun i z => by simp only [keepsS, Bool.and_eq_true] at z; exact z.1) q)
        (pss_mono h2 fun D σ H q => tS_weak (fun i z => by simp only [keepsS, Bool.and_eq_true] at z; exact z.2) q)
  | .forr t w xs b, W, X, sc, a, A, hN, hs, h => by
    cases a <;> first | (cases h; done) | (simp [okSt] at h; done) | skip
    rename_i tg iter body orelse p
    cases orelse <;> first | (cases h; done) | (simp [okSt] at h; done) | skip
    simp only [okSt, Bool.and_eq_true] at h
    obtain ⟨⟨⟨h1, h2⟩, h3⟩, h4⟩ := h
    have hb := sSs b W X sc _ A hN hs h4
    subst hN hs
    exact k_for (kp := fun k => keepsS k (.forr t w xs b) = true) (bs := b) A.pass A.calm (fun k q => (keep_tg q).1) (fun k q => by
        simp only [keepsSs, Bool.and_eq_true] at q
        cases t <;> exact q.1)
      (sW xs w W X tg iter _ A.al rfl rfl h3 (tp_of h2 h1)) (A.pg h1) (pss_mono hb fun D σ H q => tS_weak (fun i z => (keep_tg z).2) q) (fun x => folded (ok_walk h3) x)
  | .whl c b, W, X, sc, a, A, hN, hs, h => by
    cases a <;> first | (cases h; done) | (simp [okSt] at h; done) | skip
    rename_i e body orelse p
    cases orelse <;> first | (cases h; done) | (simp [okSt] at h; done) | skip
    simp only [okSt, Bool.and_eq_true] at h
    have hb := sSs b W X sc _ A hN hs h.2
    exact k_whl (kp := fun k => keepsS k (.whl c b) = true) A.pass (sT c W X sc _ A.al hN hs h.1).pt (pss_mono hb fun D σ H q => tS_weak (fun i z => by simpa [keepsS] using z) q)
  | .ret e, W, X, sc, a, A, hN, hs, h => by
    cases a <;> first | (cases h; done) | (simp [okSt] at h; done) | skip
    rename_i v p
    cases v <;> first | (cases h; done) | (simp [okSt] at h; done) | skip
    simp only [okSt] at h
    exact k_ret (sE e W X sc _ A.al hN hs h)
  | .retn, W, X, sc, a, A, hN, hs, h => by
    cases a <;> first | (cases h; done) | (simp [okSt] at h; done) | skip
    rename_i v p
    cases v <;> first | (cases h; done) | (simp [okSt] at h; done) | skip
    exact k_retn
  | .exp e, W, X, sc, a, A, hN, hs, h => by
    cases a <;> first | (cases h; done) | (simp [okSt] at h; done) | skip
    simp only [okSt, Bool.and_eq_true] at h
    exact k_exp (sE e W X sc _ A.al hN hs h.1) (sw_none h.1 (fun x g s p q => by subst q; cases h.2) _ _ _)
  | .pass, W, X, sc, a, A, hN, hs, h => by
    cases a <;> first | (cases h; done) | (simp [okSt] at h; done) | skip
    exact k_pass
  | .brk, W, X, sc, a, A, hN, hs, h => by
    cases a <;> first | (cases h; done) | (simp [okSt] at h; done) | skip
    exact k_brk
  | .cnt, W, X, sc, a, A, hN, hs, h => by
    cases a <;> first | (cases h; done) | (simp [okSt] at h; done) | skip
    exact k_cnt
  | .nev, W, X, sc, a, A, hN, hs, h => ⟨fun pins s σ H D I ⟨F, c, α, w, hw⟩ => False.elim hw⟩
  | .rai g xs, W, X, sc, a, A, hN, hs, h => by
    subst hN hs
    exact cRai A h
  | .tri b g i r, W, X, sc, a, A, hN, hs, h => by
    obtain ⟨body, x, np, nm, suite, p3, p, rfl, h1, h2, h3, h4, h5, h6, h7⟩ := tri_form h
    have rb := fun (W' : WX) (X' : Cx) (A' : AlS L P call W' X') (e1 : X'.N = N) (e2 : X'.env.scope = sc) => sSs b W' X' sc body A' e1 e2 h1
    have e0 : evS P call (.tri b g i r) = fun c => triR g i (evSs P call r) (evSs P call b c) := by
      funext c
      (rw [evS.eq_def]) <;> rfl
    rw [e0]
    cases suite with
    | nil => cases h6
    | cons b0 suite =>
      subst hN hs
      have hb : ∀ (W' : WX) (pn : List (Addr × Obj)) (xe : Value → Shared → Prop), Takes (X.tr pn xe) W' → PassesOwn (model X.prog X.w) X.A X.env xe → PSs (X.tr pn xe) body (tS X.K W' (fun k => keepsS k (.tri b g i r) = true) (evSs P call b)) := fun W' pn xe tk hp =>
        pss_mono (rb W' (X.tr pn xe) (A.tr tk hp) rfl rfl) fun D σ H q => tS_weak (fun i z => by simp only [keepsS, Bool.and_eq_true] at z; exact z.1.1) q
      have hsu : ∀ (a : Addr) (pn : List (Addr × Obj)), PSs (X.suite a pn) (b0 :: suite) (tS X.K W0 (fun k => keepsS k (.tri b g i r) = true) (evSs P call r)) := fun a pn =>
        pss_mono (sXs (L := L.quiet) r W0 (X.suite a pn) _ _ (A.al.suite a pn) rfl rfl h7) fun D σ H q => tS_weak (fun i z => by simp only [keepsS, Bool.and_eq_true] at z; exact z.1.2) q
      cases i with
      | none =>
        cases nm <;> first | (cases h5; done) | skip
        exact k_tri_on A.al.hy A.stk A.fr h2 h3 h4 hb hsu
      | some i =>
        cases nm <;> first | (cases h5; done) | skip
        simp only [nmX, Bool.and_eq_true, decide_eq_true_eq] at h5
        exact k_tri_nm (kp2 := fun _ => True) A.al.hy A.noex A.stk A.fr h5.1 h5.2 h2 h3 h4 (fun k z => by
          simp only [keepsS, Bool.and_eq_true, bne_iff_ne] at z
          exact fun e => z.2 (by rw [e])) hb hsu
theorem sSs {N : List PySem.Str} : ∀ (b : List S) (W : WX) (X : Cx) (sc : Scope) (as : List Stmt), AlS L P call W X → X.N = N → X.env.scope = sc → okSts L N sc b as = true → PSs X as (tS X.K W (fun i => keepsSs i b = true) (evSs P call b))
  | [], W, X, sc, as, A, hN, hs, h => by
    cases as with
    | nil => exact k_nil
    | cons a as => cases h
  | s :: b, W, X, sc, as, A, hN, hs, h => by
    cases as with
    | nil => cases h
    | cons a as =>
      simp only [okSts, Bool.and_eq_true] at h
      have h1 := sS s W X sc a A hN hs h.1
      have h2 := sSs b W X sc as A hN hs h.2
      exact k_cons (kp := fun k => keepsSs k (s :: b) = true) (ps_mono h1 fun D σ H q => tS_weak (fun i z => by simp only [keepsSs, Bool.and_eq_true] at z; exact z.1) q)
        (pss_mono h2 fun D σ H q => tS_weak (fun i z => by simp only [keepsSs, Bool.and_eq_true] at z; exact z.2) q)
end
end
end Ev
end
section
set_option maxRecDepth 100000
set_option maxHeartbeats 1000000
/-! Ev13: the functions of a text. -/
namespace Ev
open PySem L2
/-- one function of the text beside its clean one -/
structure FL (K : Fg) (mg : PySem.Str → Option Value) (L : Lk) (P : Pg) (g : Nat) (f : Addr) : Prop where
  ex : ∃ fn x q st fd N ps, P.fns g = some fn ∧ Fun K x q st f fd ∧ Binds K fd ps [] ∧ FnScope N ps (defScope st) ∧ okSts L N (defScope st) fn.body (defBody st) = true ∧ ps.length = fn.np ∧ N.length = fn.nl
/-- a promise that is shown elsewhere -/
def spX (K : Fg) (r : List D → Option Rv) : Sp := fun vs H Q _ => ∃ F ds v, Same F H ∧ GoodT K H ∧ Reps K F vs ds ∧ r ds = some v ∧ Res K F H v.vl Q
/-- what a law's base tells of the maker's code object -/
def GoodB (K : Fg) (mg : PySem.Str → Option Value) (base : Heap) : Prop := ∀ c P, LamCd K c P → LamX.TabB base mg c P
/-- a function that is read from outside; r: the room that it takes -/
structure XL (prog : Program) (K : Fg) (mg : PySem.Str → Option Value) (P : Pg) (r g : Nat) (f : Addr) : Prop where
  no : P.fns g = none
  kp : PySem.W.keepIn K (.ref f) = true
  ex : ∃ fd ps, Binds K fd ps [] ∧ ∀ (w : World) (base : Heap), GoodB K mg base → FnOk prog w K mg base (L2.CX prog w) r f fd ps (spX K (P.xt g))
/-- two functions that are read from outside as one -/
structure X2 (prog : Program) (K : Fg) (mg : PySem.Str → Option Value) (P : Pg) (r g : Nat) (x y : PySem.Str) : Prop where
  no : P.fns g = none
  ex : ∃ f1 fd1 ps1 f2 fd2 ps2, (mg y = some (.ref f1) ∧ PySem.W.keepIn K (.ref f1) = true ∧ Binds K fd1 ps1 []) ∧ (mg x = some (.ref f2) ∧ PySem.W.keepIn K (.ref f2) = true ∧ Binds K fd2 ps2 []) ∧
    ∀ (w : World) (base : Heap), GoodB K mg base → ∃ sp1 sp2, FnOk prog w K mg base (L2.CX prog w) r f1 fd1 ps1 sp1 ∧ FnOk prog w K mg base (L2.CX prog w) r f2 fd2 ps2 sp2 ∧ ∀ us H Q, spX K (P.xt g) us H Q noE → sp1 us H (fun v H1 => sp2 [v] H1 Q noE) noE
structure Lnk (prog : Program) (K : Fg) (mg : PySem.Str → Option Value) (L : Lk) (P : Pg) (r : Nat) : Prop where
  hr : 3 ≤ r
  blt : ∀ x ∈ bltNames, mg x = none
  consts : ∀ g d x, L.hc g x = true → P.cs g = some d → ∃ u v, mg x = some u ∧ RelV v u ∧ ∀ F, Rep K F v d
  fns : ∀ g, L.hf g = true → ∃ f, mg (L.fn g) = some (.ref f) ∧ (FL K mg L P g f ∨ XL prog K mg P r g f)
  c2 : ∀ g x y, L.c2 g = some (x, y) → X2 prog K mg P r g x y
  cls : ∀ g, L.hk g = true → (g < 100 ∧ ∃ C, KOk K g C) ∨ ∃ c C, g = 100 + c ∧ XRd K c C
  xcl : ∀ g, L.hx g = true → ∃ C, XCls K g C ∧ mg (clsName (100 + g)) = some (.ref C) ∧ g < 7 ∧ mg "super" = none ∧ ((clsFields (100 + g) = [] ∧ XPl K C) ∨ ∃ f, clsFields (100 + g) = [f] ∧ SxC prog K C f)
  mts : ∀ g' g, L.hm g' g = true → ∃ C f, KOk K g' C ∧ Meth K C (L.fn g) f ∧ FL K mg L P g f ∧ (clsFields g').contains (L.fn g) = false
  news : ∀ g, L.hn g = true → ∃ C f fd ps, KOk K g C ∧ mg (clsName g) = some (.ref C) ∧ Mk K C f ∧ Binds K fd ps [] ∧ ∀ (w : World) (base : Heap), FnOk prog w K mg base (L2.CX prog w) 2 f fd ps (spM K g)
section
variable {prog : Program} {w : World} {K : Fg} {mg : PySem.Str → Option Value} {base : Heap} {L : Lk} {P : Pg} {r : Nat}
theorem startL_len (n : Nat) (ds : List D) (h : ds.length ≤ n) : (startL n ds).length = n := by
  simp [startL]; omega
theorem startL_get : ∀ (ds : List D) (n i : Nat), getS (startL n ds) i = match ds[i]? with
    | some d => .dat d
    | none => .no
  | [], n, i => by
    have : ∀ (m j : Nat), getS (List.replicate m Sl.no) j = .no := by
      intro m
      induction m with
      | zero => intro j; rfl
      | succ m ih =>
        intro j
        cases j with
        | zero => rfl
        | succ j => exact ih j
    simpa [startL] using this n i
  | d :: ds, n, 0 => by simp [startL, getS]
  | d :: ds, n, i + 1 => by
    have h := startL_get ds (n - 1) i
    have e : startL n (d :: ds) = .dat d :: startL (n - 1) ds := by
      simp only [startL, List.map_cons, List.cons_append, List.length_cons]
      congr 3
      omega
    rw [e]
    simp only [getS, List.getElem?_cons_succ]
    exact h
theorem start_get (N : List PySem.Str) (vs : List V) (i : Nat) (v : V) (h : vs[i]? = some v) : (L2.start N vs)[i]? = some (some v) := by
  unfold L2.start
  have hl : i < vs.length := (List.getElem?_eq_some_iff.mp h).1
  rw [List.getElem?_append_left (by simpa using hl), List.getElem?_map, h]; rfl
theorem wf_start {F H : Hp} {N : List PySem.Str} {vs : List V} {ds : List D} (hs : Same F H) (gt : GoodT K H) (r : Reps K F vs ds) (hl : vs.length ≤ N.length) : Wf K F H (L2.start N vs) (startL N.length ds) (fun _ => 0) := by
  have e := r.length
  refine ⟨hs, gt, ?_, fun i => ?_, fun i j x y h => ?_⟩
  · rw [startL_len _ _ (by omega)]
    unfold L2.start
    simp; omega
  · rw [startL_get]
    cases q : ds[i]? with
    | none => trivial
    | some d =>
      obtain ⟨v, q2, rv⟩ := r.get q
      exact ⟨v, start_get N vs i v q2, rv⟩
  · rw [startL_get] at h
    cases q : ds[i]? <;> rw [q] at h <;> cases h
theorem no_own {n : Nat} {ds : List D} : ∀ i x, getS (startL n ds) i ≠ .own x := fun i x h => by
  rw [startL_get] at h
  cases q : ds[i]? <;> rw [q] at h <;> cases h
theorem xImp {g : Nat} (hg : P.fns g = none) (n : Nat) {vs : List V} {H : Hp} {Q : VK} {E : XK} (hs : spC K (callN P n) g vs H Q E) (E' : XK) : spX K (P.xt g) vs H Q E' := by
  obtain ⟨F, ds, s, h1, hgt, h2, h3⟩ := hs
  cases n with
  | zero => exact False.elim h3
  | succ n =>
    have hc : callN P (n + 1) g ds s = match P.xt g ds with
      | some v => .ok v s
      | none => .st := by
      show (match P.fns g with
        | some f => runFn P (callN P n) f ds s
        | none => match P.xt g ds with
          | some v => Rc.ok v s
          | none => .st) = _
      rw [hg]
    rw [hc] at h3
    cases e : P.xt g ds with
    | none => rw [e] at h3; exact False.elim h3
    | some v =>
      rw [e] at h3
      exact ⟨F, ds, v, h1, hgt, h2, e, h3⟩
theorem xOk {g : Nat} {f : Addr} {fd : FuncData} {ps : List PySem.Str} (hg : P.fns g = none) (h : FnOk prog w K mg base (L2.CX prog w) r f fd ps (spX K (P.xt g))) (n : Nat) : FnOk prog w K mg base (L2.CX prog w) (n + r) f fd ps (spC K (callN P n) g) := by
  refine (h.mono (by omega)).imp fun vs H Q E hs => ?_
  obtain ⟨F, ds, s, h1, hgt, h2, h3⟩ := hs
  cases n with
  | zero => exact False.elim h3
  | succ n =>
    have hc : callN P (n + 1) g ds s = match P.xt g ds with
      | some v => .ok v s
      | none => .st := by
      show (match P.fns g with
        | some f => runFn P (callN P n) f ds s
        | none => match P.xt g ds with
          | some v => Rc.ok v s
          | none => .st) = _
      rw [hg]
    rw [hc] at h3
    cases e : P.xt g ds with
    | none => rw [e] at h3; exact False.elim h3
    | some v =>
      rw [e] at h3
      exact ⟨F, ds, v, h1, hgt, h2, e, h3⟩
theorem fnOk (Λ : Lnk prog K mg L P r) (gb : GoodB K mg base) : ∀ (n g : Nat) (fn : Fn) (x qn : PySem.Str) (st : Stmt) (f : Addr) (fd : FuncData) (N ps : List PySem.Str), P.fns g = some fn → Fun K x qn st f fd → FnScope N ps (defScope st) → okSts L N (defScope st) fn.body (defBody st) = true → ps.length = fn.np → N.length = fn.nl →
    FnOk prog w K mg base (L2.CX prog w) (n + r) f fd ps (spC K (callN P n) g)
  | 0, g, fn, x, qn, st, f, fd, N, ps, hg, hF, hS, ho, hp, hn =>
    ⟨fun vs H Q E ⟨F, ds, s, _, _, _, h⟩ => False.elim h, fun A outer s H args us vs Q E _ _ _ _ ⟨F, ds, s', _, _, _, h⟩ => False.elim h⟩
  | n + 1, g, fn, x, qn, st, f, fd, N, ps, hg, hF, hS, ho, hp, hn => by
    have hcall : ∀ ds s, callN P (n + 1) g ds s = runFn P (callN P n) fn ds s := fun ds s => by
      show (match P.fns g with
        | some f => runFn P (callN P n) f ds s
        | none => match P.xt g ds with
          | some v => Rc.ok v s
          | none => .st) = _
      rw [hg]
    have len : ∀ vs H Q E, spC K (callN P (n + 1)) g vs H Q E → vs.length = ps.length := fun vs H Q E ⟨F, ds, s, hs, _, rr, h⟩ => by
      rw [hcall] at h
      unfold runFn at h
      by_cases q : ds.length = fn.np
      · rw [rr.length, q, hp]
      · rw [if_neg q] at h; exact False.elim h
    obtain ⟨oc, od, kV, doc, pm, an, cdv, ct, osl, rfl, lk, hcd⟩ := hF.ex
    have h3 := Λ.hr
    have er : n + 1 + r = (n + r) + 1 := by omega
    rw [er]
    refine fn_of lk hcd hS len fun A outer s H vs Q E hr hsp => ?_
    have hlen := len _ _ _ _ hsp
    obtain ⟨F, ds, sto, hs, hgt, rr, h⟩ := hsp
    rw [hcall] at h
    unfold runFn at h
    have hds : ds.length = fn.np := by rw [← rr.length, hlen, hp]
    rw [if_pos hds] at h
    have hle : ps.length ≤ N.length := by
      have := congrArg List.length hS.pre
      rw [List.length_take] at this
      omega
    have wf := wf_start (N := N) hs hgt rr (by omega)
    rw [hn] at wf
    refine ⟨tS K (fun cls d _ H => E cls d H) (fun i => keepsSs i fn.body = true) (evSs P (callN P n) fn.body), ?_, ?_⟩
    · refine sSs (N := N) (L := L) (P := P) (call := callN P n) fn.body (fun cls d _ H => E cls d H) _ (defScope st) (defBody st) ⟨⟨⟨fun _ => rfl, hS.nd, takes_of rfl rfl rfl rfl, ?_, Λ.blt, Λ.consts, Λ.cls, fun g' hg' => ?_, fun g' hg' => ?_⟩, ⟨fun g' hg' => ?_, fun g' x y hg' => ?_⟩, fun c' g' hg' => ?_⟩, passes_of rfl, fun _ => rfl, hS.kind, rfl, rfl, rfl, rfl⟩ rfl rfl ho
      · have := hr.un
        have e : (cxOf (L2.CX prog w) prog w K mg base N qn (defScope st) f cdv A outer s H E).A.units = (A.deeper (PyProof.Rows.envOfC qn (defScope st) s.heap.objs.size f cdv)).units := rfl
        rw [e]
        omega
      · obtain ⟨C', k1, k2, k3, k4, k5⟩ := Λ.xcl g' hg'
        exact ⟨C', k1, k2, k3, k4, ⟨0, hr.mono (by omega)⟩, k5⟩
      · obtain ⟨C', f', fd', ps', k1, k2, k3, k4, k5⟩ := Λ.news g' hg'
        exact ⟨C', f', fd', ps', 2, k1, k2, k3, k5 _ _, hr.mono (by omega), k4⟩
      · obtain ⟨f', hm', hl⟩ := Λ.fns g' hg'
        rcases hl with ⟨fn', x', q', st', fd', N', ps', e1, e2, e3, e4, e5, e6, e7⟩ | ⟨x1, x2, fd', ps', x3, x4⟩
        · exact ⟨f', fd', ps', n + r, fnOk Λ gb n g' fn' x' q' st' f' fd' N' ps' e1 e2 e4 e5 e6 e7, hr, hm', e2.kp, e3⟩
        · exact ⟨f', fd', ps', n + r, xOk x1 (x4 _ _ gb) n, hr, hm', x2, x3⟩
      · obtain ⟨z1, f1, fd1, ps1, f2, fd2, ps2, ⟨m1, k1, b1⟩, ⟨m2, k2, b2⟩, z⟩ := Λ.c2 g' x y hg'
        obtain ⟨sp1, sp2, F1, F2, imp⟩ := z w base gb
        exact ⟨f1, fd1, ps1, r, sp1, f2, fd2, ps2, r, sp2, ⟨F1, hr.mono (by omega), m1, k1, b1⟩, ⟨F2, hr.mono (by omega), m2, k2, b2⟩, fun us H Q E h => imp us H Q (xImp z1 n h _)⟩
      · obtain ⟨C', f', k1, k2, ⟨fn', x', q', st', fd', N', ps', e1, e2, e3, e4, e5, e6, e7⟩, k4⟩ := Λ.mts c' g' hg'
        exact ⟨C', f', fd', ps', n + r, k1, k2, fnOk Λ gb n g' fn' x' q' st' f' fd' N' ps' e1 e2 e4 e5 e6 e7, hr, e3, k4⟩
    · refine ⟨F, ⟨startL fn.nl ds, sto⟩, fun _ => 0, wf, ?_⟩
      have hkept : ∀ {σ' : L2.St} {ρ' : List Sl} {α' : Nat → Addr} {F' H' : Hp} {kp : Nat → Prop}, SR K kp (L2.start N vs) σ' (startL fn.nl ds) ρ' (fun _ => 0) α' F H F' H' → Grow K H H' := fun s => ⟨⟨fun a o q nt => s.kept a o q nt fun i x z => absurd z (no_own i x), s.tb.tbls⟩, s.tb.tabs⟩
      have hnew : ∀ {F' : Hp} {a : Addr} {o : HO}, (F a = some o ∨ Nw H a ∨ ∃ i x, getS (startL fn.nl ds) i = .own x ∧ a = 0) → F a = some o ∨ Nw H a := fun q => by
        rcases q with q | q | ⟨i, x, q, _⟩
        · exact .inl q
        · exact .inr q
        · exact absurd q (no_own i x)
      cases e : evSs P (callN P n) fn.body ⟨startL fn.nl ds, sto⟩ with
      | st => rw [e] at h; exact False.elim h
      | ex x c =>
        rw [e] at h
        intro cls d σ' F' H' α' w' s' xk
        exact h cls d F' H' (hkept s') s'.sub w'.sub (fun a o q => hnew (F' := F') (s'.new a o q)) xk
      | ok fl c =>
        rw [e] at h
        cases fl with
        | bk => exact False.elim h
        | ct => exact False.elim h
        | nx =>
          intro σ' F' H' α' w' s'
          exact h .non F' H' (hkept s') s'.sub w'.sub (fun a o q => hnew (F' := F') (s'.new a o q)) .non
        | rt v =>
          intro u F' H' s' rv
          refine h u F' H' ⟨⟨fun a o q nt => s'.kept a o q nt fun i x z => absurd z (no_own i x), s'.tb.tbls⟩, s'.tb.tabs⟩ s'.sub s'.s' (fun a o q => hnew (F' := F') (s'.new a o q)) ?_
          cases v with
          | d x => exact rv
          | own x =>
            obtain ⟨a, e1, e2, e3, e4⟩ := rv
            refine ⟨a, e1, ?_, e2, e3⟩
            rcases e4 with q | ⟨i, y, q, _⟩
            · exact q
            · exact absurd q (no_own i y)
/-- what is promised of law: ints go in, True comes out -/
def spLaw (K : Fg) (m : Nat) : Sp := fun vs H Q _ => ∃ (a : Addr) (ns : List Int), vs = [.ref a] ∧ SqL K H a (ns.map V.int) ∧ ns.length ≤ m ∧ GoodT K H ∧ ∀ H', Q (.bl true) H'
theorem reps_ints {F : Hp} : ∀ ns : List Int, Reps K F (ns.map V.int) (ns.map D.int)
  | [] => .nil
  | i :: ns => .cons (.int i) (reps_ints ns)
/-- the law's end, from what its clean text computes -/
theorem lawOk {g m n : Nat} {f : Addr} {fd : FuncData} {ps : List PySem.Str} (h : FnOk prog w K mg base (L2.CX prog w) (n + r) f fd ps (spC K (callN P n) g)) (hp : ps.length = 1) (run : ∀ ns : List Int, ns.length ≤ m → ∃ s, callN P n g [.lst (ns.map .int)] [] = .ok (.d (.bl true)) s) :
    FnOk prog w K mg base (L2.CX prog w) (n + r) f fd ps (spLaw K m) :=
  h.imp fun vs H Q E ⟨a, ns, e, hs, hl, hgt, hq⟩ => by
    subst e
    obtain ⟨s, e⟩ := run ns hl
    refine ⟨H, [.lst (ns.map .int)], [], Same.refl _, hgt, .cons (.lst hs (reps_ints ns)) .nil, ?_⟩
    rw [e]
    intro u F' H' _ _ _ _ r
    have : u = .bl true := by cases r; rfl
    rw [this]
    exact hq H'
end
end Ev
end
section
set_option maxRecDepth 100000
set_option maxHeartbeats 1000000
/-! Ev13o: the instances that a text makes: Hasher, TreeSource. -/
namespace Ev
open PySem L2
section
variable {K : Fg} {mg : PySem.Str → Option Value} {prog : Program} {w : World} {base : Heap}
end
end Ev
end
section
set_option maxRecDepth 100000
set_option maxHeartbeats 1000000
/-! Ev14: what an end needs. -/
namespace Ev
open PySem L2
theorem rep_of {K : Fg} {F : Hp} {x : PySem.Str} {l : List Nat} (h : okS x = true) (e : x.cps.toList = l) : Rep K F (.str x) (.str l) := e ▸ .str x h
theorem room_ok {k : Nat} (h : k ≤ 200) : Room k callerA := (show Room 200 callerA from ⟨rfl, by decide, by decide⟩).mono h
theorem no_ex {P : Program} {w : World} {outer : List Env} {H : Hp} {s : Shared} {u : Value} {s' : Shared} (h : L2.CX P w outer H s (fun _ _ _ => False) u s') : False := by
  obtain ⟨_, _, _, _, _, _, _, _, _, _, _, _, h⟩ := h
  exact h
end Ev
end
section
set_option maxRecDepth 100000
set_option maxHeartbeats 1000000
/-! Ev15: reckoning with the clean language. -/
namespace Ev
section
variable {P : Pg} {call : CallT} {c : C} {s : Sto} {x : Sl} {l : List Sl} {n : Nat} {α β : Type}
@[simp] theorem bind_ok {a : α} {f : α → C → R β} : (R.ok a c).bind f = f a c := rfl
@[simp] theorem bind_st {f : α → C → R β} : (R.st : R α).bind f = .st := rfl
@[simp] theorem bind_ex {x : Xc} {f : α → C → R β} : (R.ex x c : R α).bind f = .ex x c := rfl
@[simp] theorem ofO_some {a : α} : ofO (some a) c = .ok a c := rfl
@[simp] theorem ofO_none : ofO (none : Option α) c = .st := rfl
@[simp] theorem getS_zero : getS (x :: l) 0 = x := rfl
@[simp] theorem getS_succ : getS (x :: l) (n + 1) = getS l n := rfl
@[simp] theorem setS_zero {y : Sl} : setS (x :: l) 0 y = y :: l := rfl
@[simp] theorem setS_succ {y : Sl} : setS (x :: l) (n + 1) y = x :: setS l n y := rfl
@[simp] theorem get_mk {ρ : List Sl} {i : Nat} : C.get ⟨ρ, s⟩ i = getS ρ i := rfl
@[simp] theorem set_mk {ρ : List Sl} {i : Nat} {y : Sl} : C.set ⟨ρ, s⟩ i y = ⟨setS ρ i y, s⟩ := rfl
@[simp] theorem wipe_nil : c.wipe [] = c := rfl
@[simp] theorem wipe_cons {i : Nat} {is : List Nat} : c.wipe (i :: is) = (c.wipe is).set i .no := rfl
@[simp] theorem rd_d {d : D} : (Vl.d d).rd = d := rfl
@[simp] theorem rd_tmp {d : D} : (Vl.tmp d).rd = d := rfl
@[simp] theorem rd_bor {d : D} {i : Nat} : (Vl.bor i d).rd = d := rfl
@[simp] theorem frz_d {d : D} : frz (.d d) c = c := rfl
@[simp] theorem frz_tmp {d : D} : frz (.tmp d) c = c := rfl
@[simp] theorem frz_bor {d : D} {i : Nat} : frz (.bor i d) c = c.set i (.dat d) := rfl
@[simp] theorem frzs_nil : frzs [] c = c := rfl
@[simp] theorem frzs_cons {v : Vl} {vs : List Vl} : frzs (v :: vs) c = frzs vs (frz v c) := rfl
@[simp] theorem vl_d {d : D} : (Rv.d d).vl = .d d := rfl
@[simp] theorem vl_own {d : D} : (Rv.own d).vl = .tmp d := rfl
@[simp] theorem rv_d {d : D} : (Vl.d d).rv c = .d d := rfl
@[simp] theorem rv_tmp {d : D} : (Vl.tmp d).rv c = .own d := rfl
@[simp] theorem rv_bor {d : D} {i : Nat} : (Vl.bor i d).rv c = match c.get i with
    | .own _ => .own d
    | _ => .d d := rfl
/-! expressions -/
@[simp] theorem ev_v {i : Nat} : evE P call (.v i) c = match c.get i with
  | .no => .st
  | .dat x => .ok (.d x) c
  | .own x => .ok (.bor i x) c := by (rw [evE.eq_def]) <;> rfl
@[simp] theorem ev_k {g : Nat} : evE P call (.k g) c = ofO ((P.cs g).map Vl.d) c := by (rw [evE.eq_def]) <;> rfl
@[simp] theorem ev_n : evE P call .n c = .ok (.d .non) c := by (rw [evE.eq_def]) <;> rfl
@[simp] theorem ev_b {b : Bool} : evE P call (.b b) c = .ok (.d (.bl b)) c := by (rw [evE.eq_def]) <;> rfl
@[simp] theorem ev_i {i : Int} : evE P call (.i i) c = .ok (.d (.int i)) c := by (rw [evE.eq_def]) <;> rfl
@[simp] theorem ev_s {z : List Nat} : evE P call (.s z) c = .ok (.d (.str z)) c := by (rw [evE.eq_def]) <;> rfl
@[simp] theorem ev_bin {o : BOp} {x y : E} : evE P call (.bin o x y) c = (evE P call x c).bind fun a c => (evE P call y c).bind fun b c => ofO (binD o a.rd b.rd) c := by (rw [evE.eq_def]) <;> rfl
@[simp] theorem ev_neg {x : E} : evE P call (.neg x) c = (evE P call x c).bind fun a c => match a.rd with
    | .int i => .ok (.d (.int (-i))) c
    | _ => .st := by (rw [evE.eq_def]) <;> rfl
@[simp] theorem ev_cmp {o : COp} {x y : E} : evE P call (.cmp o x y) c = (evE P call x c).bind fun a c => (evE P call y c).bind fun b c => ofO ((cmpD o a.rd b.rd).map fun t => .d (.bl t)) c := by (rw [evE.eq_def]) <;> rfl
@[simp] theorem ev_chain {o p : COp} {x y z : E} : evE P call (.chain o p x y z) c = (evE P call x c).bind fun a c => (evE P call y c).bind fun b c => (ofO (cmpD o a.rd b.rd) c).bind fun t c =>
      if t then (evE P call z c).bind fun d c => ofO ((cmpD p b.rd d.rd).map fun t => .d (.bl t)) c else .ok (.d (.bl false)) c := by (rw [evE.eq_def]) <;> rfl
@[simp] theorem ev_and {x y : E} : evE P call (.and x y) c = (evE P call x c).bind fun a c => match a.rd with
    | .bl true => evE P call y c
    | .bl false => .ok (.d (.bl false)) c
    | _ => .st := by (rw [evE.eq_def]) <;> rfl
@[simp] theorem ev_or {x y : E} : evE P call (.or x y) c = (evE P call x c).bind fun a c => match a.rd with
    | .bl true => .ok (.d (.bl true)) c
    | .bl false => evE P call y c
    | _ => .st := by (rw [evE.eq_def]) <;> rfl
@[simp] theorem ev_not {x : E} : evE P call (.not x) c = (evE P call x c).bind fun a c => match a.rd with
    | .bl t => .ok (.d (.bl !t)) c
    | _ => .st := by (rw [evE.eq_def]) <;> rfl
@[simp] theorem ev_ite {t x y : E} : evE P call (.ite t x y) c = (evT P call t c).bind fun b c => if b then evE P call x c else evE P call y c := by (rw [evE.eq_def]) <;> rfl
@[simp] theorem ev_call {g : Nat} {xs : List E} : evE P call (.call g xs) c = (evEs P call xs c).bind (doCall call g) := by (rw [evE.eq_def]) <;> rfl
@[simp] theorem ev_blt {f : Blt} {xs : List E} : evE P call (.blt f xs) c = (evEs P call xs c).bind (doBlt f) := by (rw [evE.eq_def]) <;> rfl
@[simp] theorem ev_isi {x : E} {t : Ty} : evE P call (.isi x t) c = (evE P call x c).bind (doIsi t) := by (rw [evE.eq_def]) <;> rfl
@[simp] theorem ev_ix {x y : E} : evE P call (.ix x y) c = (evE P call x c).bind fun a c => (evE P call y c).bind (doIx a) := by (rw [evE.eq_def]) <;> rfl
@[simp] theorem ev_sl {x : E} {lo hi : Option E} : evE P call (.sl x lo hi) c = (evE P call x c).bind fun a c => (evO P call lo c).bind fun l c => (evO P call hi c).bind fun h c => ofO (slD a.rd l h) c := by (rw [evE.eq_def]) <;> rfl
@[simp] theorem ev_rev {x : E} : evE P call (.rev x) c = (evE P call x c).bind fun a c => match a.rd with
    | .lst xs => .ok (.tmp (.lst xs.reverse)) c
    | .tup xs => .ok (.d (.tup xs.reverse)) c
    | _ => .st := by (rw [evE.eq_def]) <;> rfl
@[simp] theorem ev_tup {xs : List E} : evE P call (.tup xs) c = (evEs P call xs c).bind fun vs c => .ok (.d (.tup (vs.map Vl.rd))) (frzs vs c) := by (rw [evE.eq_def]) <;> rfl
@[simp] theorem ev_lst {xs : List E} : evE P call (.lst xs) c = (evEs P call xs c).bind fun vs c => .ok (.tmp (.lst (vs.map Vl.rd))) (frzs vs c) := by (rw [evE.eq_def]) <;> rfl
theorem ev_lc {e : E} {t : Tg} {vs : List Nat} {w : Wk} {xs cs : List E} : evE P call (.lc e t vs w xs cs) c = (evEs P call xs c).bind fun us c => (ofO (wkD w (us.map Vl.rd)) c).bind fun its c => doLc t vs (evTs P call cs) (evE P call e) its c := by (rw [evE.eq_def]) <;> rfl
@[simp] theorem evs_nil : evEs P call [] c = .ok [] c := by (rw [evEs.eq_def]) <;> rfl
@[simp] theorem evs_cons {e : E} {es : List E} : evEs P call (e :: es) c = (evE P call e c).bind fun v c => (evEs P call es c).bind fun vs c => .ok (v :: vs) c := by (rw [evEs.eq_def]) <;> rfl
@[simp] theorem evo_none : evO P call none c = .ok none c := by (rw [evO.eq_def]) <;> rfl
@[simp] theorem evo_some {e : E} : evO P call (some e) c = (evE P call e c).bind fun v c => match v.rd with
    | .int i => .ok (some i) c
    | _ => .st := by (rw [evO.eq_def]) <;> rfl
@[simp] theorem evt_and {x y : E} : evT P call (.and x y) c = (evT P call x c).bind fun b c => if b then evT P call y c else .ok false c := by (rw [evT.eq_def]) <;> rfl
@[simp] theorem evt_or {x y : E} : evT P call (.or x y) c = (evT P call x c).bind fun b c => if b then .ok true c else evT P call y c := by (rw [evT.eq_def]) <;> rfl
@[simp] theorem evt_not {x : E} : evT P call (.not x) c = (evT P call x c).bind fun b c => .ok (!b) c := by (rw [evT.eq_def]) <;> rfl
@[simp] theorem evt_cmp {o : COp} {x y : E} : evT P call (.cmp o x y) c = (evE P call x c).bind fun a c => (evE P call y c).bind fun b c => ofO (cmpD o a.rd b.rd) c := by (rw [evT.eq_def]) <;> rfl
@[simp] theorem evt_chain {o p : COp} {x y z : E} : evT P call (.chain o p x y z) c = (evE P call x c).bind fun a c => (evE P call y c).bind fun b c => (ofO (cmpD o a.rd b.rd) c).bind fun t c =>
      if t then (evE P call z c).bind fun d c => ofO (cmpD p b.rd d.rd) c else .ok false c := by (rw [evT.eq_def]) <;> rfl
@[simp] theorem evt_v {i : Nat} : evT P call (.v i) c = (evE P call (.v i) c).bind asB := by rw [evT.eq_def, evE.eq_def]
@[simp] theorem evt_call {g : Nat} {xs : List E} : evT P call (.call g xs) c = ((evEs P call xs c).bind (doCall call g)).bind asB := by (rw [evT.eq_def]) <;> rfl
@[simp] theorem evt_blt {f : Blt} {xs : List E} : evT P call (.blt f xs) c = ((evEs P call xs c).bind (doBlt f)).bind asB := by (rw [evT.eq_def]) <;> rfl
@[simp] theorem evt_isi {x : E} {t : Ty} : evT P call (.isi x t) c = ((evE P call x c).bind (doIsi t)).bind asB := by (rw [evT.eq_def]) <;> rfl
@[simp] theorem evt_ix {x y : E} : evT P call (.ix x y) c = ((evE P call x c).bind fun a c => (evE P call y c).bind (doIx a)).bind asB := by (rw [evT.eq_def]) <;> rfl
@[simp] theorem evts_nil : evTs P call [] c = .ok true c := by (rw [evTs.eq_def]) <;> rfl
@[simp] theorem evts_one {e : E} : evTs P call [e] c = evT P call e c := by (rw [evTs.eq_def]) <;> rfl
@[simp] theorem doBlt_eq {f : Blt} {vs : List Vl} : doBlt f vs c = ofO (bltD f (vs.map Vl.rd)) c := rfl
@[simp] theorem doIsi_eq {t : Ty} {a : Vl} : doIsi t a c = ofO ((isiD a.rd t).map fun b => .d (.bl b)) c := rfl
@[simp] theorem doIx_eq {a b : Vl} : doIx a b c = ofO ((ixD a.rd b.rd).map Vl.d) c := rfl
@[simp] theorem doCall_eq {g : Nat} {vs : List Vl} : doCall call g vs c = called vs c (call g (vs.map Vl.rd) c.sto) := rfl
@[simp] theorem asB_eq {v : Vl} : asB v c = ofO (truD v.rd) c := rfl
@[simp] theorem called_ok {vs : List Vl} {r : Rv} : called vs c (.ok r s) = .ok r.vl (if r.free then ⟨c.env, s⟩ else ⟨(frzs vs c).env, s⟩) := rfl
/-! statements -/
@[simp] theorem es_asg {t : Tg} {e : E} : evS P call (.asg t e) c = (evE P call e c).bind (lay t) := by (rw [evS.eq_def]) <;> rfl
@[simp] theorem es_app {i : Nat} {e : E} : evS P call (.app i e) c = match c.get i with
    | .own (.lst _) => (evE P call e c).bind (doApp i)
    | _ => .st := by (rw [evS.eq_def]) <;> rfl
@[simp] theorem es_pop {t : Tg} {i : Nat} : evS P call (.pop t i) c = match c.get i with
    | .own (.lst xs) => match xs.getLast? with
      | some x => lay t (.d x) (c.set i (.own (.lst xs.dropLast)))
      | none => .st
    | _ => .st := by (rw [evS.eq_def]) <;> rfl
@[simp] theorem es_setix {i : Nat} {x y : E} : evS P call (.setix i x y) c = (evE P call y c).bind fun v c => match c.get i with
    | .own (.lst _) => (evE P call x c).bind (doSet i v)
    | _ => .st := by (rw [evS.eq_def]) <;> rfl
@[simp] theorem es_ife {t : E} {a b : List S} : evS P call (.ife t a b) c = (evT P call t c).bind fun q c => if q then evSs P call a c else evSs P call b c := by (rw [evS.eq_def]) <;> rfl
@[simp] theorem es_forr {t : Tg} {w : Wk} {xs : List E} {b : List S} : evS P call (.forr t w xs b) c = (evEs P call xs c).bind (doFor t w b (evSs P call b)) := by (rw [evS.eq_def]) <;> rfl
@[simp] theorem es_ret {e : E} : evS P call (.ret e) c = (evE P call e c).bind fun v c => .ok (.rt (v.rv c)) c := by (rw [evS.eq_def]) <;> rfl
@[simp] theorem es_retn : evS P call .retn c = .ok (.rt (.d .non)) c := by (rw [evS.eq_def]) <;> rfl
@[simp] theorem es_exp {e : E} : evS P call (.exp e) c = (evE P call e c).bind fun _ c => .ok .nx c := by (rw [evS.eq_def]) <;> rfl
@[simp] theorem es_pass : evS P call .pass c = .ok .nx c := by (rw [evS.eq_def]) <;> rfl
@[simp] theorem es_brk : evS P call .brk c = .ok .bk c := by (rw [evS.eq_def]) <;> rfl
@[simp] theorem es_cnt : evS P call .cnt c = .ok .ct c := by (rw [evS.eq_def]) <;> rfl
@[simp] theorem ess_nil : evSs P call [] c = .ok .nx c := by (rw [evSs.eq_def]) <;> rfl
@[simp] theorem ess_cons {a : S} {r : List S} : evSs P call (a :: r) c = (evS P call a c).bind fun f c => nxt f c (evSs P call r) := by (rw [evSs.eq_def]) <;> rfl
@[simp] theorem nxt_nx {k : C → R Fl} : nxt .nx c k = k c := rfl
@[simp] theorem nxt_rt {k : C → R Fl} {v : Rv} : nxt (.rt v) c k = .ok (.rt v) c := rfl
@[simp] theorem nxt_bk {k : C → R Fl} : nxt .bk c k = .ok .bk c := rfl
@[simp] theorem nxt_ct {k : C → R Fl} : nxt .ct c k = .ok .ct c := rfl
@[simp] theorem lay_d {i : Nat} {d : D} : lay (.nm i) (.d d) c = .ok .nx (c.set i (.dat d)) := rfl
@[simp] theorem lay_tmp {i : Nat} {d : D} : lay (.nm i) (.tmp d) c = .ok .nx (c.set i (.own d)) := rfl
@[simp] theorem lay_bor {i j : Nat} {d : D} : lay (.nm i) (.bor j d) c = .ok .nx ((c.set j (.dat d)).set i (.dat d)) := rfl
@[simp] theorem endR_nx : endR (.ok .nx c) = .ok (.d .non) c.sto := rfl
@[simp] theorem endR_rt {v : Rv} : endR (.ok (.rt v) c) = .ok v c.sto := rfl
/-- a statement that goes on -/
theorem step {a : S} {r : List S} {c' : C} (h : evS P call a c = .ok .nx c') : evSs P call (a :: r) c = evSs P call r c' := by rw [ess_cons, h]; rfl
/-- a statement that gives an answer -/
theorem stop {a : S} {r : List S} {c' : C} {v : Rv} (h : evS P call a c = .ok (.rt v) c') : evSs P call (a :: r) c = .ok (.rt v) c' := by rw [ess_cons, h]; rfl
end
/-- a call -/
theorem call_eq {P : Pg} {n g : Nat} {f : Fn} {ds : List D} {s : Sto} (h : P.fns g = some f) (hl : ds.length = f.np) : callN P (n + 1) g ds s = endR (evSs P (callN P n) f.body ⟨startL f.nl ds, s⟩) := by
  show (match P.fns g with
    | some f => runFn P (callN P n) f ds s
    | none => match P.xt g ds with
      | some v => Rc.ok v s
      | none => .st) = _
  rw [h]
  show (if ds.length = f.np then _ else _) = _
  rw [if_pos hl]
/-! ### loops -/
theorem lcL_map {f : D → C → R (Option D)} {c : C} {g : D → Option D} : ∀ (xs acc : List D), acc.length + xs.length < line + 1 → (∀ x ∈ xs, f x c = .ok (g x) c) → lcL f xs acc c = .ok (acc ++ xs.filterMap g) c
  | [], acc, hl, h => by simp [lcL]
  | x :: xs, acc, hl, h => by
    have h1 := h x List.mem_cons_self
    have h2 := fun y hy => h y (List.mem_cons_of_mem _ hy)
    unfold lcL
    rw [h1, bind_ok]
    simp only [List.length_cons] at hl
    cases e : g x with
    | none =>
      simp only [List.filterMap_cons, e]
      exact lcL_map xs acc (by omega) h2
    | some y =>
      simp only [List.filterMap_cons, e]
      rw [if_pos (by omega), lcL_map xs (acc ++ [y]) (by simp; omega) h2]
      simp
/-- a comprehension whose parts leave all else as it is -/
theorem doLc_fm {t : Tg} {vs : List Nat} {rt : C → R Bool} {re : C → R Vl} {its : List D} {c : C} (g : D → Option D) (hl : its.length ≤ line) (hv : (vs.any fun i => isOwn (c.get i)) = false) (h : ∀ x ∈ its, lcF t vs rt re x (c.wipe vs) = .ok (g x) (c.wipe vs)) :
    doLc t vs rt re its c = .ok (.tmp (.lst (its.filterMap g))) (c.wipe vs) := by
  unfold doLc
  rw [hv, lcL_map (g := g) its [] (by simp only [List.length_nil]; omega) h]
  simp
theorem doLc_map {t : Tg} {vs : List Nat} {rt : C → R Bool} {re : C → R Vl} {its : List D} {c : C} (g : D → D) (hl : its.length ≤ line) (hv : (vs.any fun i => isOwn (c.get i)) = false) (h : ∀ x ∈ its, lcF t vs rt re x (c.wipe vs) = .ok (some (g x)) (c.wipe vs)) :
    doLc t vs rt re its c = .ok (.tmp (.lst (its.map g))) (c.wipe vs) := by
  rw [doLc_fm (fun x => some (g x)) hl hv h]
  simp

/-! operations by kind -/
@[simp] theorem add_i {i j : Int} : binD .add (.int i) (.int j) = some (.d (.int (i + j))) := rfl
@[simp] theorem add_s {x y : List Nat} : binD .add (.str x) (.str y) = if x.length + y.length ≤ line then some (.d (.str (x ++ y))) else none := rfl
@[simp] theorem add_t {x y : List D} : binD .add (.tup x) (.tup y) = if x.length + y.length ≤ line then some (.d (.tup (x ++ y))) else none := rfl
@[simp] theorem add_l {x y : List D} : binD .add (.lst x) (.lst y) = if x.length + y.length ≤ line then some (.tmp (.lst (x ++ y))) else none := rfl
@[simp] theorem sub_i {i j : Int} : binD .sub (.int i) (.int j) = some (.d (.int (i - j))) := rfl
@[simp] theorem mul_i {i j : Int} : binD .mul (.int i) (.int j) = if okMul i j then some (.d (.int (i * j))) else none := rfl
@[simp] theorem mul_s {x : List Nat} {j : Int} : binD .mul (.str x) (.int j) = if decide (0 ≤ j) && decide (j ≤ 1000) && decide (x.length ≤ 1000) then some (.d (.str (List.replicate j.toNat x).flatten)) else none := rfl
@[simp] theorem mul_t {x : List D} {j : Int} : binD .mul (.tup x) (.int j) = if (!x.isEmpty && decide (2 ≤ j) && decide (j ≤ 1000) && decide (x.length ≤ 1000)) = true then some (.d (.tup (List.replicate j.toNat x).flatten)) else none := rfl
@[simp] theorem fdiv_i {i j : Int} : binD .fdiv (.int i) (.int j) = if decide (0 < j) && decide (j < 1073741824) then some (.d (.int (i / j))) else none := rfl
@[simp] theorem mod_i {i j : Int} : binD .mod (.int i) (.int j) = if 0 < j then some (.d (.int (i % j))) else none := rfl
@[simp] theorem pow_i {i j : Int} : binD .pow (.int i) (.int j) = if decide (0 ≤ j) && decide (j ≤ 1000000) && decide (i.natAbs < 2 ^ 64) then some (.d (.int (i ^ j.toNat))) else none := rfl
@[simp] theorem band_i {i j : Int} : binD .band (.int i) (.int j) = if decide (0 ≤ i) && decide (0 ≤ j) then some (.d (.int ((i.toNat &&& j.toNat : Nat) : Int))) else none := rfl
@[simp] theorem c_eq {x y : D} : cmpD .eq x y = if shp x && shp y then some (deq x y) else none := rfl
@[simp] theorem c_ne {x y : D} : cmpD .ne x y = if shp x && shp y then some (!deq x y) else none := rfl
@[simp] theorem c_lt {x y : D} : cmpD .lt x y = ltD x y := rfl
@[simp] theorem c_gt {i j : Int} : cmpD .gt (.int i) (.int j) = some (decide (j < i)) := rfl
@[simp] theorem c_gtt {xs : List D} {y : D} : cmpD .gt (.tup xs) y = ltD y (.tup xs) := rfl
@[simp] theorem c_le {x y : D} : cmpD .le x y = (ltD y x).map (!·) := by
  cases x <;> cases y <;> rfl
@[simp] theorem c_ge {i j : Int} : cmpD .ge (.int i) (.int j) = some (!decide (i < j)) := rfl
@[simp] theorem c_get {xs : List D} {y : D} : cmpD .ge (.tup xs) y = (ltD (.tup xs) y).map (!·) := rfl
@[simp] theorem c_in {x y : D} : cmpD .isin x y = inD x y := rfl
@[simp] theorem c_nin {x y : D} : cmpD .nin x y = (inD x y).map (!·) := rfl
@[simp] theorem c_is {x y : D} : cmpD .is x y = isD x y := rfl
@[simp] theorem c_isnot {x y : D} : cmpD .isnot x y = (isD x y).map (!·) := rfl
@[simp] theorem lt_i {i j : Int} : ltD (.int i) (.int j) = some (decide (i < j)) := rfl
@[simp] theorem lt_s {i j : List Nat} : ltD (.str i) (.str j) = some (strLt i j) := rfl
@[simp] theorem is_bb {a b : Bool} : isD (.bl a) (.bl b) = some (a == b) := rfl
@[simp] theorem is_nn : isD .non .non = some true := rfl
@[simp] theorem is_in {i : Int} : isD (.int i) .non = some false := rfl
@[simp] theorem is_sn {i : List Nat} : isD (.str i) .non = some false := rfl
@[simp] theorem is_tn {i : List D} : isD (.tup i) .non = some false := rfl
@[simp] theorem is_ib {i : Int} {b : Bool} : isD (.int i) (.bl b) = some false := rfl
@[simp] theorem is_sb {i : List Nat} {b : Bool} : isD (.str i) (.bl b) = some false := rfl
@[simp] theorem is_tb {i : List D} {b : Bool} : isD (.tup i) (.bl b) = some false := rfl
@[simp] theorem is_lb {i : List D} {b : Bool} : isD (.lst i) (.bl b) = some false := rfl
@[simp] theorem is_nb {b : Bool} : isD .non (.bl b) = some false := rfl
@[simp] theorem is_bn {i : Bool} : isD (.bl i) .non = some false := rfl
@[simp] theorem tru_b {b : Bool} : truD (.bl b) = some b := rfl
@[simp] theorem tru_i {i : Int} : truD (.int i) = some (i != 0) := rfl
@[simp] theorem tru_t {xs : List D} : truD (.tup xs) = some (!xs.isEmpty) := rfl
@[simp] theorem tru_l {xs : List D} : truD (.lst xs) = some (!xs.isEmpty) := rfl
@[simp] theorem tru_n : truD .non = some false := rfl
@[simp] theorem isi_i {i : Int} {t : Ty} : isiD (.int i) t = some (decide (t = .int)) := by cases t <;> rfl
@[simp] theorem isi_s {i : List Nat} {t : Ty} : isiD (.str i) t = some (decide (t = .str)) := by cases t <;> rfl
@[simp] theorem isi_t {i : List D} {t : Ty} : isiD (.tup i) t = some (decide (t = .tup)) := by cases t <;> rfl
@[simp] theorem isi_l {i : List D} {t : Ty} : isiD (.lst i) t = some (decide (t = .lst)) := by cases t <;> rfl
@[simp] theorem isi_n {t : Ty} : isiD .non t = some false := by cases t <;> rfl
@[simp] theorem isi_b {b : Bool} {t : Ty} : isiD (.bl b) t = some (decide (t = .bool) || decide (t = .int)) := by cases t <;> rfl
@[simp] theorem blt_one {f : Blt} {x : D} : bltD f [x] = blt1 f x := rfl
@[simp] theorem blt_two {f : Blt} {x y : D} : bltD f [x, y] = blt2 f x y := rfl
@[simp] theorem len_s {x : List Nat} : blt1 .len (.str x) = if x.length ≤ line then some (.d (.int x.length)) else none := rfl
@[simp] theorem len_t {x : List D} : blt1 .len (.tup x) = some (.d (.int x.length)) := rfl
@[simp] theorem len_l {x : List D} : blt1 .len (.lst x) = some (.d (.int x.length)) := rfl
@[simp] theorem int_i {i : Int} : blt1 .int (.int i) = some (.d (.int i)) := rfl
@[simp] theorem int_b {i : Bool} : blt1 .int (.bl i) = some (.d (.int (if i then 1 else 0))) := rfl
@[simp] theorem ord_s {c : Nat} : blt1 .ord (.str [c]) = some (.d (.int c)) := rfl
@[simp] theorem tuple_t {x : List D} : blt1 .tuple (.tup x) = some (.d (.tup x)) := rfl
@[simp] theorem tuple_l {x : List D} : blt1 .tuple (.lst x) = some (.d (.tup x)) := rfl
@[simp] theorem list_t {x : List D} : blt1 .list (.tup x) = some (.tmp (.lst x)) := rfl
@[simp] theorem list_l {x : List D} : blt1 .list (.lst x) = some (.tmp (.lst x)) := rfl
@[simp] theorem all_l {x : List D} : blt1 .all (.lst x) = (bools? x).map fun bs => .d (.bl (bs.all id)) := rfl
@[simp] theorem any_l {x : List D} : blt1 .any (.lst x) = (bools? x).map fun bs => .d (.bl (bs.any id)) := rfl
@[simp] theorem sum_l {x : List D} : blt1 .sum (.lst x) = (ints? x).map fun is => .d (.int is.sum) := rfl
@[simp] theorem min_2 {i j : Int} : blt2 .min (.int i) (.int j) = some (.d (.int (if j < i then j else i))) := rfl
@[simp] theorem max_2 {i j : Int} : blt2 .max (.int i) (.int j) = some (.d (.int (if j > i then j else i))) := rfl
@[simp] theorem ix_l {xs : List D} {i : Int} : ixD (.lst xs) (.int i) = atI xs i := rfl
@[simp] theorem ix_t {xs : List D} {i : Int} : ixD (.tup xs) (.int i) = atI xs i := rfl
@[simp] theorem ix_s {z : List Nat} {i : Int} : ixD (.str z) (.int i) = if z.length ≤ line then (atI z i).map fun c => .str [c] else none := rfl
@[simp] theorem sl_l {xs : List D} {lo hi : Option Int} : slD (.lst xs) lo hi = some (.tmp (.lst (cut xs lo hi))) := rfl
@[simp] theorem sl_t {xs : List D} {lo hi : Option Int} : slD (.tup xs) lo hi = some (.d (.tup (cut xs lo hi))) := rfl
@[simp] theorem sl_s {z : List Nat} {lo hi : Option Int} : slD (.str z) lo hi = if z.length ≤ line then some (.d (.str (cut z lo hi))) else none := rfl
@[simp] theorem wk_l {xs : List D} : wkD .seq [.lst xs] = some xs := rfl
@[simp] theorem wk_t {xs : List D} : wkD .seq [.tup xs] = some xs := rfl
@[simp] theorem wk_s {z : List Nat} : wkD .seq [.str z] = if z.length ≤ line then some (z.map fun c => .str [c]) else none := rfl
@[simp] theorem wk_r1 {j : Int} : wkD .rng1 [.int j] = if in62 j then some (rngL 0 j.toNat) else none := rfl
@[simp] theorem wk_r2 {i j : Int} : wkD .rng2 [.int i, .int j] = if in62 i && in62 j then some (rngL i (j - i).toNat) else none := rfl
@[simp] theorem wk_el {xs : List D} : wkD .enum [.lst xs] = some (enumF 0 xs) := rfl
@[simp] theorem wk_et {xs : List D} : wkD .enum [.tup xs] = some (enumF 0 xs) := rfl
@[simp] theorem wk_zl {xs ys : List D} : wkD .zip [.lst xs, .lst ys] = some (zipT xs ys) := rfl
@[simp] theorem wk_zt {xs ys : List D} : wkD .zip [.tup xs, .tup ys] = some (zipT xs ys) := rfl
@[simp] theorem tgt_nm {i : Nat} {d : D} {c : C} : tgt (.nm i) d c = some (c.set i (.dat d)) := rfl
@[simp] theorem keepsV_nil {b : List S} : keepsV b [] = true := rfl
@[simp] theorem keepsV_d {b : List S} {d : D} {r : List Vl} : keepsV b (.d d :: r) = keepsV b r := rfl
@[simp] theorem keepsV_tmp {b : List S} {d : D} {r : List Vl} : keepsV b (.tmp d :: r) = keepsV b r := rfl
@[simp] theorem keepsV_bor {b : List S} {i : Nat} {d : D} {r : List Vl} : keepsV b (.bor i d :: r) = (keepsSs i b && keepsV b r) := rfl
end Ev
end
section
set_option maxRecDepth 100000
set_option maxHeartbeats 1000000
/-! Pv1: the clean language read by values alone: no names' own lists, no store. -/
namespace Ev
inductive Q (α : Type) where
  | st | ok (a : α) | ex (x : Xc)
def Q.bind {α β : Type} : Q α → (α → Q β) → Q β
  | .st, _ => .st
  | .ok a, f => f a
  | .ex x, _ => .ex x
def Q.nox {α : Type} : Q α → Q α
  | .ex _ => .st
  | r => r
/-- a method of a TreeSource (class 1) may raise -/
def mexQ {α : Type} : Nat → Q α → Q α
  | 1, r => r
  | _, r => r.nox
def q1 {α : Type} : Option α → Q α
  | some a => .ok a
  | none => .st
def gD : List D → Nat → D
  | [], _ => .non
  | x :: _, 0 => x
  | _ :: r, n + 1 => gD r n
def sD : List D → Nat → D → List D
  | [], _, _ => []
  | _ :: r, 0, x => x :: r
  | y :: r, n + 1, x => y :: sD r n x
abbrev CallQ := Nat → List D → Q D
def bD : D → Option Bool
  | .bl b => some b
  | _ => none
def iD : D → Option Int
  | .int i => some i
  | _ => none
def negD : D → Option D
  | .int i => some (.int (-i))
  | _ => none
def revD : D → Option D
  | .lst xs => some (.lst xs.reverse)
  | .tup xs => some (.tup xs.reverse)
  | _ => none
def islD : D → Option D
  | .lst xs => some (.lst xs)
  | _ => none
def fldD (g f : Nat) : D → Option D
  | .obj g' ds => if g' = g then ds[f]? else none
  | .exn g' ds => if 100 + g' = g then ds[f]? else none
  | _ => none
def isObjD (g : Nat) : D → Bool
  | .obj g' _ => g' == g
  | _ => false
def unp (n : Nat) : D → Option (List D)
  | .tup xs => if n = xs.length then some xs else none
  | _ => none
def appD (x : D) : D → Option D
  | .lst xs => if xs.length < line then some (.lst (xs ++ [x])) else none
  | _ => none
def lastD : D → Option D
  | .lst xs => xs.getLast?
  | _ => none
def restD : D → D
  | .lst xs => .lst xs.dropLast
  | d => d
def putD (v j : D) : D → Option D
  | .lst xs => match j with
    | .int k => (ixN xs.length k).map fun n => .lst (xs.set n v)
    | _ => none
  | _ => none
def rdo (o : Option Vl) : Option D := o.map Vl.rd
def setTp : List Nat → Nat → List D → List D → List D
  | [], _, _, ρ => ρ
  | i :: is, j, ds, ρ => setTp is (j + 1) ds (sD ρ i (gD ds j))
def tgQ {β : Type} (t : Tg) (x : D) (ρ : List D) (k : List D → Q β) : Q β := match t with
  | .nm i => k (sD ρ i x)
  | .tp is => (q1 (unp is.length x)).bind fun ds => k (setTp is 0 ds ρ)
def consO : Option D → List D → List D
  | some y, ys => y :: ys
  | none, ys => ys
def lcQ (f : D → Q (Option D)) : List D → Q (List D)
  | [] => .ok []
  | x :: xs => (f x).nox.bind fun o => (lcQ f xs).bind fun ys => .ok (consO o ys)
/-- an instance, or a refusal -/
def newQ (g : Nat) (vs : List D) : Q D := match newE g vs with
  | some x => .ex x
  | none => (q1 (newD g vs)).bind fun ds => .ok (.obj g ds)
/-- a try's body: one expression -/
def bodyE : List S → Option E
  | [.asg _ e] => some e
  | [.exp e] => some e
  | [.ret e] => some e
  | _ => none
def bodyQ {β : Type} (b : List S) (v : D) (ρ : List D) (kn : List D → Q β) (kr : D → Q β) : Q β := match b with
  | [.asg t _] => tgQ t v ρ kn
  | [.exp _] => kn ρ
  | [.ret _] => kr v
  | _ => .st
def bindQ (i : Option Nat) (x : Xc) (ρ : List D) : List D := match i with
  | some i => sD ρ i (.exn x.c x.fs)
  | none => ρ
def unQ (i : Option Nat) (ρ : List D) : List D := match i with
  | some i => sD ρ i .non
  | none => ρ
def raiQ {β : Type} (g : Nat) : Option (List D) → Q β
  | some fs => .ex ⟨g, fs⟩
  | none => .st
def Q.try {α β : Type} (h : Nat) (hnd : Xc → Q β) (k : α → Q β) : Q α → Q β
  | .st => .st
  | .ok v => k v
  | .ex x => if x.c = h then hnd x else .ex x
def optQ (o : Option E) (f : E → Q D) : Q D := match o with
  | some e => f e
  | none => .st
section
variable (P : Pg) (call : CallQ)
mutual
def pE : E → List D → Q D
  | .v i, ρ => .ok (gD ρ i)
  | .k g, _ => q1 (P.cs g)
  | .n, _ => .ok .non
  | .b x, _ => .ok (.bl x)
  | .i x, _ => .ok (.int x)
  | .s x, _ => .ok (.str x)
  | .bin o x y, ρ => (pE x ρ).bind fun a => (pE y ρ).bind fun b => q1 (rdo (binD o a b))
  | .neg x, ρ => (pE x ρ).bind fun a => q1 (negD a)
  | .cmp o x y, ρ => (pE x ρ).bind fun a => (pE y ρ).bind fun b => (q1 (cmpD o a b)).bind fun t => .ok (.bl t)
  | .chain o p x y z, ρ => (pE x ρ).bind fun a => (pE y ρ).bind fun b => (q1 (cmpD o a b)).bind fun t =>
      if t then (pE z ρ).bind fun d => (q1 (cmpD p b d)).bind fun t => .ok (.bl t) else .ok (.bl false)
  | .and x y, ρ => (pE x ρ).bind fun a => (q1 (bD a)).bind fun t => if t then pE y ρ else .ok (.bl false)
  | .or x y, ρ => (pE x ρ).bind fun a => (q1 (bD a)).bind fun t => if t then .ok (.bl true) else pE y ρ
  | .not x, ρ => (pE x ρ).bind fun a => (q1 (bD a)).bind fun t => .ok (.bl (!t))
  | .ite t x y, ρ => (pT t ρ).bind fun b => if b then pE x ρ else pE y ρ
  | .call g xs, ρ => (pEs xs ρ).bind fun vs => call g vs
  | .meth g' g x xs, ρ => (pE x ρ).bind fun a => if isObjD g' a then (pEs xs ρ).bind fun vs => mexQ g' (call g (a :: vs)) else .st
  | .new g xs, ρ => (pEs xs ρ).bind fun vs => newQ g vs
  | .blt f xs, ρ => (pEs xs ρ).bind fun vs => q1 (rdo (bltD f vs))
  | .isi x t, ρ => (pE x ρ).bind fun a => (q1 (isiD a t)).bind fun b => .ok (.bl b)
  | .bm _ _ _, _ => .st
  | .fld x g f, ρ => (pE x ρ).bind fun a => q1 (fldD g f a)
  | .ix x y, ρ => (pE x ρ).bind fun a => (pE y ρ).bind fun b => q1 (ixD a b)
  | .sl x lo hi, ρ => (pE x ρ).bind fun a => (pO lo ρ).bind fun l => (pO hi ρ).bind fun h => q1 (rdo (slD a l h))
  | .rev x, ρ => (pE x ρ).bind fun a => q1 (revD a)
  | .tup xs, ρ => (pEs xs ρ).bind fun vs => .ok (.tup vs)
  | .lst xs, ρ => (pEs xs ρ).bind fun vs => .ok (.lst vs)
  | .dsp ks xs, ρ => (pEs xs ρ).bind fun vs => .ok (.dct (ks.map .str) vs)
  | .isl x, ρ => (pE x ρ).bind fun a => q1 (islD a)
  | .orv x y, ρ => (pE x ρ).bind fun a => (q1 (truD a)).bind fun t => if t then .ok a else pE y ρ
  | .lc e t vs w xs cs, ρ => (pEs xs ρ).bind fun us => (q1 (wkD w us)).bind fun its => if its.length ≤ line then
      (lcQ (fun x => tgQ t x ρ fun ρ => (pTs cs ρ).bind fun b => if b then (pE e ρ).bind fun y => .ok (some y) else .ok none) its).bind fun ys => .ok (.lst ys) else .st
termination_by structural x => x
def pEs : List E → List D → Q (List D)
  | [], _ => .ok []
  | e :: es, ρ => (pE e ρ).bind fun v => (pEs es ρ).bind fun vs => .ok (v :: vs)
termination_by structural x => x
def pO : Option E → List D → Q (Option Int)
  | none, _ => .ok none
  | some e, ρ => (pE e ρ).bind fun v => (q1 (iD v)).bind fun i => .ok (some i)
termination_by structural x => x
def pT : E → List D → Q Bool
  | .and x y, ρ => (pT x ρ).bind fun b => if b then pT y ρ else .ok false
  | .or x y, ρ => (pT x ρ).bind fun b => if b then .ok true else pT y ρ
  | .not x, ρ => (pT x ρ).bind fun b => .ok (!b)
  | .cmp o x y, ρ => (pE x ρ).bind fun a => (pE y ρ).bind fun b => q1 (cmpD o a b)
  | .chain o p x y z, ρ => (pE x ρ).bind fun a => (pE y ρ).bind fun b => (q1 (cmpD o a b)).bind fun t =>
      if t then (pE z ρ).bind fun d => q1 (cmpD p b d) else .ok false
  | .v i, ρ => q1 (truD (gD ρ i))
  | .call g xs, ρ => ((pEs xs ρ).bind fun vs => call g vs).bind fun a => q1 (truD a)
  | .blt f xs, ρ => ((pEs xs ρ).bind fun vs => q1 (rdo (bltD f vs))).bind fun a => q1 (truD a)
  | .isi x t, ρ => (pE x ρ).bind fun a => q1 (isiD a t)
  | .ix x y, ρ => ((pE x ρ).bind fun a => (pE y ρ).bind fun b => q1 (ixD a b)).bind fun a => q1 (truD a)
  | _, _ => .st
termination_by structural x => x
def pTs : List E → List D → Q Bool
  | [], _ => .ok true
  | [e], ρ => pT e ρ
  | _, _ => .st
termination_by structural x => x
end
/-- a for loop: what follows it, the items, the names -/
def pfor {β : Type} (t : Tg) (body : List D → (kn kb kc : List D → Q β) → Q β) (k : List D → Q β) : List D → List D → Q β
  | [], ρ => k ρ
  | x :: xs, ρ => tgQ t x ρ fun ρ => body ρ (fun ρ => pfor t body k xs ρ) k (fun ρ => pfor t body k xs ρ)
def pwhl {β : Type} (test : List D → Q Bool) (body : List D → (kn kb kc : List D → Q β) → Q β) (k : List D → Q β) : Nat → List D → Q β
  | 0, _ => .st
  | n + 1, ρ => (test ρ).bind fun b => if b then body ρ (fun ρ => pwhl test body k n ρ) k (fun ρ => pwhl test body k n ρ) else k ρ
variable (fl : Nat)
mutual
/-- a statement, by what comes behind it: goes on, break, continue, return -/
def cS : S → (β : Type) → List D → (List D → Q β) → (List D → Q β) → (List D → Q β) → (D → Q β) → Q β
  | .asg t e, _, ρ, kn, _, _, _ => (pE P call e ρ).bind fun x => tgQ t x ρ kn
  | .app i e, _, ρ, kn, _, _, _ => (q1 (islD (gD ρ i))).bind fun l => (pE P call e ρ).bind fun x => (q1 (appD x l)).bind fun l => kn (sD ρ i l)
  | .ext _ _, _, _, _, _, _, _ => .st
  | .pop t i, _, ρ, kn, _, _, _ => (q1 (lastD (gD ρ i))).bind fun x => tgQ t x (sD ρ i (restD (gD ρ i))) kn
  | .setix i x y, _, ρ, kn, _, _, _ => (pE P call y ρ).bind fun v => (q1 (islD (gD ρ i))).bind fun l => (pE P call x ρ).bind fun j => (q1 (putD v j l)).bind fun l => kn (sD ρ i l)
  | .ife c a b, β, ρ, kn, kb, kc, kr => (pT P call c ρ).bind fun q => if q then cSs a β ρ kn kb kc kr else cSs b β ρ kn kb kc kr
  | .forr t w xs b, β, ρ, kn, _, _, kr => (pEs P call xs ρ).bind fun us => (q1 (wkD w us)).bind fun its => pfor t (fun ρ kn kb kc => cSs b β ρ kn kb kc kr) kn its ρ
  | .whl c b, β, ρ, kn, _, _, kr => pwhl (fun ρ => pT P call c ρ) (fun ρ kn kb kc => cSs b β ρ kn kb kc kr) kn fl ρ
  | .ret e, _, ρ, _, _, _, kr => (pE P call e ρ).bind kr
  | .retn, _, _, _, _, _, kr => kr .non
  | .exp e, _, ρ, kn, _, _, _ => (pE P call e ρ).bind fun _ => kn ρ
  | .pass, _, ρ, kn, _, _, _ => kn ρ
  | .brk, _, ρ, _, kb, _, _ => kb ρ
  | .cnt, _, ρ, _, _, kc, _ => kc ρ
  | .nev, _, _, _, _, _, _ => .st
  | .rai g xs, _, ρ, _, _, _, _ => (pEs P call xs ρ).bind fun vs => raiQ g (newX g vs)
  | .tri b h i r, β, ρ, kn, kb, kc, kr => Q.try h (fun x => cSs r β (bindQ i x ρ) (fun ρ => kn (unQ i ρ)) (fun ρ => kb (unQ i ρ)) (fun ρ => kc (unQ i ρ)) kr) (fun v => bodyQ b v ρ kn kr) (optQ (bodyE b) fun e => pE P call e ρ)
termination_by structural x => x
def cSs : List S → (β : Type) → List D → (List D → Q β) → (List D → Q β) → (List D → Q β) → (D → Q β) → Q β
  | [], _, ρ, kn, _, _, _ => kn ρ
  | s :: r, β, ρ, kn, kb, kc, kr => cS s β ρ (fun ρ => cSs r β ρ kn kb kc kr) kb kc kr
termination_by structural x => x
end
end
/-- a text with what is known of its functions: read by Ev1 alone; their lists are their own; what they give bears no list of the caller's -/
structure Px where
  P : Pg
  old : Nat → Bool
  ro : Nat → Bool
  kp : Nat → Bool
def isL : D → Bool
  | .lst _ => true
  | _ => false
/-- free of the caller's lists -/
def frD (ro : Bool) (x : D) : Bool := flat x || (ro && match x with
  | .lst xs => flatA xs
  | _ => false)
def oldQ (ro : Bool) : Rc → Q D
  | .ok (.own (.lst x)) [] => .ok (.lst x)
  | .ok (.d x) [] => if ro && isL x then .st else .ok x
  | .ex x [] => .ex x
  | _ => .st
def chk (kp ro : Bool) : Q D → Q D
  | .ok x => if kp then (if frD ro x then .ok x else .st) else .ok x
  | r => r
def pcF (X : Px) (call : CallQ) (g : Nat) (f : Fn) (ds : List D) : Q D :=
  if ds.length = f.np then chk (X.kp g) (X.ro g) (cSs X.P call fuel f.body D (ds ++ List.replicate (f.nl - f.np) .non) (fun _ => if X.ro g then .st else .ok .non) (fun _ => .st) (fun _ => .st) .ok) else .st
def pc (X : Px) : Nat → CallQ
  | 0, _, _ => .st
  | n + 1, g, ds => if X.old g then chk (X.kp g) (X.ro g) (oldQ (X.ro g) (callN X.P (n + 1) g ds [])) else match X.P.fns g with
    | none => .st
    | some f => pcF X (pc X n) g f ds
/-! ### rules -/
section
variable {α β : Type}
@[simp] theorem Q.bind_ok {a : α} {f : α → Q β} : (Q.ok a).bind f = f a := id rfl
@[simp] theorem Q.bind_st {f : α → Q β} : (Q.st : Q α).bind f = .st := id rfl
@[simp] theorem Q.bind_ex {x : Xc} {f : α → Q β} : (Q.ex x : Q α).bind f = .ex x := id rfl
@[simp] theorem Q.nox_ok {a : α} : (Q.ok a).nox = .ok a := id rfl
@[simp] theorem Q.try_ok {h : Nat} {hnd : Xc → Q β} {k : α → Q β} {a : α} : (Q.ok a).try h hnd k = k a := id rfl
@[simp] theorem Q.try_ex {h : Nat} {hnd : Xc → Q β} {k : α → Q β} {x : Xc} : (Q.ex x).try h hnd k = if x.c = h then hnd x else .ex x := id rfl
@[simp] theorem q1_some {a : α} : q1 (some a) = .ok a := id rfl
@[simp] theorem q1_none : q1 (none : Option α) = .st := id rfl
@[simp] theorem gD_0 {x : D} {l : List D} : gD (x :: l) 0 = x := id rfl
@[simp] theorem gD_s {x : D} {l : List D} {n : Nat} : gD (x :: l) (n + 1) = gD l n := id rfl
@[simp] theorem sD_0 {x y : D} {l : List D} : sD (x :: l) 0 y = y :: l := id rfl
@[simp] theorem sD_s {x y : D} {l : List D} {n : Nat} : sD (x :: l) (n + 1) y = x :: sD l n y := id rfl
@[simp] theorem bD_b {b : Bool} : bD (.bl b) = some b := id rfl
@[simp] theorem iD_i {i : Int} : iD (.int i) = some i := id rfl
@[simp] theorem negD_i {i : Int} : negD (.int i) = some (.int (-i)) := id rfl
@[simp] theorem revD_l {l : List D} : revD (.lst l) = some (.lst l.reverse) := id rfl
@[simp] theorem revD_t {l : List D} : revD (.tup l) = some (.tup l.reverse) := id rfl
@[simp] theorem islD_l {l : List D} : islD (.lst l) = some (.lst l) := id rfl
@[simp] theorem fldD_o {g f : Nat} {l : List D} : fldD g f (.obj g l) = l[f]? := if_pos rfl
@[simp] theorem fldD_x {g f : Nat} {l : List D} : fldD (100 + g) f (.exn g l) = l[f]? := if_pos rfl
@[simp] theorem isObj_o {g : Nat} {l : List D} : isObjD g (.obj g l) = true := by simp [isObjD]
@[simp] theorem unp_2 {a b : D} : unp 2 (.tup [a, b]) = some [a, b] := id rfl
@[simp] theorem unp_3 {a b c : D} : unp 3 (.tup [a, b, c]) = some [a, b, c] := id rfl
@[simp] theorem unp_4 {a b c d : D} : unp 4 (.tup [a, b, c, d]) = some [a, b, c, d] := id rfl
@[simp] theorem unp_5 {a b c d e : D} : unp 5 (.tup [a, b, c, d, e]) = some [a, b, c, d, e] := id rfl
@[simp] theorem lastD_l {l : List D} : lastD (.lst l) = l.getLast? := id rfl
@[simp] theorem restD_l {l : List D} : restD (.lst l) = .lst l.dropLast := id rfl
@[simp] theorem putD_l {l : List D} {v : D} {k : Int} : putD v (.int k) (.lst l) = (ixN l.length k).map fun n => .lst (l.set n v) := id rfl
@[simp] theorem rdo_d {x : D} : rdo (some (.d x)) = some x := id rfl
@[simp] theorem rdo_t {x : D} : rdo (some (.tmp x)) = some x := id rfl
@[simp] theorem rdo_n : rdo none = none := id rfl
@[simp] theorem consO_s {x : D} {l : List D} : consO (some x) l = x :: l := id rfl
@[simp] theorem consO_n {l : List D} : consO none l = l := id rfl
@[simp] theorem lcQ_nil {f : D → Q (Option D)} : lcQ f [] = .ok [] := id rfl
end
theorem pc_succ {X : Px} {n g : Nat} {ds : List D} : pc X (n + 1) g ds = if X.old g then chk (X.kp g) (X.ro g) (oldQ (X.ro g) (callN X.P (n + 1) g ds [])) else match X.P.fns g with
    | none => .st
    | some f => pcF X (pc X n) g f ds := rfl
/-- a call of a new function -/
theorem pc_new {X : Px} {n g : Nat} {f : Fn} {ds : List D} (h : X.P.fns g = some f) (ho : X.old g = false) (hk : X.kp g = false) (hl : ds.length = f.np) :
    pc X (n + 1) g ds = cSs X.P (pc X n) fuel f.body D (ds ++ List.replicate (f.nl - f.np) .non) (fun _ => if X.ro g then .st else .ok .non) (fun _ => .st) (fun _ => .st) .ok := by
  rw [pc_succ, ho, h]
  simp only [pcF, hl, hk, if_true, Bool.false_eq_true, if_false]
  generalize cSs X.P (pc X n) fuel f.body _ _ _ _ _ _ = r
  cases r <;> rfl
/-- a call of a function that is read by Ev1 -/
theorem pc_old {X : Px} {n g : Nat} {ds : List D} {x : D} {v : Rv} (ho : X.old g = true) (hk : X.kp g = false) (e : callN X.P (n + 1) g ds [] = .ok v []) (hv : (v = .own x ∧ isL x = true) ∨ (v = .d x ∧ (X.ro g && isL x) = false)) : pc X (n + 1) g ds = .ok x := by
  rw [pc_succ, ho, e]
  rcases hv with ⟨rfl, hl⟩ | ⟨rfl, hr⟩
  · cases x <;> first | (cases hl; done) | simp [oldQ, chk, hk]
  · simp only [oldQ, hr, if_true, Bool.false_eq_true, if_false, chk, hk]
end Ev
end
section
set_option maxRecDepth 100000
set_option maxHeartbeats 1000000
/-! Pv2: whose list is whose, by the text alone. -/
namespace Ev
/-- what is known of a name: 0 nothing, 1 set, 2 set and, if a list, its own, 3 not its own, 4 set and not its own -/
abbrev Gm := List Nat
def gN : Gm → Nat → Nat
  | [], _ => 0
  | x :: _, 0 => x
  | _ :: r, n + 1 => gN r n
def sN : Gm → Nat → Nat → Gm
  | [], _, _ => []
  | _ :: r, 0, x => x :: r
  | y :: r, n + 1, x => y :: sN r n x
inductive Kd where
  | tmp | dk | bor (i : Nat) | unk (is : List Nat)
def low1 (i : Nat) (Γ : Gm) : Gm := if gN Γ i = 2 then sN Γ i 1 else Γ
def lows : List Nat → Gm → Gm
  | [], Γ => Γ
  | i :: is, Γ => lows is (low1 i Γ)
/-- it is stored elsewhere -/
def frK : Kd → Gm → Gm
  | .bor i, Γ => if gN Γ i = 2 then sN Γ i 4 else Γ
  | .unk is, Γ => lows is Γ
  | _, Γ => Γ
def frKs : List Kd → Gm → Gm
  | [], Γ => Γ
  | k :: ks, Γ => frKs ks (frK k Γ)
/-- it may be stored elsewhere -/
def loK : Kd → Gm → Gm
  | .bor i, Γ => low1 i Γ
  | .unk is, Γ => lows is Γ
  | _, Γ => Γ
def loKs : List Kd → Gm → Gm
  | [], Γ => Γ
  | k :: ks, Γ => loKs ks (loK k Γ)
def inSet (a : Nat) : Bool := a == 1 || a == 2 || a == 4
def le1 (a b : Nat) : Bool := b == 0 || a == b || (b == 1 && inSet a) || (b == 3 && a == 4)
def mt1 (a b : Nat) : Nat := if le1 a b then b else if le1 b a then a else if inSet a && inSet b then 1 else 0
def leG : Gm → Gm → Bool
  | _, [] => true
  | [], d :: Δ => le1 0 d && leG [] Δ
  | g :: Γ, d :: Δ => le1 g d && leG Γ Δ
def mtG : Gm → Gm → Gm
  | [], _ => []
  | _, [] => []
  | g :: Γ, d :: Δ => mt1 g d :: mtG Γ Δ
def mtO : Option Gm → Option Gm → Option Gm
  | none, b => b
  | a, none => a
  | some a, some b => some (mtG a b)
def mtL (Γ : Gm) : List Gm → Gm
  | [] => Γ
  | g :: l => mtL (mtG Γ g) l
def bs : Kd → List Nat
  | .bor i => [i]
  | .unk is => is
  | _ => []
def jk : Kd → Kd → Kd
  | .tmp, .tmp => .tmp
  | .dk, .dk => .dk
  | a, b => .unk (bs a ++ bs b)
def setAll (n : Nat) : List Nat → Gm → Gm
  | [], Γ => Γ
  | i :: is, Γ => setAll n is (sN Γ i n)
def tgL : Tg → List Nat
  | .nm i => [i]
  | .tp is => is
def keepK (b : List S) : Kd → Bool
  | .bor i => keepsSs i b
  | .unk is => is.all fun i => keepsSs i b
  | _ => true
def notOwn (Γ : Gm) (i : Nat) : Bool := gN Γ i == 3 || gN Γ i == 4
def retOk (ro : Bool) (Γ : Gm) : Kd → Bool
  | .tmp => true
  | .bor i => !ro || gN Γ i == 2
  | _ => !ro
structure Ar where
  nx : Option Gm
  js : List Gm
  xs : List Gm
section
variable (X : Px)
mutual
def anE : E → Gm → Option (Gm × Kd × List Gm)
  | .v i, Γ => if gN Γ i = 1 then some (Γ, .unk [i], []) else if gN Γ i = 2 then some (Γ, .bor i, []) else if gN Γ i = 4 then some (Γ, .dk, []) else none
  | .k _, Γ => some (Γ, .dk, [])
  | .n, Γ => some (Γ, .tmp, [])
  | .b _, Γ => some (Γ, .tmp, [])
  | .i _, Γ => some (Γ, .tmp, [])
  | .s _, Γ => some (Γ, .tmp, [])
  | .bin _ x y, Γ => (anE x Γ).bind fun r => (anE y r.1).bind fun s => some (s.1, .tmp, r.2.2 ++ s.2.2)
  | .neg x, Γ => (anE x Γ).bind fun r => some (r.1, .tmp, r.2.2)
  | .cmp _ x y, Γ => (anE x Γ).bind fun r => (anE y r.1).bind fun s => some (s.1, .tmp, r.2.2 ++ s.2.2)
  | .chain _ _ x y z, Γ => (anE x Γ).bind fun r => (anE y r.1).bind fun s => (anE z s.1).bind fun t => some (mtG s.1 t.1, .tmp, r.2.2 ++ s.2.2 ++ t.2.2)
  | .and x y, Γ => (anE x Γ).bind fun r => (anE y r.1).bind fun s => some (mtG r.1 s.1, .unk (bs s.2.1), r.2.2 ++ s.2.2)
  | .or x y, Γ => (anE x Γ).bind fun r => (anE y r.1).bind fun s => some (mtG r.1 s.1, .unk (bs s.2.1), r.2.2 ++ s.2.2)
  | .not x, Γ => (anE x Γ).bind fun r => some (r.1, .tmp, r.2.2)
  | .ite t x y, Γ => (anT t Γ).bind fun q => (anE x q.1).bind fun r => (anE y q.1).bind fun s => some (mtG r.1 s.1, jk r.2.1 s.2.1, q.2 ++ r.2.2 ++ s.2.2)
  | .call g xs, Γ => (anEs xs Γ).bind fun r => some (if X.kp g then r.1 else loKs r.2.1 r.1, if X.ro g then .tmp else .unk [], r.2.2 ++ [loKs r.2.1 r.1])
  | .meth g' g x xs, Γ => (anE x Γ).bind fun q => (anEs xs q.1).bind fun r => some (if X.kp g then r.1 else loKs r.2.1 r.1, if X.ro g then .tmp else .unk [], q.2.2 ++ (r.2.2 ++ if g' = 1 then [loKs r.2.1 r.1] else []))
  | .new _ xs, Γ => (anEs xs Γ).bind fun r => some (frKs r.2.1 r.1, .tmp, r.2.2 ++ [frKs r.2.1 r.1])
  | .blt _ xs, Γ => (anEs xs Γ).bind fun r => some (r.1, .tmp, r.2.2)
  | .isi x _, Γ => (anE x Γ).bind fun r => some (r.1, .tmp, r.2.2)
  | .bm _ _ _, _ => none
  | .fld x _ _, Γ => (anE x Γ).bind fun r => some (r.1, .dk, r.2.2)
  | .ix x y, Γ => (anE x Γ).bind fun r => (anE y r.1).bind fun s => some (s.1, .dk, r.2.2 ++ s.2.2)
  | .sl x lo hi, Γ => (anE x Γ).bind fun r => (anO lo r.1).bind fun s => (anO hi s.1).bind fun t => some (t.1, .tmp, r.2.2 ++ s.2 ++ t.2)
  | .rev x, Γ => (anE x Γ).bind fun r => some (r.1, .tmp, r.2.2)
  | .tup xs, Γ => (anEs xs Γ).bind fun r => some (frKs r.2.1 r.1, .tmp, r.2.2)
  | .lst xs, Γ => (anEs xs Γ).bind fun r => some (frKs r.2.1 r.1, .tmp, r.2.2)
  | .dsp _ xs, Γ => (anEs xs Γ).bind fun r => some (frKs r.2.1 r.1, .tmp, r.2.2)
  | .isl x, Γ => anE x Γ
  | .orv x y, Γ => (anE x Γ).bind fun r => (anE y r.1).bind fun s => some (mtG r.1 s.1, jk r.2.1 s.2.1, r.2.2 ++ s.2.2)
  | .lc e t vs _ xs cs, Γ => (anEs xs Γ).bind fun r => if vs.all (notOwn r.1) && (tgL t).all vs.contains then
      let G := setAll 3 vs r.1
      (anTs cs (setAll 4 (tgL t) G)).bind fun q => (anE e q.1).bind fun s =>
        let G1 := mtG (setAll 3 vs q.1) (setAll 3 vs (frK s.2.1 s.1))
        if leG G1 G then some (G, .tmp, r.2.2) else
          (anTs cs (setAll 4 (tgL t) (mtG G G1))).bind fun q => (anE e q.1).bind fun s =>
            if leG (mtG (setAll 3 vs q.1) (setAll 3 vs (frK s.2.1 s.1))) (mtG G G1) then some (mtG G G1, .tmp, r.2.2) else none
      else none
termination_by structural x => x
def anEs : List E → Gm → Option (Gm × List Kd × List Gm)
  | [], Γ => some (Γ, [], [])
  | e :: es, Γ => (anE e Γ).bind fun r => (anEs es r.1).bind fun s => some (s.1, r.2.1 :: s.2.1, r.2.2 ++ s.2.2)
termination_by structural x => x
def anO : Option E → Gm → Option (Gm × List Gm)
  | none, Γ => some (Γ, [])
  | some e, Γ => (anE e Γ).bind fun r => some (r.1, r.2.2)
termination_by structural x => x
def anT : E → Gm → Option (Gm × List Gm)
  | .and x y, Γ => (anT x Γ).bind fun r => (anT y r.1).bind fun s => some (mtG r.1 s.1, r.2 ++ s.2)
  | .or x y, Γ => (anT x Γ).bind fun r => (anT y r.1).bind fun s => some (mtG r.1 s.1, r.2 ++ s.2)
  | .not x, Γ => anT x Γ
  | .cmp _ x y, Γ => (anE x Γ).bind fun r => (anE y r.1).bind fun s => some (s.1, r.2.2 ++ s.2.2)
  | .chain _ _ x y z, Γ => (anE x Γ).bind fun r => (anE y r.1).bind fun s => (anE z s.1).bind fun t => some (mtG s.1 t.1, r.2.2 ++ s.2.2 ++ t.2.2)
  | .v i, Γ => if inSet (gN Γ i) then some (Γ, []) else none
  | .call g xs, Γ => (anEs xs Γ).bind fun r => some (if X.kp g then r.1 else loKs r.2.1 r.1, r.2.2 ++ [loKs r.2.1 r.1])
  | .blt _ xs, Γ => (anEs xs Γ).bind fun r => some (r.1, r.2.2)
  | .isi x _, Γ => (anE x Γ).bind fun r => some (r.1, r.2.2)
  | .ix x y, Γ => (anE x Γ).bind fun r => (anE y r.1).bind fun s => some (s.1, r.2.2 ++ s.2.2)
  | _, _ => none
termination_by structural x => x
def anTs : List E → Gm → Option (Gm × List Gm)
  | [], Γ => some (Γ, [])
  | [e], Γ => anT e Γ
  | _, _ => none
termination_by structural x => x
end
/-- a name gets a value -/
def layK (t : Tg) (k : Kd) (Γ : Gm) : Gm := match t with
  | .nm i => match k with
    | .tmp => sN Γ i 2
    | .dk => sN Γ i 4
    | .bor _ => sN (frK k Γ) i 4
    | .unk _ => sN (frK k Γ) i 1
  | .tp is => setAll 4 is Γ
/-- a loop: the state at its head -/
def anL (f : Gm → Option Ar) : Nat → Gm → Option (Gm × Ar)
  | 0, _ => none
  | n + 1, Γ => (f Γ).bind fun A =>
    let l := A.nx.toList ++ A.js
    if l.all fun g => leG g Γ then some (Γ, A) else anL f n (mtL Γ l)
/-- where an except suite begins -/
def mtX (Γ : Gm) : List Gm → Gm
  | [] => Γ
  | g :: l => mtL g l
def bindG (i : Option Nat) (Γ : Gm) : Gm := match i with
  | some i => sN Γ i 4
  | none => Γ
def unG (i : Option Nat) (Γ : Gm) : Gm := match i with
  | some i => sN Γ i 3
  | none => Γ
/-- a try's body: the state, what follows, where an exception leaves -/
def anB (ro : Bool) (b : List S) (Γ : Gm) : Option (Gm × Option Gm × List Gm) := match b with
  | [.asg t e] => (anE X e Γ).bind fun r => some (r.1, some (layK t r.2.1 r.1), r.2.2)
  | [.exp e] => (anE X e Γ).bind fun r => some (r.1, some r.1, r.2.2)
  | [.ret e] => (anE X e Γ).bind fun r => if retOk ro r.1 r.2.1 then some (r.1, none, r.2.2) else none
  | _ => none
mutual
def anS (ro : Bool) : S → Gm → Option Ar
  | .asg t e, Γ => (anE X e Γ).bind fun r => some ⟨some (layK t r.2.1 r.1), [], r.2.2⟩
  | .app i e, Γ => if gN Γ i = 2 then (anE X e Γ).bind fun r => if gN (frK r.2.1 r.1) i = 2 then some ⟨some (frK r.2.1 r.1), [], r.2.2⟩ else none else none
  | .ext _ _, _ => none
  | .pop t i, Γ => if gN Γ i = 2 then some ⟨some (setAll 4 (tgL t) Γ), [], []⟩ else none
  | .setix i x y, Γ => (anE X y Γ).bind fun r => if gN r.1 i = 2 then (anE X x r.1).bind fun s => if gN (frK r.2.1 s.1) i = 2 then some ⟨some (frK r.2.1 s.1), [], r.2.2 ++ s.2.2⟩ else none else none
  | .ife c a b, Γ => (anT X c Γ).bind fun q => (anSs ro a q.1).bind fun r => (anSs ro b q.1).bind fun s => some ⟨mtO r.nx s.nx, r.js ++ s.js, q.2 ++ r.xs ++ s.xs⟩
  | .forr t _ xs b, Γ => (anEs X xs Γ).bind fun r => if r.2.1.all (keepK [.forr t .seq [] b]) then
      (anL (fun G => anSs ro b (setAll 4 (tgL t) G)) 6 r.1).bind fun A => some ⟨some A.1, [], r.2.2 ++ A.2.xs⟩ else none
  | .whl c b, Γ => (anL (fun G => (anT X c G).bind fun q => (anSs ro b q.1).bind fun A => some ⟨A.nx, A.js ++ [q.1], q.2 ++ A.xs⟩) 6 Γ).bind fun A => some ⟨some A.1, [], A.2.xs⟩
  | .ret e, Γ => (anE X e Γ).bind fun r => if retOk ro r.1 r.2.1 then some ⟨none, [], r.2.2⟩ else none
  | .retn, _ => some ⟨none, [], []⟩
  | .exp e, Γ => (anE X e Γ).bind fun r => some ⟨some r.1, [], r.2.2⟩
  | .pass, Γ => some ⟨some Γ, [], []⟩
  | .brk, Γ => some ⟨none, [Γ], []⟩
  | .cnt, Γ => some ⟨none, [Γ], []⟩
  | .nev, _ => some ⟨none, [], []⟩
  | .rai _ xs, Γ => (anEs X xs Γ).bind fun r => some ⟨none, [], r.2.2 ++ [r.1]⟩
  | .tri b _ i r, Γ => (anB X ro b Γ).bind fun A => (anSs ro r (bindG i (mtX A.1 A.2.2))).bind fun B => if B.xs.isEmpty then some ⟨mtO A.2.1 (B.nx.map (unG i)), B.js.map (unG i), A.2.2⟩ else none
termination_by structural x => x
def anSs (ro : Bool) : List S → Gm → Option Ar
  | [], Γ => some ⟨some Γ, [], []⟩
  | s :: r, Γ => (anS ro s Γ).bind fun a => match a.nx with
    | none => some a
    | some Γ' => (anSs ro r Γ').bind fun b => some ⟨b.nx, a.js ++ b.js, a.xs ++ b.xs⟩
termination_by structural x => x
end
def anF (g : Nat) (f : Fn) : Bool := decide (f.np ≤ f.nl) && match anSs X (X.ro g) f.body (List.replicate f.np 4 ++ List.replicate (f.nl - f.np) 3) with
  | some A => A.js.isEmpty
  | none => false
end
end Ev
end
section
set_option maxRecDepth 100000
set_option maxHeartbeats 1000000
/-! Pv3: what the reading by values says holds of the reading with the names' own lists. -/
namespace Ev
def SlR (n : Nat) (s : Sl) (x : D) : Prop := match n with
  | 1 => s = .dat x ∨ (s = .own x ∧ isL x = true)
  | 2 => (s = .own x ∧ isL x = true) ∨ (s = .dat x ∧ isL x = false)
  | 3 => ∀ y, s ≠ .own y
  | 4 => s = .dat x
  | _ => True
theorem SlR.le {a b : Nat} {s : Sl} {x : D} (h : SlR a s x) (l : le1 a b = true) : SlR b s x := by
  unfold le1 inSet at l
  simp only [Bool.or_eq_true, Bool.and_eq_true, beq_iff_eq] at l
  rcases l with ((rfl | rfl) | ⟨rfl, (rfl | rfl) | rfl⟩) | ⟨rfl, rfl⟩
  · trivial
  · exact h
  · exact h
  · rcases h with ⟨h, q⟩ | ⟨h, q⟩
    · exact .inr ⟨h, q⟩
    · exact .inl h
  · exact .inl h
  · intro y e
    rw [show s = .dat x from h] at e; cases e
theorem getS_setP : ∀ (l : List Sl) (i j : Nat) (s : Sl), getS (setS l i s) j = if i = j ∧ i < l.length then s else getS l j
  | [], i, j, s => by simp [setS]
  | x :: l, 0, 0, s => by simp [setS, getS]
  | x :: l, 0, j + 1, s => by simp [setS, getS]
  | x :: l, i + 1, 0, s => by simp [setS, getS]
  | x :: l, i + 1, j + 1, s => by
    simp only [setS, getS, getS_setP l i j s, List.length_cons, Nat.add_lt_add_iff_right, Nat.add_right_cancel_iff]
theorem setS_lenP : ∀ (l : List Sl) (i : Nat) (s : Sl), (setS l i s).length = l.length
  | [], _, _ => rfl
  | _ :: l, 0, _ => rfl
  | _ :: l, i + 1, s => by simp [setS, setS_lenP l i s]
theorem le1_refl (a : Nat) : le1 a a = true := by simp [le1]
theorem mt1_l (a b : Nat) : le1 a (mt1 a b) = true := by
  unfold mt1
  split
  · assumption
  · split
    · exact le1_refl a
    · split
      · rename_i h; simp only [Bool.and_eq_true] at h; simp [le1, h.1]
      · simp [le1]
theorem mt1_r (a b : Nat) : le1 b (mt1 a b) = true := by
  unfold mt1
  split
  · exact le1_refl b
  · split
    · assumption
    · split
      · rename_i h; simp only [Bool.and_eq_true] at h; simp [le1, h.2]
      · simp [le1]
theorem gN_sN : ∀ (l : Gm) (i j n : Nat), gN (sN l i n) j = if i = j ∧ i < l.length then n else gN l j
  | [], i, j, n => by simp [sN]
  | x :: l, 0, 0, n => by simp [sN, gN]
  | x :: l, 0, j + 1, n => by simp [sN, gN]
  | x :: l, i + 1, 0, n => by simp [sN, gN]
  | x :: l, i + 1, j + 1, n => by simp only [sN, gN, gN_sN l i j n, List.length_cons, Nat.add_lt_add_iff_right, Nat.add_right_cancel_iff]
theorem sN_len : ∀ (l : Gm) (i n : Nat), (sN l i n).length = l.length
  | [], _, _ => rfl
  | _ :: l, 0, _ => rfl
  | _ :: l, i + 1, n => by simp [sN, sN_len l i n]
theorem gD_sD : ∀ (l : List D) (i j : Nat) (x : D), gD (sD l i x) j = if i = j ∧ i < l.length then x else gD l j
  | [], i, j, x => by simp [sD]
  | y :: l, 0, 0, x => by simp [sD, gD]
  | y :: l, 0, j + 1, x => by simp [sD, gD]
  | y :: l, i + 1, 0, x => by simp [sD, gD]
  | y :: l, i + 1, j + 1, x => by simp only [sD, gD, gD_sD l i j x, List.length_cons, Nat.add_lt_add_iff_right, Nat.add_right_cancel_iff]
theorem sD_len : ∀ (l : List D) (i : Nat) (x : D), (sD l i x).length = l.length
  | [], _, _ => rfl
  | _ :: l, 0, _ => rfl
  | _ :: l, i + 1, x => by simp [sD, sD_len l i x]
theorem sD_same : ∀ (l : List D) (i : Nat), sD l i (gD l i) = l
  | [], _ => rfl
  | _ :: l, 0 => rfl
  | _ :: l, i + 1 => by simp [sD, sD_same l i]
theorem gN_out : ∀ (l : Gm) (i : Nat), l.length ≤ i → gN l i = 0
  | [], _, _ => rfl
  | _ :: l, 0, h => by simp at h
  | _ :: l, i + 1, h => gN_out l i (by simpa using h)
theorem leG_get : ∀ {Γ Δ : Gm} (i : Nat), leG Γ Δ = true → le1 (gN Γ i) (gN Δ i) = true
  | Γ, [], i, _ => by simp [le1, gN]
  | [], d :: Δ, 0, h => by
    simp only [leG, Bool.and_eq_true] at h; exact h.1
  | [], d :: Δ, i + 1, h => by
    simp only [leG, Bool.and_eq_true] at h; exact leG_get (Γ := []) i h.2
  | g :: Γ, d :: Δ, 0, h => by
    simp only [leG, Bool.and_eq_true] at h; exact h.1
  | g :: Γ, d :: Δ, i + 1, h => by
    simp only [leG, Bool.and_eq_true] at h; exact leG_get i h.2
theorem mtG_l : ∀ (Γ Δ : Gm) (i : Nat), le1 (gN Γ i) (gN (mtG Γ Δ) i) = true
  | [], Δ, i => by simp [mtG, le1, gN]
  | _ :: _, [], i => by simp [mtG, le1, gN]
  | g :: Γ, d :: Δ, 0 => mt1_l g d
  | g :: Γ, d :: Δ, i + 1 => mtG_l Γ Δ i
theorem mtG_r : ∀ (Γ Δ : Gm) (i : Nat), le1 (gN Δ i) (gN (mtG Γ Δ) i) = true
  | [], Δ, i => by simp [mtG, le1, gN]
  | _ :: _, [], i => by simp [mtG, le1, gN]
  | g :: Γ, d :: Δ, 0 => mt1_r g d
  | g :: Γ, d :: Δ, i + 1 => mtG_r Γ Δ i
theorem mtG_ll : ∀ (Γ Δ : Gm), (mtG Γ Δ).length ≤ Γ.length
  | [], Δ => by simp [mtG]
  | _ :: _, [] => by simp [mtG]
  | g :: Γ, d :: Δ => by simpa [mtG] using mtG_ll Γ Δ
theorem mtG_lr : ∀ (Γ Δ : Gm), (mtG Γ Δ).length ≤ Δ.length
  | [], Δ => by simp [mtG]
  | _ :: _, [] => by simp [mtG]
  | g :: Γ, d :: Δ => by simpa [mtG] using mtG_lr Γ Δ

structure Rel (n : Nat) (Γ : Gm) (c : C) (ρ : List D) : Prop where
  sto : c.sto = []
  el : c.env.length = n
  rl : ρ.length = n
  gl : Γ.length ≤ n
  sl : ∀ i, SlR (gN Γ i) (c.get i) (gD ρ i)
section
variable {n : Nat} {Γ Δ : Gm} {c : C} {ρ : List D}
theorem Rel.imp (r : Rel n Γ c ρ) (h : ∀ i, le1 (gN Γ i) (gN Δ i) = true) (hl : Δ.length ≤ n) : Rel n Δ c ρ :=
  ⟨r.sto, r.el, r.rl, hl, fun i => (r.sl i).le (h i)⟩
theorem Rel.le (r : Rel n Γ c ρ) (h : leG Γ Δ = true) (hl : Δ.length ≤ n) : Rel n Δ c ρ := r.imp (fun i => leG_get i h) hl
theorem Rel.ml (r : Rel n Γ c ρ) : Rel n (mtG Γ Δ) c ρ := r.imp (mtG_l Γ Δ) (Nat.le_trans (mtG_ll _ _) r.gl)
theorem Rel.mr (r : Rel n Δ c ρ) : Rel n (mtG Γ Δ) c ρ := r.imp (mtG_r Γ Δ) (Nat.le_trans (mtG_lr _ _) r.gl)
/-- a name gets a value -/
theorem Rel.put (r : Rel n Γ c ρ) (i k : Nat) (s : Sl) (x : D) (h : SlR k s x) : Rel n (sN Γ i k) (c.set i s) (sD ρ i x) := by
  refine ⟨r.sto, by simp only [C.set, setS_lenP]; exact r.el, by rw [sD_len]; exact r.rl, by rw [sN_len]; exact r.gl, fun j => ?_⟩
  simp only [C.get, C.set]
  rw [gN_sN, getS_setP, gD_sD]
  have e1 := r.el
  have e2 := r.rl
  have e3 := r.gl
  by_cases q : i = j
  · subst q
    by_cases hi : i < Γ.length
    · rw [if_pos ⟨rfl, hi⟩, if_pos ⟨rfl, by omega⟩, if_pos ⟨rfl, by omega⟩]; exact h
    · rw [if_neg (fun z => hi z.2), gN_out _ _ (by omega)]; trivial
  · rw [if_neg (fun z => q z.1), if_neg (fun z => q z.1), if_neg (fun z => q z.1)]; exact r.sl j
theorem Rel.low1 (r : Rel n Γ c ρ) (i : Nat) : Rel n (low1 i Γ) c ρ := by
  unfold Ev.low1
  split
  · rename_i h
    refine r.imp (fun j => ?_) (by rw [sN_len]; exact r.gl)
    rw [gN_sN]
    split
    · rename_i q; rw [← q.1, h]; rfl
    · exact le1_refl _
  · exact r
theorem low1_get (i j : Nat) : gN (low1 i Γ) j = gN Γ j ∨ gN (low1 i Γ) j = 1 := by
  unfold Ev.low1
  split
  · rw [gN_sN]
    split
    · exact .inr rfl
    · exact .inl rfl
  · exact .inl rfl
theorem low1_ne (i : Nat) : gN (low1 i Γ) i ≠ 2 := by
  unfold Ev.low1
  split
  · rw [gN_sN]
    split
    · decide
    · rename_i h q
      intro _
      have : i < Γ.length := Nat.lt_of_not_le fun z => by rw [gN_out _ _ z] at h; cases h
      exact q ⟨rfl, this⟩
  · assumption
theorem Rel.lows : ∀ (is : List Nat) {Γ : Gm}, Rel n Γ c ρ → Rel n (lows is Γ) c ρ
  | [], _, r => r
  | i :: is, _, r => Rel.lows is (r.low1 i)
theorem lows_ne : ∀ (is : List Nat) {Γ : Gm} (j : Nat), j ∈ is ∨ gN Γ j ≠ 2 → gN (lows is Γ) j ≠ 2
  | [], _, j, h => h.resolve_left (by simp)
  | i :: is, Γ, j, h => by
    refine lows_ne is j ?_
    rcases h with h | h
    · rcases List.mem_cons.mp h with rfl | h
      · exact .inr (low1_ne j)
      · exact .inl h
    · refine .inr fun z => ?_
      rcases low1_get (Γ := Γ) i j with q | q
      · rw [q] at z; exact h z
      · rw [q] at z; cases z
theorem Rel.lo (r : Rel n Γ c ρ) (k : Kd) : Rel n (loK k Γ) c ρ := by
  cases k with
  | bor i => exact r.low1 i
  | unk is => exact r.lows is
  | tmp => exact r
  | dk => exact r
theorem Rel.los : ∀ (ks : List Kd) {Γ : Gm}, Rel n Γ c ρ → Rel n (loKs ks Γ) c ρ
  | [], _, r => r
  | k :: ks, _, r => Rel.los ks (r.lo k)
/-- a name's list turns into data -/
theorem Rel.dat (r : Rel n Γ c ρ) {i : Nat} (h : gN Γ i ≠ 2) : Rel n Γ (c.set i (.dat (gD ρ i))) ρ := by
  refine ⟨r.sto, by simp only [C.set, setS_lenP]; exact r.el, r.rl, r.gl, fun j => ?_⟩
  simp only [C.get, C.set, getS_setP]
  split
  · rename_i q
    rw [← q.1]
    have k := r.sl i
    revert h k
    generalize gN Γ i = a
    intro h k
    match a with
    | 0 => trivial
    | 1 => exact .inl rfl
    | 2 => exact absurd rfl h
    | 3 => intro y e; cases e
    | 4 => rfl
    | _ + 5 => trivial
  · exact r.sl j
end
/-- a value, as the analysis knows it -/
def VR (ρ : List D) (k : Kd) (v : Vl) (x : D) : Prop := match k with
  | .tmp => (v = .tmp x ∧ isL x = true) ∨ (v = .d x ∧ isL x = false)
  | .dk => v = .d x
  | .bor i => x = gD ρ i ∧ ((v = .bor i x ∧ isL x = true) ∨ (v = .d x ∧ isL x = false))
  | .unk is => v = .d x ∨ (v = .tmp x ∧ isL x = true) ∨ ∃ i, i ∈ is ∧ v = .bor i x ∧ isL x = true ∧ x = gD ρ i
section
variable {n : Nat} {Γ Δ : Gm} {c : C} {ρ : List D} {v : Vl} {x : D} {k : Kd}
theorem VR.rd (h : VR ρ k v x) : v.rd = x := by
  cases k with
  | tmp => rcases h with ⟨rfl, _⟩ | ⟨rfl, _⟩ <;> rfl
  | dk => rw [show v = .d x from h]; rfl
  | bor i => rcases h with ⟨_, ⟨rfl, _⟩ | ⟨rfl, _⟩⟩ <;> rfl
  | unk is => rcases h with rfl | ⟨rfl, _⟩ | ⟨i, _, rfl, _⟩ <;> rfl
/-- any kind in general -/
theorem VR.gen (h : VR ρ k v x) : VR ρ (.unk (bs k)) v x := by
  cases k with
  | tmp => rcases h with h | h
           · exact .inr (.inl h)
           · exact .inl h.1
  | dk => exact .inl h
  | bor i => rcases h with ⟨e, h | h⟩
             · exact .inr (.inr ⟨i, List.mem_singleton.mpr rfl, h.1, h.2, e⟩)
             · exact .inl h.1
  | unk is => exact h
theorem VR.more {is js : List Nat} (h : VR ρ (.unk is) v x) (s : ∀ i, i ∈ is → i ∈ js) : VR ρ (.unk js) v x := by
  rcases h with h | h | ⟨i, h1, h2⟩
  · exact .inl h
  · exact .inr (.inl h)
  · exact .inr (.inr ⟨i, s i h1, h2⟩)
theorem VR.jl {k2 : Kd} (h : VR ρ k v x) : VR ρ (jk k k2) v x := by
  have g := h.gen.more (js := bs k ++ bs k2) fun i q => List.mem_append_left _ q
  cases k <;> cases k2 <;> first | exact h | exact g
theorem VR.jr {k2 : Kd} (h : VR ρ k2 v x) : VR ρ (jk k k2) v x := by
  have g := h.gen.more (js := bs k ++ bs k2) fun i q => List.mem_append_right _ q
  cases k <;> cases k2 <;> first | exact h | exact g
/-- not a list: data -/
theorem VR.data (h : VR ρ k v x) (q : isL x = false) : v = .d x := by
  rcases h.gen with h | ⟨_, h⟩ | ⟨_, _, _, h, _⟩
  · exact h
  · rw [q] at h; cases h
  · rw [q] at h; cases h
theorem Rel.four (r : Rel n Γ c ρ) {i : Nat} (h : gN Γ i = 2) (hn : isL (gD ρ i) = false) : Rel n (sN Γ i 4) c ρ := by
  refine ⟨r.sto, r.el, r.rl, by rw [sN_len]; exact r.gl, fun j => ?_⟩
  rw [gN_sN]
  split
  · rename_i z
    have := r.sl i
    rw [h] at this
    rw [← z.1]
    rcases this with ⟨_, q⟩ | ⟨q, _⟩
    · rw [hn] at q; cases q
    · exact q
  · exact r.sl j
theorem Rel.fr (r : Rel n Γ c ρ) (h : VR ρ k v x) : Rel n (frK k Γ) (frz v c) ρ := by
  cases k with
  | tmp => rcases h with ⟨rfl, _⟩ | ⟨rfl, _⟩ <;> exact r
  | dk => rw [show v = .d x from h]; exact r
  | bor i =>
    rcases h with ⟨rfl, ⟨rfl, hl⟩ | ⟨rfl, hn⟩⟩
    · show Rel n (if gN Γ i = 2 then sN Γ i 4 else Γ) (c.set i (.dat (gD ρ i))) ρ
      split
      · have := r.put i 4 (.dat (gD ρ i)) (gD ρ i) rfl
        rwa [sD_same] at this
      · rename_i q; exact r.dat q
    · show Rel n (if gN Γ i = 2 then sN Γ i 4 else Γ) c ρ
      split
      · rename_i q
        exact r.four q hn
      · exact r
  | unk is =>
    rcases h with rfl | ⟨rfl, _⟩ | ⟨i, hi, rfl, hl, rfl⟩
    · exact r.lows is
    · exact r.lows is
    · exact (r.lows is).dat (lows_ne is i (.inl hi))
theorem Rel.frlo (r : Rel n Γ c ρ) (h : VR ρ k v x) : Rel n (loK k Γ) (frz v c) ρ := by
  cases k with
  | bor i =>
    rcases h with ⟨rfl, ⟨rfl, hl⟩ | ⟨rfl, hn⟩⟩
    · exact (r.low1 i).dat (low1_ne i)
    · exact r.low1 i
  | tmp => exact r.fr h
  | dk => exact r.fr h
  | unk is => exact r.fr h
def VRs (ρ : List D) : List Kd → List Vl → List D → Prop
  | [], [], [] => True
  | k :: ks, v :: vs, x :: xs => VR ρ k v x ∧ VRs ρ ks vs xs
  | _, _, _ => False
theorem VRs.rd : ∀ {ks : List Kd} {vs : List Vl} {xs : List D}, VRs ρ ks vs xs → vs.map Vl.rd = xs
  | [], [], [], _ => rfl
  | _ :: _, _ :: _, _ :: _, ⟨a, b⟩ => by rw [List.map_cons, a.rd, VRs.rd b]
theorem Rel.frs {ks : List Kd} {vs : List Vl} {xs : List D} {Γ : Gm} {c : C} (r : Rel n Γ c ρ) (h : VRs ρ ks vs xs) : Rel n (frKs ks Γ) (frzs vs c) ρ := by
  induction ks generalizing vs xs Γ c with
  | nil =>
    cases vs <;> cases xs <;> first | exact False.elim h | exact r
  | cons k ks ih =>
    cases vs <;> cases xs <;> first | exact False.elim h | (have q := ih (r.fr h.1) h.2; exact q)
theorem Rel.frlos {ks : List Kd} {vs : List Vl} {xs : List D} {Γ : Gm} {c : C} (r : Rel n Γ c ρ) (h : VRs ρ ks vs xs) : Rel n (loKs ks Γ) (frzs vs c) ρ := by
  induction ks generalizing vs xs Γ c with
  | nil =>
    cases vs <;> cases xs <;> first | exact False.elim h | exact r
  | cons k ks ih =>
    cases vs <;> cases xs <;> first | exact False.elim h | (have q := ih (r.frlo h.1) h.2; exact q)
end
/-- what a function gives -/
def RvR (ro : Bool) (v : Rv) (x : D) : Prop := (v = .own x ∧ isL x = true) ∨ (v = .d x ∧ (ro && isL x) = false)
def CallR (X : Px) (call : CallT) (cq : CallQ) : Prop := ∀ g ds, match cq g ds with
  | .st => True
  | .ok x => ∃ v, call g ds [] = .ok v [] ∧ RvR (X.ro g) v x ∧ (X.kp g = true → v.free = true)
  | .ex x => call g ds [] = .ex x []
/-- two outcomes beside each other -/
def Sim {α β : Type} (n : Nat) (ρ : List D) (r : R α) (q : Q β) (p : α → C → β → Prop) (xs : List Gm) : Prop := match q with
  | .st => True
  | .ok b => ∃ a c, r = .ok a c ∧ p a c b
  | .ex x => ∃ c, r = .ex x c ∧ ∃ Γ, Γ ∈ xs ∧ Rel n Γ c ρ
section
variable {n : Nat} {ρ : List D} {α β γ δ : Type} {r : R α} {q : Q β} {p : α → C → β → Prop} {p' : γ → C → δ → Prop} {xs ys : List Gm}
theorem Sim.bind {f : α → C → R γ} {g : β → Q δ} (h : Sim n ρ r q p xs) (hs : ∀ Γ, Γ ∈ xs → Γ ∈ ys) (hf : ∀ a c b, p a c b → Sim n ρ (f a c) (g b) p' ys) : Sim n ρ (r.bind f) (q.bind g) p' ys := by
  cases q with
  | st => trivial
  | ok b =>
    obtain ⟨a, c, rfl, hp⟩ := h
    exact hf a c b hp
  | ex x =>
    obtain ⟨c, rfl, Γ, h1, h2⟩ := h
    exact ⟨c, rfl, Γ, hs Γ h1, h2⟩
theorem Sim.ok {a : α} {c : C} {b : β} (h : p a c b) : Sim n ρ (.ok a c) (.ok b) p xs := ⟨a, c, rfl, h⟩
theorem Sim.q1 {o : Option α} {o' : Option β} {c : C} (h : ∀ b, o' = some b → ∃ a, o = some a ∧ p a c b) : Sim n ρ (ofO o c) (Ev.q1 o') p xs := by
  cases o' with
  | none => trivial
  | some b =>
    obtain ⟨a, rfl, hp⟩ := h b rfl
    exact ⟨a, c, rfl, hp⟩
theorem Sim.mono {p2 : α → C → β → Prop} (h : Sim n ρ r q p xs) (hp : ∀ a c b, p a c b → p2 a c b) (hs : ∀ Γ, Γ ∈ xs → Γ ∈ ys) : Sim n ρ r q p2 ys := by
  cases q with
  | st => trivial
  | ok b =>
    obtain ⟨a, c, e, h⟩ := h
    exact ⟨a, c, e, hp _ _ _ h⟩
  | ex x =>
    obtain ⟨c, e, Γ, h1, h2⟩ := h
    exact ⟨c, e, Γ, hs Γ h1, h2⟩
end
def EP (n : Nat) (Γ : Gm) (ρ : List D) (k : Kd) : Vl → C → D → Prop := fun v c x => Rel n Γ c ρ ∧ VR ρ k v x
def EPs (n : Nat) (Γ : Gm) (ρ : List D) (ks : List Kd) : List Vl → C → List D → Prop := fun vs c xs => Rel n Γ c ρ ∧ VRs ρ ks vs xs
def TP {α : Type} (n : Nat) (Γ : Gm) (ρ : List D) : α → C → α → Prop := fun a c b => Rel n Γ c ρ ∧ a = b
/-! ### what operations give -/
theorem fresh_bin {o : BOp} {a b : D} {v : Vl} {ρ : List D} (h : binD o a b = some v) : VR ρ .tmp v v.rd := by
  cases o <;> cases a <;> cases b <;> simp only [binD] at h <;> first | (cases h; done) | (cases h; first | exact .inr ⟨rfl, rfl⟩ | exact .inl ⟨rfl, rfl⟩) | (split at h <;> first | (cases h; done) | (cases h; first | exact .inr ⟨rfl, rfl⟩ | exact .inl ⟨rfl, rfl⟩))
theorem fresh_blt {f : Blt} {l : List D} {v : Vl} {ρ : List D} (h : bltD f l = some v) : VR ρ .tmp v v.rd := by
  have one : ∀ x, blt1 f x = some v → VR ρ .tmp v v.rd := fun x h => by
    unfold blt1 at h
    split at h <;> first | (cases h; done) | (cases h; first | exact .inr ⟨rfl, rfl⟩ | exact .inl ⟨rfl, rfl⟩) | (split at h <;> first | (cases h; done) | (cases h; first | exact .inr ⟨rfl, rfl⟩ | exact .inl ⟨rfl, rfl⟩)) | (obtain ⟨z, _, rfl⟩ := Option.map_eq_some_iff.mp h; first | exact .inr ⟨rfl, rfl⟩ | exact .inl ⟨rfl, rfl⟩)
  have two : ∀ x y, blt2 f x y = some v → VR ρ .tmp v v.rd := fun x y h => by
    unfold blt2 at h
    split at h <;> first | (cases h; done) | (cases h; first | exact .inr ⟨rfl, rfl⟩ | exact .inl ⟨rfl, rfl⟩) | (simp only [Option.bind_eq_some_iff, Option.some.injEq] at h; obtain ⟨_, _, _, _, rfl⟩ := h; exact .inr ⟨rfl, rfl⟩)
  unfold bltD at h
  split at h
  · exact one _ h
  · exact two _ _ h
  · cases h
theorem fresh_sl {a : D} {lo hi : Option Int} {v : Vl} {ρ : List D} (h : slD a lo hi = some v) : VR ρ .tmp v v.rd := by
  unfold slD at h
  split at h <;> first | (cases h; done) | (cases h; first | exact .inr ⟨rfl, rfl⟩ | exact .inl ⟨rfl, rfl⟩) | (split at h <;> first | (cases h; done) | (cases h; first | exact .inr ⟨rfl, rfl⟩ | exact .inl ⟨rfl, rfl⟩))
theorem Sim.rdo {n : Nat} {o : Option Vl} {c : C} {Γ : Gm} {ρ : List D} {xs : List Gm} (w : Rel n Γ c ρ) (h : ∀ v, o = some v → VR ρ .tmp v v.rd) : Sim n ρ (ofO o c) (Ev.q1 (rdo o)) (EP n Γ ρ .tmp) xs := by
  refine Sim.q1 fun b e => ?_
  obtain ⟨v, e1, rfl⟩ := Option.map_eq_some_iff.mp e
  exact ⟨v, e1, w, h v e1⟩
end Ev
end
section
set_option maxRecDepth 100000
set_option maxHeartbeats 1000000
/-! Pv4: expressions. -/
namespace Ev
section
variable {P : Pg} {cq : CallQ} {ρ : List D}
theorem pq_bin {o : BOp} {x y : E} : pE P cq (.bin o x y) ρ = (pE P cq x ρ).bind fun a => (pE P cq y ρ).bind fun b => q1 (rdo (binD o a b)) := rfl
theorem pq_neg {x : E} : pE P cq (.neg x) ρ = (pE P cq x ρ).bind fun a => q1 (negD a) := rfl
theorem pq_cmp {o : COp} {x y : E} : pE P cq (.cmp o x y) ρ = (pE P cq x ρ).bind fun a => (pE P cq y ρ).bind fun b => (q1 (cmpD o a b)).bind fun t => .ok (.bl t) := rfl
theorem pq_chain {o p : COp} {x y z : E} : pE P cq (.chain o p x y z) ρ = (pE P cq x ρ).bind fun a => (pE P cq y ρ).bind fun b => (q1 (cmpD o a b)).bind fun t =>
      if t then (pE P cq z ρ).bind fun d => (q1 (cmpD p b d)).bind fun t => .ok (.bl t) else .ok (.bl false) := rfl
theorem pq_and {x y : E} : pE P cq (.and x y) ρ = (pE P cq x ρ).bind fun a => (q1 (bD a)).bind fun t => if t then pE P cq y ρ else .ok (.bl false) := rfl
theorem pq_or {x y : E} : pE P cq (.or x y) ρ = (pE P cq x ρ).bind fun a => (q1 (bD a)).bind fun t => if t then .ok (.bl true) else pE P cq y ρ := rfl
theorem pq_not {x : E} : pE P cq (.not x) ρ = (pE P cq x ρ).bind fun a => (q1 (bD a)).bind fun t => .ok (.bl (!t)) := rfl
theorem pq_ite {t x y : E} : pE P cq (.ite t x y) ρ = (pT P cq t ρ).bind fun b => if b then pE P cq x ρ else pE P cq y ρ := rfl
theorem pq_call {g : Nat} {xs : List E} : pE P cq (.call g xs) ρ = (pEs P cq xs ρ).bind fun vs => cq g vs := rfl
theorem pq_meth {g' g : Nat} {x : E} {xs : List E} : pE P cq (.meth g' g x xs) ρ = (pE P cq x ρ).bind fun a => if isObjD g' a then (pEs P cq xs ρ).bind fun vs => mexQ g' (cq g (a :: vs)) else .st := rfl
theorem pq_new {g : Nat} {xs : List E} : pE P cq (.new g xs) ρ = (pEs P cq xs ρ).bind fun vs => newQ g vs := rfl
theorem pq_blt {f : Blt} {xs : List E} : pE P cq (.blt f xs) ρ = (pEs P cq xs ρ).bind fun vs => q1 (rdo (bltD f vs)) := rfl
theorem pq_isi {x : E} {t : Ty} : pE P cq (.isi x t) ρ = (pE P cq x ρ).bind fun a => (q1 (isiD a t)).bind fun b => .ok (.bl b) := rfl
theorem pq_fld {x : E} {g f : Nat} : pE P cq (.fld x g f) ρ = (pE P cq x ρ).bind fun a => q1 (fldD g f a) := rfl
theorem pq_ix {x y : E} : pE P cq (.ix x y) ρ = (pE P cq x ρ).bind fun a => (pE P cq y ρ).bind fun b => q1 (ixD a b) := rfl
theorem pq_sl {x : E} {lo hi : Option E} : pE P cq (.sl x lo hi) ρ = (pE P cq x ρ).bind fun a => (pO P cq lo ρ).bind fun l => (pO P cq hi ρ).bind fun h => q1 (rdo (slD a l h)) := rfl
theorem pq_rev {x : E} : pE P cq (.rev x) ρ = (pE P cq x ρ).bind fun a => q1 (revD a) := rfl
theorem pq_tup {xs : List E} : pE P cq (.tup xs) ρ = (pEs P cq xs ρ).bind fun vs => .ok (.tup vs) := rfl
theorem pq_lst {xs : List E} : pE P cq (.lst xs) ρ = (pEs P cq xs ρ).bind fun vs => .ok (.lst vs) := rfl
theorem pq_dsp {ks : List (List Nat)} {xs : List E} : pE P cq (.dsp ks xs) ρ = (pEs P cq xs ρ).bind fun vs => .ok (.dct (ks.map .str) vs) := rfl
theorem pq_isl {x : E} : pE P cq (.isl x) ρ = (pE P cq x ρ).bind fun a => q1 (islD a) := rfl
theorem pq_orv {x y : E} : pE P cq (.orv x y) ρ = (pE P cq x ρ).bind fun a => (q1 (truD a)).bind fun t => if t then .ok a else pE P cq y ρ := rfl
theorem pq_lc {e : E} {t : Tg} {vs : List Nat} {w : Wk} {xs cs : List E} : pE P cq (.lc e t vs w xs cs) ρ = (pEs P cq xs ρ).bind fun us => (q1 (wkD w us)).bind fun its => if its.length ≤ line then
      (lcQ (fun x => tgQ t x ρ fun ρ => (pTs P cq cs ρ).bind fun b => if b then (pE P cq e ρ).bind fun y => .ok (some y) else .ok none) its).bind fun ys => .ok (.lst ys) else .st := rfl
theorem pqs_cons {e : E} {es : List E} : pEs P cq (e :: es) ρ = (pE P cq e ρ).bind fun v => (pEs P cq es ρ).bind fun vs => .ok (v :: vs) := rfl
theorem pqo_some {e : E} : pO P cq (some e) ρ = (pE P cq e ρ).bind fun v => (q1 (iD v)).bind fun i => .ok (some i) := rfl
theorem pqt_and {x y : E} : pT P cq (.and x y) ρ = (pT P cq x ρ).bind fun b => if b then pT P cq y ρ else .ok false := rfl
theorem pqt_or {x y : E} : pT P cq (.or x y) ρ = (pT P cq x ρ).bind fun b => if b then .ok true else pT P cq y ρ := rfl
theorem pqt_not {x : E} : pT P cq (.not x) ρ = (pT P cq x ρ).bind fun b => .ok (!b) := rfl
theorem pqt_cmp {o : COp} {x y : E} : pT P cq (.cmp o x y) ρ = (pE P cq x ρ).bind fun a => (pE P cq y ρ).bind fun b => q1 (cmpD o a b) := rfl
theorem pqt_chain {o p : COp} {x y z : E} : pT P cq (.chain o p x y z) ρ = (pE P cq x ρ).bind fun a => (pE P cq y ρ).bind fun b => (q1 (cmpD o a b)).bind fun t =>
      if t then (pE P cq z ρ).bind fun d => q1 (cmpD p b d) else .ok false := rfl
theorem pqt_v {i : Nat} : pT P cq (.v i) ρ = q1 (truD (gD ρ i)) := rfl
theorem pqt_call {g : Nat} {xs : List E} : pT P cq (.call g xs) ρ = ((pEs P cq xs ρ).bind fun vs => cq g vs).bind fun a => q1 (truD a) := rfl
theorem pqt_blt {f : Blt} {xs : List E} : pT P cq (.blt f xs) ρ = ((pEs P cq xs ρ).bind fun vs => q1 (rdo (bltD f vs))).bind fun a => q1 (truD a) := rfl
theorem pqt_isi {x : E} {t : Ty} : pT P cq (.isi x t) ρ = (pE P cq x ρ).bind fun a => q1 (isiD a t) := rfl
theorem pqt_ix {x y : E} : pT P cq (.ix x y) ρ = ((pE P cq x ρ).bind fun a => (pE P cq y ρ).bind fun b => q1 (ixD a b)).bind fun a => q1 (truD a) := rfl
end
theorem gD_drop : ∀ (ds : List D) (j : Nat) (x : D) (xs : List D), ds.drop j = x :: xs → gD ds j = x ∧ ds.drop (j + 1) = xs
  | d :: ds, 0, x, xs, h => by simp at h; exact ⟨h.1, by simpa using h.2⟩
  | d :: ds, j + 1, x, xs, h => by simpa [gD] using gD_drop ds j x xs (by simpa using h)
  | [], j, x, xs, h => by simp at h
section
variable {n : Nat} {Γ Δ : Gm} {c : C} {ρ : List D}
/-- a target gets its parts -/
theorem Rel.tps {ds : List D} : ∀ (is : List Nat) (j : Nat) (xs : List D) {Γ : Gm} {c : C} {ρ : List D}, is.length = xs.length → ds.drop j = xs → Rel n Γ c ρ → Rel n (setAll 4 is Γ) (tgt.sets is xs c) (setTp is j ds ρ)
  | [], j, xs, Γ, c, ρ, hl, hd, r => by
    cases xs with
    | nil => exact r
    | cons x xs => simp at hl
  | i :: is, j, [], Γ, c, ρ, hl, hd, r => by simp at hl
  | i :: is, j, x :: xs, Γ, c, ρ, hl, hd, r => by
    obtain ⟨e1, e2⟩ := gD_drop ds j x xs hd
    have q := r.put i 4 (.dat x) x rfl
    have q2 := Rel.tps is (j + 1) xs (by simpa using hl) e2 q
    rw [← e1] at q2
    rw [← e1]
    exact q2
theorem tgt_sim {t : Tg} {x : D} {β : Type} {k : List D → Q β} (r : Rel n Γ c ρ) : tgQ t x ρ k = .st ∨ ∃ c' ρ', tgt t x c = some c' ∧ Rel n (setAll 4 (tgL t) Γ) c' ρ' ∧ tgQ t x ρ k = k ρ' ∧ ∀ j, j ∉ tgL t → gD ρ' j = gD ρ j := by
  cases t with
  | nm i =>
    refine .inr ⟨_, _, rfl, r.put i 4 (.dat x) x rfl, rfl, fun j hj => ?_⟩
    rw [gD_sD, if_neg]
    intro z
    exact hj (by simp [tgL, z.1])
  | tp is =>
    unfold tgQ
    cases x <;> first | exact .inl rfl | skip
    rename_i xs
    by_cases h : is.length = xs.length
    · have e : unp is.length (.tup xs) = some xs := if_pos h
      have k2 : ∀ (is : List Nat) (m : Nat) (ds ρ : List D) (j : Nat), j ∉ is → gD (setTp is m ds ρ) j = gD ρ j := by
        intro is
        induction is with
        | nil => intro m ds ρ j _; rfl
        | cons i is ih =>
          intro m ds ρ j hj
          rw [setTp, ih _ _ _ _ (fun z => hj (List.mem_cons_of_mem _ z)), gD_sD, if_neg]
          intro z
          exact hj (by rw [← z.1]; exact List.mem_cons_self)
      refine .inr ⟨tgt.sets is xs c, setTp is 0 xs ρ, by simp only [tgt]; rw [if_pos h], Rel.tps is 0 xs h (by simp) r, by simp only [e]; rfl, fun j hj => k2 is 0 xs ρ j hj⟩
    · have e : unp is.length (.tup xs) = none := if_neg h
      exact .inl (by simp only [e]; rfl)
theorem setAll_get (m : Nat) : ∀ (is : List Nat) (Γ : Gm) (j : Nat), j ∉ is → gN (setAll m is Γ) j = gN Γ j
  | [], _, _, _ => rfl
  | i :: is, Γ, j, h => by
    rw [setAll, setAll_get m is _ j (fun z => h (List.mem_cons_of_mem _ z)), gN_sN, if_neg]
    intro z; exact h (by rw [← z.1]; exact List.mem_cons_self)
theorem setAll_in (m : Nat) : ∀ (is : List Nat) (Γ : Gm) (j : Nat), j ∈ is → j < Γ.length → gN (setAll m is Γ) j = m
  | i :: is, Γ, j, h, hl => by
    rw [setAll]
    by_cases q : j ∈ is
    · exact setAll_in m is _ j q (by rw [sN_len]; exact hl)
    · rw [setAll_get m is _ j q]
      rcases List.mem_cons.mp h with rfl | h
      · rw [gN_sN, if_pos ⟨rfl, hl⟩]
      · exact absurd h q
theorem setAll_len (m : Nat) : ∀ (is : List Nat) (Γ : Gm), (setAll m is Γ).length = Γ.length
  | [], _ => rfl
  | i :: is, Γ => by rw [setAll, setAll_len m is, sN_len]
theorem wipe_envP : ∀ (vs : List Nat) (c : C), (c.wipe vs).env.length = c.env.length ∧ (c.wipe vs).sto = c.sto
  | [], c => ⟨rfl, rfl⟩
  | i :: vs, c => by
    obtain ⟨h1, h2⟩ := wipe_envP vs c
    rw [wipe_cons]
    exact ⟨by simp only [C.set, setS_lenP]; exact h1, h2⟩
theorem wipe_getP : ∀ (vs : List Nat) (c : C) (j : Nat), (c.wipe vs).get j = if j ∈ vs ∧ j < c.env.length then .no else c.get j
  | [], c, j => by simp
  | i :: vs, c, j => by
    rw [wipe_cons]
    simp only [C.get, C.set, getS_setP, (wipe_envP vs c).1]
    have := wipe_getP vs c j
    simp only [C.get] at this
    rw [this]
    by_cases q : i = j
    · subst q
      by_cases hl : i < c.env.length <;> simp [hl]
    · have : j ∈ i :: vs ↔ j ∈ vs := by simp [Ne.symm q]
      simp only [q, false_and, if_false, this]
/-- a comprehension's names are gone -/
theorem Rel.wipe {vs : List Nat} {ρ' : List D} (r : Rel n Γ c ρ') (h : ∀ j, j ∉ vs → gD ρ' j = gD ρ j) (hl : ρ.length = n) : Rel n (setAll 3 vs Γ) (c.wipe vs) ρ := by
  refine ⟨(wipe_envP vs c).2.trans r.sto, (wipe_envP vs c).1.trans r.el, hl, by rw [setAll_len]; exact r.gl, fun j => ?_⟩
  rw [wipe_getP]
  by_cases q : j ∈ vs
  · by_cases hj : j < Γ.length
    · rw [setAll_in 3 vs Γ j q hj]
      have : j < c.env.length := by have := r.gl; have := r.el; omega
      rw [if_pos ⟨q, this⟩]
      intro y e; cases e
    · rw [gN_out _ _ (by rw [setAll_len]; omega)]; trivial
  · rw [setAll_get 3 vs Γ j q, if_neg (fun z => q z.1), ← h j q]
    exact r.sl j
theorem not_own {i : Nat} (r : Rel n Γ c ρ) (h : notOwn Γ i = true) : isOwn (c.get i) = false := by
  have k := r.sl i
  unfold notOwn at h
  simp only [Bool.or_eq_true, beq_iff_eq] at h
  rcases h with h | h
  · rw [h] at k
    cases e : c.get i with
    | own y => exact absurd e (k y)
    | no => rfl
    | dat y => rfl
  · rw [h] at k
    rw [show c.get i = .dat _ from k]; rfl
/-- the turns of a comprehension -/
theorem lc_sim {G : Gm} {f : D → C → R (Option D)} {F : D → Q (Option D)} (hf : ∀ x c, Rel n G c ρ → match (F x).nox with
    | .ok o => ∃ c', f x c = .ok o c' ∧ Rel n G c' ρ
    | _ => True) : ∀ (its acc : List D) (c : C), Rel n G c ρ → acc.length + its.length ≤ line → match lcQ F its with
    | .ok ys => ∃ c', lcL f its acc c = .ok (acc ++ ys) c' ∧ Rel n G c' ρ
    | .ex _ => False
    | .st => True
  | [], acc, c, r, hl => ⟨c, by simp [lcL], r⟩
  | x :: xs, acc, c, r, hl => by
    rw [lcQ, lcL]
    have h := hf x c r
    cases e : (F x).nox with
    | st => simp
    | ex y => cases q : F x <;> rw [q] at e <;> cases e
    | ok o =>
      rw [e] at h
      obtain ⟨c', e1, r1⟩ := h
      rw [e1]
      simp only [Q.bind_ok, bind_ok]
      cases o with
      | none =>
        have ih := lc_sim hf xs acc c' r1 (by simp only [List.length_cons] at hl; omega)
        cases q : lcQ F xs with
        | st => simp
        | ex y => rw [q] at ih; exact ih
        | ok ys =>
          rw [q] at ih
          obtain ⟨c2, e2, r2⟩ := ih
          exact ⟨c2, e2, r2⟩
      | some y =>
        simp only [List.length_cons] at hl
        have ih := lc_sim hf xs (acc ++ [y]) c' r1 (by simp only [List.length_append, List.length_cons, List.length_nil]; omega)
        have hlt : acc.length < line := by omega
        simp only [hlt, if_true]
        cases q : lcQ F xs with
        | st => simp
        | ex y => rw [q] at ih; exact ih
        | ok ys =>
          rw [q] at ih
          obtain ⟨c2, e2, r2⟩ := ih
          refine ⟨c2, ?_, r2⟩
          rw [e2]
          simp [consO]
end
section
variable {X : Px} {call : CallT} {cq : CallQ} {n : Nat}
theorem inL {l1 l2 : List Gm} : ∀ Γ, Γ ∈ l1 → Γ ∈ l1 ++ l2 := fun _ q => List.mem_append_left _ q
theorem inR {l1 l2 : List Gm} : ∀ Γ, Γ ∈ l2 → Γ ∈ l1 ++ l2 := fun _ q => List.mem_append_right _ q
theorem inM {l1 l2 l3 : List Gm} : ∀ Γ, Γ ∈ l2 → Γ ∈ l1 ++ l2 ++ l3 := fun _ q => List.mem_append_left _ (List.mem_append_right _ q)
theorem inLL {l1 l2 l3 : List Gm} : ∀ Γ, Γ ∈ l1 → Γ ∈ l1 ++ l2 ++ l3 := fun _ q => List.mem_append_left _ (List.mem_append_left _ q)
theorem vr_tmp_d {ρ : List D} {x : D} (h : isL x = false) : VR ρ .tmp (.d x) x := .inr ⟨rfl, h⟩
theorem vr_res {ρ : List D} {v : Rv} {x : D} {g : Nat} (h : RvR (X.ro g) v x) : VR ρ (if X.ro g = true then .tmp else .unk []) v.vl x := by
  rcases h with ⟨rfl, h⟩ | ⟨rfl, h⟩
  · split
    · exact .inl ⟨rfl, h⟩
    · exact .inr (.inl ⟨rfl, h⟩)
  · split
    · rename_i q
      rw [q] at h
      exact .inr ⟨rfl, by simpa using h⟩
    · exact .inl rfl
theorem call_sim (H : CallR X call cq) {g : Nat} {Γ : Gm} {ks : List Kd} {vs : List Vl} {xs : List D} {c : C} {ρ : List D} {l : List Gm} (r : Rel n Γ c ρ) (hv : VRs ρ ks vs xs) (hl : loKs ks Γ ∈ l) :
    Sim n ρ (doCall call g vs c) (cq g xs) (EP n (if X.kp g = true then Γ else loKs ks Γ) ρ (if X.ro g = true then .tmp else .unk [])) l := by
  unfold doCall
  rw [hv.rd, r.sto]
  have h := H g xs
  cases q : cq g xs with
  | st => trivial
  | ex x =>
    rw [q] at h
    have h : call g xs [] = .ex x [] := h
    rw [h]
    have z := r.frlos hv
    refine ⟨_, rfl, _, hl, ?_⟩
    have es := z.sto
    have : (⟨(frzs vs c).env, []⟩ : C) = frzs vs c := by
      cases e : frzs vs c with
      | mk a b => rw [e] at es; simp at es; rw [es]
    rw [this]; exact z
  | ok x =>
    rw [q] at h
    obtain ⟨v, e, hr, hk⟩ := h
    rw [e]
    refine ⟨v.vl, _, rfl, ?_, vr_res hr⟩
    by_cases hkp : X.kp g = true
    · rw [if_pos hkp, hk hkp]
      simp only [if_true]
      have : (⟨c.env, []⟩ : C) = c := by rw [← r.sto]
      rw [this]; exact r
    · rw [if_neg hkp]
      cases v.free with
      | true =>
        simp only [if_true]
        have : (⟨c.env, []⟩ : C) = c := by rw [← r.sto]
        rw [this]; exact r.los ks
      | false =>
        simp only [Bool.false_eq_true, if_false]
        have z := r.frlos hv
        have es := z.sto
        have : (⟨(frzs vs c).env, []⟩ : C) = frzs vs c := by
          cases e : frzs vs c with
          | mk a b => rw [e] at es; simp at es; rw [es]
        rw [this]; exact z
theorem nox_sim {α β : Type} {r : R α} {q : Q β} {p : α → C → β → Prop} {l l' : List Gm} (h : Sim n ρ r q p l) : Sim n ρ (noexc r) q.nox p l' := by
  cases q with
  | st => trivial
  | ex x => trivial
  | ok b =>
    obtain ⟨a, c, rfl, h⟩ := h
    exact ⟨a, c, rfl, h⟩
theorem isObjD_form {g : Nat} : ∀ {d : D}, isObjD g d = true → ∃ fs, d = .obj g fs
  | .obj c fs, h => by
    have : c = g := by simpa [isObjD] using h
    subst this; exact ⟨fs, rfl⟩
  | .non, h => by cases h
  | .bl _, h => by cases h
  | .int _, h => by cases h
  | .str _, h => by cases h
  | .tup _, h => by cases h
  | .lst _, h => by cases h
  | .dct _ _, h => by cases h
  | .exn _ _, h => by cases h
  | .fn _ _, h => by cases h
theorem bD_form {x : D} {b : Bool} (e : bD x = some b) : x = .bl b := by
  cases x <;> first | (cases e; done) | (cases e; rfl)
mutual
theorem fE (H : CallR X call cq) : ∀ (e : E) {Γ : Gm} {A : Gm × Kd × List Gm} {c : C} {ρ : List D}, anE X e Γ = some A → Rel n Γ c ρ → Sim n ρ (evE X.P call e c) (pE X.P cq e ρ) (EP n A.1 ρ A.2.1) A.2.2
  | .v i, Γ, A, c, ρ, h, r => by
    simp only [anE] at h
    have k := r.sl i
    show Sim n ρ (evE X.P call (.v i) c) (.ok (gD ρ i)) _ _
    rw [ev_v]
    by_cases h1 : gN Γ i = 1
    · rw [if_pos h1] at h
      cases h
      rw [h1] at k
      rcases k with k | ⟨k, kl⟩
      · rw [k]; exact Sim.ok ⟨r, .inl rfl⟩
      · rw [k]; exact Sim.ok ⟨r, .inr (.inr ⟨i, List.mem_singleton.mpr rfl, rfl, kl, rfl⟩)⟩
    · rw [if_neg h1] at h
      by_cases h2 : gN Γ i = 2
      · rw [if_pos h2] at h
        cases h
        rw [h2] at k
        rcases k with ⟨k, kl⟩ | ⟨k, kl⟩
        · rw [k]; exact Sim.ok ⟨r, rfl, .inl ⟨rfl, kl⟩⟩
        · rw [k]; exact Sim.ok ⟨r, rfl, .inr ⟨rfl, kl⟩⟩
      · rw [if_neg h2] at h
        by_cases h4 : gN Γ i = 4
        · rw [if_pos h4] at h
          cases h
          rw [h4] at k
          rw [show c.get i = .dat (gD ρ i) from k]; exact Sim.ok ⟨r, rfl⟩
        · rw [if_neg h4] at h; cases h
  | .k g, Γ, A, c, ρ, h, r => by
    cases h
    rw [ev_k]
    exact Sim.q1 fun b e => ⟨_, by rw [e]; rfl, r, rfl⟩
  | .n, Γ, A, c, ρ, h, r => by cases h; rw [ev_n]; exact Sim.ok ⟨r, vr_tmp_d rfl⟩
  | .b x, Γ, A, c, ρ, h, r => by cases h; rw [ev_b]; exact Sim.ok ⟨r, vr_tmp_d rfl⟩
  | .i x, Γ, A, c, ρ, h, r => by cases h; rw [ev_i]; exact Sim.ok ⟨r, vr_tmp_d rfl⟩
  | .s x, Γ, A, c, ρ, h, r => by cases h; rw [ev_s]; exact Sim.ok ⟨r, vr_tmp_d rfl⟩
  | .bin o x y, Γ, A, c, ρ, h, r => by
    simp only [anE, Option.bind_eq_some_iff, Option.some.injEq] at h
    obtain ⟨a, h1, b, h2, rfl⟩ := h
    rw [ev_bin, pq_bin]
    refine (fE H x h1 r).bind inL fun v c1 d ⟨r1, v1⟩ => (fE H y h2 r1).bind inR fun u c2 d2 ⟨r2, v2⟩ => ?_
    rw [v1.rd, v2.rd]
    exact Sim.rdo r2 fun z e => fresh_bin e
  | .neg x, Γ, A, c, ρ, h, r => by
    simp only [anE, Option.bind_eq_some_iff, Option.some.injEq] at h
    obtain ⟨a, h1, rfl⟩ := h
    rw [ev_neg, pq_neg]
    refine (fE H x h1 r).bind (fun _ q => q) fun v c1 d ⟨r1, v1⟩ => ?_
    rw [v1.rd]
    cases d <;> first | trivial | exact Sim.ok ⟨r1, vr_tmp_d rfl⟩
  | .cmp o x y, Γ, A, c, ρ, h, r => by
    simp only [anE, Option.bind_eq_some_iff, Option.some.injEq] at h
    obtain ⟨a, h1, b, h2, rfl⟩ := h
    rw [ev_cmp, pq_cmp]
    refine (fE H x h1 r).bind inL fun v c1 d ⟨r1, v1⟩ => (fE H y h2 r1).bind inR fun u c2 d2 ⟨r2, v2⟩ => ?_
    rw [v1.rd, v2.rd]
    cases cmpD o d d2 with
    | none => trivial
    | some t => exact Sim.ok ⟨r2, vr_tmp_d rfl⟩
  | .chain o p x y z, Γ, A, c, ρ, h, r => by
    simp only [anE, Option.bind_eq_some_iff, Option.some.injEq] at h
    obtain ⟨a, h1, b, h2, e, h3, rfl⟩ := h
    rw [ev_chain, pq_chain]
    refine (fE H x h1 r).bind inLL fun v c1 d ⟨r1, v1⟩ => (fE H y h2 r1).bind inM fun u c2 d2 ⟨r2, v2⟩ => ?_
    rw [v1.rd, v2.rd]
    cases cmpD o d d2 with
    | none => trivial
    | some t =>
      cases t with
      | false => exact Sim.ok ⟨r2.ml, vr_tmp_d rfl⟩
      | true =>
        simp only [ofO_some, bind_ok, q1_some, Q.bind_ok, if_true]
        refine (fE H z h3 r2).bind inR fun w c3 d3 ⟨r3, v3⟩ => ?_
        rw [v3.rd]
        cases cmpD p d2 d3 with
        | none => trivial
        | some t => exact Sim.ok ⟨r3.mr, vr_tmp_d rfl⟩
  | .and x y, Γ, A, c, ρ, h, r => by
    simp only [anE, Option.bind_eq_some_iff, Option.some.injEq] at h
    obtain ⟨a, h1, b, h2, rfl⟩ := h
    rw [ev_and, pq_and]
    refine (fE H x h1 r).bind inL fun v c1 d ⟨r1, v1⟩ => ?_
    rw [v1.rd]
    cases e : bD d with
    | none => trivial
    | some t =>
    obtain rfl := bD_form e
    cases t with
    | false => exact Sim.ok ⟨r1.ml, .inl rfl⟩
    | true => exact (fE H y h2 r1).mono (fun u c2 d2 ⟨r2, v2⟩ => ⟨r2.mr, v2.gen⟩) inR
  | .or x y, Γ, A, c, ρ, h, r => by
    simp only [anE, Option.bind_eq_some_iff, Option.some.injEq] at h
    obtain ⟨a, h1, b, h2, rfl⟩ := h
    rw [ev_or, pq_or]
    refine (fE H x h1 r).bind inL fun v c1 d ⟨r1, v1⟩ => ?_
    rw [v1.rd]
    cases e : bD d with
    | none => trivial
    | some t =>
    obtain rfl := bD_form e
    cases t with
    | true => exact Sim.ok ⟨r1.ml, .inl rfl⟩
    | false => exact (fE H y h2 r1).mono (fun u c2 d2 ⟨r2, v2⟩ => ⟨r2.mr, v2.gen⟩) inR
  | .not x, Γ, A, c, ρ, h, r => by
    simp only [anE, Option.bind_eq_some_iff, Option.some.injEq] at h
    obtain ⟨a, h1, rfl⟩ := h
    rw [ev_not, pq_not]
    refine (fE H x h1 r).bind (fun _ q => q) fun v c1 d ⟨r1, v1⟩ => ?_
    rw [v1.rd]
    cases d <;> first | trivial | exact Sim.ok ⟨r1, vr_tmp_d rfl⟩
  | .ite t x y, Γ, A, c, ρ, h, r => by
    simp only [anE, Option.bind_eq_some_iff, Option.some.injEq] at h
    obtain ⟨q, h0, a, h1, b, h2, rfl⟩ := h
    rw [ev_ite, pq_ite]
    refine (fT H t h0 r).bind inLL fun t c1 t' ⟨r1, e⟩ => ?_
    subst e
    cases t with
    | true => exact (fE H x h1 r1).mono (fun u c2 d2 ⟨r2, v2⟩ => ⟨r2.ml, v2.jl⟩) inM
    | false => exact (fE H y h2 r1).mono (fun u c2 d2 ⟨r2, v2⟩ => ⟨r2.mr, v2.jr⟩) inR
  | .call g es, Γ, A, c, ρ, h, r => by
    simp only [anE, Option.bind_eq_some_iff, Option.some.injEq] at h
    obtain ⟨a, h1, rfl⟩ := h
    rw [ev_call, pq_call]
    exact (fEs H es h1 r).bind inL fun vs c1 ds ⟨r1, v1⟩ => call_sim H r1 v1 (List.mem_append_right _ (List.mem_singleton.mpr rfl))
  | .meth g' g x es, Γ, A, c, ρ, h, r => by
    simp only [anE, Option.bind_eq_some_iff, Option.some.injEq] at h
    obtain ⟨a, h0, b, h1, rfl⟩ := h
    have e0 : evE X.P call (.meth g' g x es) c = (evE X.P call x c).bind fun a c => if isObj g' a then (evEs X.P call es c).bind (doMeth call g a) else .st := by (rw [evE.eq_def]) <;> rfl
    rw [e0, pq_meth]
    refine (fE H x h0 r).bind inL fun v c1 d ⟨r1, v1⟩ => ?_
    by_cases hd : isObjD g' d = true
    · have hl : isL d = false := by cases d <;> first | rfl | (cases hd; done)
      have ev := v1.data hl
      subst ev
      have ho : isObj g' (.d d) = true := by cases d <;> first | (cases hd; done) | exact hd
      rw [hd, ho]
      simp only [if_true]
      refine Sim.mono ((fEs H es h1 r1).bind (ys := b.2.2 ++ if g' = 1 then [loKs b.2.1 b.1] else []) inL fun vs c2 ds ⟨r2, v2⟩ => ?_) (fun _ _ _ h => h) inR
      unfold doMeth
      by_cases hg : g' = 1
      · subst hg
        have e1 : ∀ r : R Vl, mexd (.d d) r = r := fun r => by
          obtain ⟨fs, rfl⟩ := isObjD_form hd
          rfl
        rw [e1]
        have := call_sim (l := b.2.2 ++ if (1 : Nat) = 1 then [loKs b.2.1 b.1] else []) H (g := g) (ks := .dk :: b.2.1) (vs := .d d :: vs) (xs := d :: ds) r2 ⟨rfl, v2⟩ (List.mem_append_right _ (by rw [if_pos rfl]; exact List.mem_singleton.mpr rfl))
        exact this
      · have e1 : ∀ r : R Vl, mexd (.d d) r = noexc r := fun r => by
          obtain ⟨fs, rfl⟩ := isObjD_form hd
          unfold mexd
          split
          · rename_i e; cases e; exact absurd rfl hg
          · rfl
        have e2 : ∀ q : Q D, mexQ g' q = q.nox := fun q => by
          unfold mexQ
          split
          · exact absurd rfl hg
          · rfl
        rw [e1, e2]
        refine nox_sim (l := [loKs b.2.1 b.1]) ?_
        have := call_sim (l := [loKs b.2.1 b.1]) H (g := g) (ks := .dk :: b.2.1) (vs := .d d :: vs) (xs := d :: ds) r2 ⟨rfl, v2⟩ (List.mem_singleton.mpr rfl)
        exact this
    · simp only [hd, Bool.false_eq_true, if_false]
      trivial
  | .new g es, Γ, A, c, ρ, h, r => by
    simp only [anE, Option.bind_eq_some_iff, Option.some.injEq] at h
    obtain ⟨a, h1, rfl⟩ := h
    have e0 : evE X.P call (.new g es) c = (evEs X.P call es c).bind (doNew g) := by (rw [evE.eq_def]) <;> rfl
    rw [e0, pq_new]
    refine (fEs H es h1 r).bind inL fun vs c1 ds ⟨r1, v1⟩ => ?_
    have ed := v1.rd
    unfold newQ
    cases eE : newE g ds with
    | some x =>
      rw [doNew_x (by rw [ed]; exact eE)]
      exact ⟨_, rfl, _, List.mem_append_right _ (List.mem_singleton.mpr rfl), r1.frs v1⟩
    | none =>
      rw [doNew_n (by rw [ed]; exact eE), ed]
      simp only
      cases newD g ds with
      | none => trivial
      | some ds => exact Sim.ok ⟨r1.frs v1, vr_tmp_d rfl⟩
  | .blt f es, Γ, A, c, ρ, h, r => by
    simp only [anE, Option.bind_eq_some_iff, Option.some.injEq] at h
    obtain ⟨a, h1, rfl⟩ := h
    rw [ev_blt, pq_blt]
    refine (fEs H es h1 r).bind (fun _ q => q) fun vs c1 ds ⟨r1, v1⟩ => ?_
    rw [doBlt_eq, v1.rd]
    exact Sim.rdo r1 fun z e => fresh_blt e
  | .isi x t, Γ, A, c, ρ, h, r => by
    simp only [anE, Option.bind_eq_some_iff, Option.some.injEq] at h
    obtain ⟨a, h1, rfl⟩ := h
    rw [ev_isi, pq_isi]
    refine (fE H x h1 r).bind (fun _ q => q) fun v c1 d ⟨r1, v1⟩ => ?_
    rw [doIsi_eq, v1.rd]
    cases isiD d t with
    | none => trivial
    | some b => exact Sim.ok ⟨r1, vr_tmp_d rfl⟩
  | .bm _ _ _, Γ, A, c, ρ, h, r => by cases h
  | .fld x g f, Γ, A, c, ρ, h, r => by
    simp only [anE, Option.bind_eq_some_iff, Option.some.injEq] at h
    obtain ⟨a, h1, rfl⟩ := h
    have e0 : evE X.P call (.fld x g f) c = (evE X.P call x c).bind (doFld g f) := by (rw [evE.eq_def]) <;> rfl
    rw [e0, pq_fld]
    refine (fE H x h1 r).bind (fun _ q => q) fun v c1 d ⟨r1, v1⟩ => ?_
    cases e : fldD g f d with
    | none => trivial
    | some y =>
      have hl : isL d = false := by cases d <;> first | rfl | (cases e; done)
      have ev := v1.data hl
      subst ev
      have e2 : doFld g f (.d d) c1 = .ok (.d y) c1 := by
        cases d <;> first | (cases e; done) | skip
        all_goals
          unfold fldD at e
          unfold doFld
          simp only at e ⊢
          split at e
          · rename_i q; rw [if_pos q, e]; rfl
          · cases e
      rw [e2]
      exact Sim.ok ⟨r1, rfl⟩
  | .ix x y, Γ, A, c, ρ, h, r => by
    simp only [anE, Option.bind_eq_some_iff, Option.some.injEq] at h
    obtain ⟨a, h1, b, h2, rfl⟩ := h
    rw [ev_ix, pq_ix]
    refine (fE H x h1 r).bind inL fun v c1 d ⟨r1, v1⟩ => (fE H y h2 r1).bind inR fun u c2 d2 ⟨r2, v2⟩ => ?_
    rw [doIx_eq, v1.rd, v2.rd]
    cases ixD d d2 with
    | none => trivial
    | some y => exact Sim.ok ⟨r2, rfl⟩
  | .sl x lo hi, Γ, A, c, ρ, h, r => by
    simp only [anE, Option.bind_eq_some_iff, Option.some.injEq] at h
    obtain ⟨a, h1, b, h2, e, h3, rfl⟩ := h
    rw [ev_sl, pq_sl]
    refine (fE H x h1 r).bind inLL fun v c1 d ⟨r1, v1⟩ => (fO H lo h2 r1).bind inM fun u c2 u' ⟨r2, v2⟩ => (fO H hi h3 r2).bind inR fun w c3 w' ⟨r3, v3⟩ => ?_
    subst v2 v3
    rw [v1.rd]
    exact Sim.rdo r3 fun z e => fresh_sl e
  | .rev x, Γ, A, c, ρ, h, r => by
    simp only [anE, Option.bind_eq_some_iff, Option.some.injEq] at h
    obtain ⟨a, h1, rfl⟩ := h
    rw [ev_rev, pq_rev]
    refine (fE H x h1 r).bind (fun _ q => q) fun v c1 d ⟨r1, v1⟩ => ?_
    rw [v1.rd]
    cases d <;> first | trivial | exact Sim.ok ⟨r1, vr_tmp_d rfl⟩ | exact Sim.ok ⟨r1, .inl ⟨rfl, rfl⟩⟩
  | .tup es, Γ, A, c, ρ, h, r => by
    simp only [anE, Option.bind_eq_some_iff, Option.some.injEq] at h
    obtain ⟨a, h1, rfl⟩ := h
    rw [ev_tup, pq_tup]
    refine (fEs H es h1 r).bind (fun _ q => q) fun vs c1 ds ⟨r1, v1⟩ => ?_
    rw [v1.rd]
    exact Sim.ok ⟨r1.frs v1, vr_tmp_d rfl⟩
  | .lst es, Γ, A, c, ρ, h, r => by
    simp only [anE, Option.bind_eq_some_iff, Option.some.injEq] at h
    obtain ⟨a, h1, rfl⟩ := h
    rw [ev_lst, pq_lst]
    refine (fEs H es h1 r).bind (fun _ q => q) fun vs c1 ds ⟨r1, v1⟩ => ?_
    rw [v1.rd]
    exact Sim.ok ⟨r1.frs v1, .inl ⟨rfl, rfl⟩⟩
  | .dsp ks es, Γ, A, c, ρ, h, r => by
    simp only [anE, Option.bind_eq_some_iff, Option.some.injEq] at h
    obtain ⟨a, h1, rfl⟩ := h
    have e0 : evE X.P call (.dsp ks es) c = (evEs X.P call es c).bind fun vs c => .ok (.d (.dct (ks.map .str) (vs.map Vl.rd))) (frzs vs c) := by (rw [evE.eq_def]) <;> rfl
    rw [e0, pq_dsp]
    refine (fEs H es h1 r).bind (fun _ q => q) fun vs c1 ds ⟨r1, v1⟩ => ?_
    rw [v1.rd]
    exact Sim.ok ⟨r1.frs v1, vr_tmp_d rfl⟩
  | .isl x, Γ, A, c, ρ, h, r => by
    have e0 : evE X.P call (.isl x) c = (evE X.P call x c).bind kIsl := by (rw [evE.eq_def]) <;> rfl
    rw [e0, pq_isl]
    refine (fE H x h r).bind (fun _ q => q) fun v c1 d ⟨r1, v1⟩ => ?_
    unfold kIsl
    rw [v1.rd]
    cases d <;> first | trivial | exact Sim.ok ⟨r1, v1⟩
  | .orv x y, Γ, A, c, ρ, h, r => by
    simp only [anE, Option.bind_eq_some_iff, Option.some.injEq] at h
    obtain ⟨a, h1, b, h2, rfl⟩ := h
    have e0 : evE X.P call (.orv x y) c = (evE X.P call x c).bind fun a c => (ofO (truD a.rd) c).bind fun t c => if t then .ok a c else evE X.P call y c := by (rw [evE.eq_def]) <;> rfl
    rw [e0, pq_orv]
    refine (fE H x h1 r).bind inL fun v c1 d ⟨r1, v1⟩ => ?_
    rw [v1.rd]
    cases truD d with
    | none => trivial
    | some t =>
      cases t with
      | true => exact Sim.ok ⟨r1.ml, v1.jl⟩
      | false => exact (fE H y h2 r1).mono (fun u c2 d2 ⟨r2, v2⟩ => ⟨r2.mr, v2.jr⟩) inR
  | .lc e t vs w es cs, Γ, A, c, ρ, h, r => by
    simp only [anE, Option.bind_eq_some_iff, Option.some.injEq] at h
    obtain ⟨a, h1, h⟩ := h
    split at h
    case isFalse => cases h
    rename_i hv
    simp only [Bool.and_eq_true, List.all_eq_true] at hv
    rw [ev_lc, pq_lc]
    -- a turn, at any state that stays
    have go : ∀ (G : Gm), (∀ c, Rel n a.1 c ρ → Rel n G (c.wipe vs) ρ) → (∃ q s, anTs X cs (setAll 4 (tgL t) G) = some q ∧ anE X e q.1 = some s ∧ leG (mtG (setAll 3 vs q.1) (setAll 3 vs (frK s.2.1 s.1))) G = true) →
        Sim n ρ ((evEs X.P call es c).bind fun us c => (ofO (wkD w (us.map Vl.rd)) c).bind fun its c => doLc t vs (evTs X.P call cs) (evE X.P call e) its c) ((pEs X.P cq es ρ).bind fun us => (q1 (wkD w us)).bind fun its => if its.length ≤ line then
      (lcQ (fun x => tgQ t x ρ fun ρ => (pTs X.P cq cs ρ).bind fun b => if b then (pE X.P cq e ρ).bind fun y => .ok (some y) else .ok none) its).bind fun ys => .ok (.lst ys) else .st) (EP n G ρ .tmp) a.2.2 := fun G hG ⟨q, s, hq, hs, hle⟩ => by
      refine (fEs H es h1 r).bind (fun _ q => q) fun us c1 ds ⟨r1, v1⟩ => ?_
      rw [v1.rd]
      cases wkD w ds with
      | none => trivial
      | some its =>
        simp only [ofO_some, bind_ok, q1_some, Q.bind_ok]
        split
        case isFalse => trivial
        rename_i hlen
        have hno : (vs.any fun i => isOwn (c1.get i)) = false := by
          rw [List.any_eq_false]
          intro i hi
          rw [not_own r1 (hv.1 i hi)]; decide
        unfold doLc
        rw [hno]
        simp only [Bool.false_eq_true, if_false]
        have rG := hG c1 r1
        have L := lc_sim (G := G) (ρ := ρ) (f := lcF t vs (evTs X.P call cs) (evE X.P call e)) (F := fun x => tgQ t x ρ fun ρ => (pTs X.P cq cs ρ).bind fun b => if b then (pE X.P cq e ρ).bind fun y => .ok (some y) else .ok none) (fun x c2 r2 => by
          unfold lcF
          rcases tgt_sim (t := t) (x := x) (k := fun ρ => (pTs X.P cq cs ρ).bind fun b => if b then (pE X.P cq e ρ).bind fun y => .ok (some y) else .ok none) r2 with z | ⟨c3, ρ3, e3, r3, ez, ag⟩
          · rw [z]; trivial
          · rw [ez, e3]
            simp only
            have S1 := fTs H cs hq r3
            have agv : ∀ j, j ∉ vs → gD ρ3 j = gD ρ j := fun j hj => ag j fun z => hj (by simpa using hv.2 j z)
            have back : ∀ {Δ : Gm} {c4 : C}, Rel n Δ c4 ρ3 → leG (setAll 3 vs Δ) G = true → Rel n G (c4.wipe vs) ρ := fun r4 hl => (r4.wipe agv r2.rl).le hl rG.gl
            have hle1 : ∀ {c4 : C}, Rel n q.1 c4 ρ3 → Rel n G (c4.wipe vs) ρ := fun r4 => ((r4.wipe agv r2.rl).ml).le hle rG.gl
            have hle2 : ∀ {c4 : C}, Rel n (frK s.2.1 s.1) c4 ρ3 → Rel n G (c4.wipe vs) ρ := fun r4 => ((r4.wipe agv r2.rl).mr).le hle rG.gl
            cases eb : pTs X.P cq cs ρ3 with
            | st => trivial
            | ex y => trivial
            | ok b =>
              rw [eb] at S1
              obtain ⟨b', c4, e4, r4, rfl⟩ := S1
              rw [e4]
              cases b' with
              | false => exact ⟨_, rfl, hle1 r4⟩
              | true =>
                simp only [bind_ok, Q.bind_ok, if_true]
                have S2 := fE H e hs r4
                cases ey : pE X.P cq e ρ3 with
                | st => trivial
                | ex y => trivial
                | ok y =>
                  rw [ey] at S2
                  obtain ⟨v, c5, e5, r5, v5⟩ := S2
                  rw [e5]
                  refine ⟨(frz v c5).wipe vs, ?_, hle2 (r5.fr v5)⟩
                  simp only [bind_ok, noex, v5.rd]) its [] (c1.wipe vs) rG (by simpa using hlen)
        revert L
        generalize lcQ _ its = z
        intro L
        cases z with
        | st => trivial
        | ex y => exact False.elim L
        | ok ys =>
          obtain ⟨c2, e2, r2⟩ := L
          rw [e2]
          exact Sim.ok ⟨r2, .inl ⟨by simp, rfl⟩⟩
    simp only [Option.bind_eq_some_iff] at h
    obtain ⟨q, hq, s, hs, h⟩ := h
    have g0 : ∀ c, Rel n a.1 c ρ → Rel n (setAll 3 vs a.1) (c.wipe vs) ρ := fun c r1 => r1.wipe (fun _ _ => rfl) r.rl
    split at h
    · rename_i hle
      cases h
      exact go _ g0 ⟨q, s, hq, hs, hle⟩
    · simp only [Option.bind_eq_some_iff] at h
      obtain ⟨q2, hq2, s2, hs2, h⟩ := h
      split at h
      · rename_i hle
        cases h
        exact go _ (fun c r1 => (g0 c r1).ml) ⟨q2, s2, hq2, hs2, hle⟩
      · cases h
theorem fEs (H : CallR X call cq) : ∀ (es : List E) {Γ : Gm} {A : Gm × List Kd × List Gm} {c : C} {ρ : List D}, anEs X es Γ = some A → Rel n Γ c ρ → Sim n ρ (evEs X.P call es c) (pEs X.P cq es ρ) (EPs n A.1 ρ A.2.1) A.2.2
  | [], Γ, A, c, ρ, h, r => by cases h; rw [evs_nil]; exact Sim.ok ⟨r, trivial⟩
  | e :: es, Γ, A, c, ρ, h, r => by
    simp only [anEs, Option.bind_eq_some_iff, Option.some.injEq] at h
    obtain ⟨a, h1, b, h2, rfl⟩ := h
    rw [evs_cons, pqs_cons]
    exact (fE H e h1 r).bind inL fun v c1 d ⟨r1, v1⟩ => (fEs H es h2 r1).bind inR fun vs c2 ds ⟨r2, v2⟩ => Sim.ok ⟨r2, v1, v2⟩
theorem fO (H : CallR X call cq) : ∀ (e : Option E) {Γ : Gm} {A : Gm × List Gm} {c : C} {ρ : List D}, anO X e Γ = some A → Rel n Γ c ρ → Sim n ρ (evO X.P call e c) (pO X.P cq e ρ) (TP n A.1 ρ) A.2
  | none, Γ, A, c, ρ, h, r => by cases h; rw [evo_none]; exact Sim.ok ⟨r, rfl⟩
  | some e, Γ, A, c, ρ, h, r => by
    simp only [anO, Option.bind_eq_some_iff, Option.some.injEq] at h
    obtain ⟨a, h1, rfl⟩ := h
    rw [evo_some, pqo_some]
    refine (fE H e h1 r).bind (fun _ q => q) fun v c1 d ⟨r1, v1⟩ => ?_
    rw [v1.rd]
    cases d <;> first | trivial | exact Sim.ok ⟨r1, rfl⟩
theorem fT (H : CallR X call cq) : ∀ (e : E) {Γ : Gm} {A : Gm × List Gm} {c : C} {ρ : List D}, anT X e Γ = some A → Rel n Γ c ρ → Sim n ρ (evT X.P call e c) (pT X.P cq e ρ) (TP n A.1 ρ) A.2
  | .and x y, Γ, A, c, ρ, h, r => by
    simp only [anT, Option.bind_eq_some_iff, Option.some.injEq] at h
    obtain ⟨a, h1, b, h2, rfl⟩ := h
    rw [evt_and, pqt_and]
    refine (fT H x h1 r).bind inL fun t c1 t' ⟨r1, e⟩ => ?_
    subst e
    cases t with
    | false => exact Sim.ok ⟨r1.ml, rfl⟩
    | true => exact (fT H y h2 r1).mono (fun u c2 d2 ⟨r2, v2⟩ => ⟨r2.mr, v2⟩) inR
  | .or x y, Γ, A, c, ρ, h, r => by
    simp only [anT, Option.bind_eq_some_iff, Option.some.injEq] at h
    obtain ⟨a, h1, b, h2, rfl⟩ := h
    rw [evt_or, pqt_or]
    refine (fT H x h1 r).bind inL fun t c1 t' ⟨r1, e⟩ => ?_
    subst e
    cases t with
    | true => exact Sim.ok ⟨r1.ml, rfl⟩
    | false => exact (fT H y h2 r1).mono (fun u c2 d2 ⟨r2, v2⟩ => ⟨r2.mr, v2⟩) inR
  | .not x, Γ, A, c, ρ, h, r => by
    rw [evt_not, pqt_not]
    refine (fT H x h r).bind (fun _ q => q) fun t c1 t' ⟨r1, e⟩ => ?_
    subst e
    exact Sim.ok ⟨r1, rfl⟩
  | .cmp o x y, Γ, A, c, ρ, h, r => by
    simp only [anT, Option.bind_eq_some_iff, Option.some.injEq] at h
    obtain ⟨a, h1, b, h2, rfl⟩ := h
    rw [evt_cmp, pqt_cmp]
    refine (fE H x h1 r).bind inL fun v c1 d ⟨r1, v1⟩ => (fE H y h2 r1).bind inR fun u c2 d2 ⟨r2, v2⟩ => ?_
    rw [v1.rd, v2.rd]
    exact Sim.q1 fun b e => ⟨_, e, r2, rfl⟩
  | .chain o p x y z, Γ, A, c, ρ, h, r => by
    simp only [anT, Option.bind_eq_some_iff, Option.some.injEq] at h
    obtain ⟨a, h1, b, h2, e, h3, rfl⟩ := h
    rw [evt_chain, pqt_chain]
    refine (fE H x h1 r).bind inLL fun v c1 d ⟨r1, v1⟩ => (fE H y h2 r1).bind inM fun u c2 d2 ⟨r2, v2⟩ => ?_
    rw [v1.rd, v2.rd]
    cases cmpD o d d2 with
    | none => trivial
    | some t =>
      cases t with
      | false => exact Sim.ok ⟨r2.ml, rfl⟩
      | true =>
        simp only [ofO_some, bind_ok, q1_some, Q.bind_ok, if_true]
        refine (fE H z h3 r2).bind inR fun w c3 d3 ⟨r3, v3⟩ => ?_
        rw [v3.rd]
        exact Sim.q1 fun b e => ⟨_, e, r3.mr, rfl⟩
  | .v i, Γ, A, c, ρ, h, r => by
    simp only [anT] at h
    split at h
    case isFalse => cases h
    rename_i hs
    cases h
    have ha : ∃ A, anE X (.v i) Γ = some A ∧ A.1 = Γ ∧ A.2.2 = [] := by
      unfold inSet at hs
      simp only [Bool.or_eq_true, beq_iff_eq] at hs
      rcases hs with (hs | hs) | hs <;> exact ⟨_, by simp only [anE, hs]; rfl, rfl, rfl⟩
    obtain ⟨A, h1, h2, h3⟩ := ha
    have := fE H (.v i) h1 r
    rw [evt_v, pqt_v]
    have e : q1 (truD (gD ρ i)) = (pE X.P cq (.v i) ρ).bind fun a => q1 (truD a) := rfl
    rw [e]
    refine this.bind (fun Γ q => by rw [h3] at q; cases q) fun v c1 d ⟨r1, v1⟩ => ?_
    rw [asB_eq, v1.rd]
    rw [h2] at r1
    exact Sim.q1 fun b e => ⟨_, e, r1, rfl⟩
  | .call g es, Γ, A, c, ρ, h, r => by
    simp only [anT, Option.bind_eq_some_iff, Option.some.injEq] at h
    obtain ⟨a, h1, rfl⟩ := h
    rw [evt_call, pqt_call]
    refine Sim.bind (xs := a.2.2 ++ [loKs a.2.1 a.1]) ((fEs H es h1 r).bind inL fun vs c1 ds ⟨r1, v1⟩ => call_sim H r1 v1 (List.mem_append_right _ (List.mem_singleton.mpr rfl))) (fun _ q => q) fun v c1 d ⟨r1, v1⟩ => ?_
    rw [asB_eq, v1.rd]
    exact Sim.q1 fun b e => ⟨_, e, r1, rfl⟩
  | .blt f es, Γ, A, c, ρ, h, r => by
    simp only [anT, Option.bind_eq_some_iff, Option.some.injEq] at h
    obtain ⟨a, h1, rfl⟩ := h
    have e1 : anE X (.blt f es) Γ = some (a.1, .tmp, a.2.2) := by simp only [anE, h1]; rfl
    rw [evt_blt, pqt_blt, ← ev_blt, ← pq_blt]
    refine (fE H (.blt f es) e1 r).bind (fun _ q => q) fun v c1 d ⟨r1, v1⟩ => ?_
    rw [asB_eq, v1.rd]
    exact Sim.q1 fun b e => ⟨_, e, r1, rfl⟩
  | .isi x t, Γ, A, c, ρ, h, r => by
    simp only [anT, Option.bind_eq_some_iff, Option.some.injEq] at h
    obtain ⟨a, h1, rfl⟩ := h
    rw [evt_isi, pqt_isi]
    have : (pE X.P cq x ρ).bind (fun a => q1 (isiD a t)) = ((pE X.P cq x ρ).bind fun a => (q1 (isiD a t)).bind fun b => .ok (.bl b)).bind fun a => q1 (truD a) := by
      cases pE X.P cq x ρ with
      | st => rfl
      | ex y => rfl
      | ok y =>
        simp only [Q.bind_ok]
        cases isiD y t <;> rfl
    rw [this]
    refine Sim.bind (p := EP n a.1 ρ .tmp) (xs := a.2.2) ((fE H x h1 r).bind (fun _ q => q) fun v c1 d ⟨r1, v1⟩ => ?_) (fun _ q => q) fun v c1 d ⟨r1, v1⟩ => ?_
    · rw [doIsi_eq, v1.rd]
      cases isiD d t with
      | none => trivial
      | some b => exact Sim.ok ⟨r1, vr_tmp_d rfl⟩
    · rw [asB_eq, v1.rd]
      exact Sim.q1 fun b e => ⟨_, e, r1, rfl⟩
  | .ix x y, Γ, A, c, ρ, h, r => by
    simp only [anT, Option.bind_eq_some_iff, Option.some.injEq] at h
    obtain ⟨a, h1, b, h2, rfl⟩ := h
    have e1 : anE X (.ix x y) Γ = some (b.1, .dk, a.2.2 ++ b.2.2) := by simp only [anE, h1, Option.bind_some, h2]
    rw [evt_ix, pqt_ix, ← ev_ix, ← pq_ix]
    refine Sim.bind (p := EP n b.1 ρ .dk) (xs := a.2.2 ++ b.2.2) ?_ (fun _ q => q) fun v c1 d ⟨r1, v1⟩ => ?_
    · rw [ev_ix, pq_ix]
      refine (fE H x h1 r).bind inL fun v c1 d ⟨r1, v1⟩ => (fE H y h2 r1).bind inR fun u c2 d2 ⟨r2, v2⟩ => ?_
      rw [doIx_eq, v1.rd, v2.rd]
      cases ixD d d2 with
      | none => trivial
      | some y => exact Sim.ok ⟨r2, rfl⟩
    · rw [asB_eq, v1.rd]
      exact Sim.q1 fun b e => ⟨_, e, r1, rfl⟩
  | .k _, _, _, _, _, h, _ => by cases h
  | .n, _, _, _, _, h, _ => by cases h
  | .b _, _, _, _, _, h, _ => by cases h
  | .i _, _, _, _, _, h, _ => by cases h
  | .s _, _, _, _, _, h, _ => by cases h
  | .bin _ _ _, _, _, _, _, h, _ => by cases h
  | .neg _, _, _, _, _, h, _ => by cases h
  | .ite _ _ _, _, _, _, _, h, _ => by cases h
  | .meth _ _ _ _, _, _, _, _, h, _ => by cases h
  | .new _ _, _, _, _, _, h, _ => by cases h
  | .bm _ _ _, _, _, _, _, h, _ => by cases h
  | .fld _ _ _, _, _, _, _, h, _ => by cases h
  | .sl _ _ _, _, _, _, _, h, _ => by cases h
  | .rev _, _, _, _, _, h, _ => by cases h
  | .tup _, _, _, _, _, h, _ => by cases h
  | .lst _, _, _, _, _, h, _ => by cases h
  | .lc _ _ _ _ _ _, _, _, _, _, h, _ => by cases h
  | .isl _, _, _, _, _, h, _ => by cases h
  | .dsp _ _, _, _, _, _, h, _ => by cases h
  | .orv _ _, _, _, _, _, h, _ => by cases h
theorem fTs (H : CallR X call cq) : ∀ (es : List E) {Γ : Gm} {A : Gm × List Gm} {c : C} {ρ : List D}, anTs X es Γ = some A → Rel n Γ c ρ → Sim n ρ (evTs X.P call es c) (pTs X.P cq es ρ) (TP n A.1 ρ) A.2
  | [], Γ, A, c, ρ, h, r => by cases h; rw [evts_nil]; exact Sim.ok ⟨r, rfl⟩
  | [e], Γ, A, c, ρ, h, r => by
    rw [evts_one]
    exact fT H e h r
  | _ :: _ :: _, Γ, A, c, ρ, h, r => by cases h
end
end
end Ev
end
section
set_option maxRecDepth 100000
set_option maxHeartbeats 1000000
/-! Pv5: statements, functions, the whole text. -/
namespace Ev
section
variable {P : Pg} {cq : CallQ} {fl : Nat} {ρ : List D} {β : Type} {kn kb kc : List D → Q β} {kr : D → Q β}
theorem cq_asg {t : Tg} {e : E} : cS P cq fl (.asg t e) β ρ kn kb kc kr = (pE P cq e ρ).bind fun x => tgQ t x ρ kn := rfl
theorem cq_app {i : Nat} {e : E} : cS P cq fl (.app i e) β ρ kn kb kc kr = (q1 (islD (gD ρ i))).bind fun l => (pE P cq e ρ).bind fun x => (q1 (appD x l)).bind fun l => kn (sD ρ i l) := rfl
theorem cq_pop {t : Tg} {i : Nat} : cS P cq fl (.pop t i) β ρ kn kb kc kr = (q1 (lastD (gD ρ i))).bind fun x => tgQ t x (sD ρ i (restD (gD ρ i))) kn := rfl
theorem cq_setix {i : Nat} {x y : E} : cS P cq fl (.setix i x y) β ρ kn kb kc kr = (pE P cq y ρ).bind fun v => (q1 (islD (gD ρ i))).bind fun l => (pE P cq x ρ).bind fun j => (q1 (putD v j l)).bind fun l => kn (sD ρ i l) := rfl
theorem cq_ife {c : E} {a b : List S} : cS P cq fl (.ife c a b) β ρ kn kb kc kr = (pT P cq c ρ).bind fun q => if q then cSs P cq fl a β ρ kn kb kc kr else cSs P cq fl b β ρ kn kb kc kr := rfl
theorem cq_forr {t : Tg} {w : Wk} {xs : List E} {b : List S} : cS P cq fl (.forr t w xs b) β ρ kn kb kc kr = (pEs P cq xs ρ).bind fun us => (q1 (wkD w us)).bind fun its => pfor t (fun ρ kn kb kc => cSs P cq fl b β ρ kn kb kc kr) kn its ρ := rfl
theorem cq_whl {c : E} {b : List S} : cS P cq fl (.whl c b) β ρ kn kb kc kr = pwhl (fun ρ => pT P cq c ρ) (fun ρ kn kb kc => cSs P cq fl b β ρ kn kb kc kr) kn fl ρ := rfl
theorem cq_ret {e : E} : cS P cq fl (.ret e) β ρ kn kb kc kr = (pE P cq e ρ).bind kr := rfl
theorem cq_exp {e : E} : cS P cq fl (.exp e) β ρ kn kb kc kr = (pE P cq e ρ).bind fun _ => kn ρ := rfl
theorem cqs_cons {s : S} {r : List S} : cSs P cq fl (s :: r) β ρ kn kb kc kr = cS P cq fl s β ρ (fun ρ => cSs P cq fl r β ρ kn kb kc kr) kb kc kr := rfl
end
def Out {β : Type} (n : Nat) (A : Ar) (ro : Bool) (r : R Fl) (q : Q β) (kn kb kc : List D → Q β) (kr : D → Q β) : Prop := q = .st ∨ match r with
  | .st => False
  | .ok .nx c => ∃ Γ ρ, A.nx = some Γ ∧ Rel n Γ c ρ ∧ q = kn ρ
  | .ok .bk c => ∃ Γ ρ, Γ ∈ A.js ∧ Rel n Γ c ρ ∧ q = kb ρ
  | .ok .ct c => ∃ Γ ρ, Γ ∈ A.js ∧ Rel n Γ c ρ ∧ q = kc ρ
  | .ok (.rt v) c => c.sto = [] ∧ ∃ x, RvR ro v x ∧ q = kr x
  | .ex x c => q = .ex x ∧ ∃ Γ ρ, Γ ∈ A.xs ∧ Rel n Γ c ρ
section
variable {n : Nat} {A B : Ar} {ro : Bool} {β α γ : Type} {kn kb kc : List D → Q β} {kr : D → Q β} {r : R α} {q : Q γ} {p : α → C → γ → Prop} {xs : List Gm}
theorem Sim.out {f : α → C → R Fl} {g : γ → Q β} (h : Sim n ρ r q p xs) (hs : ∀ Γ, Γ ∈ xs → Γ ∈ A.xs) (hf : ∀ a c b, p a c b → Out n A ro (f a c) (g b) kn kb kc kr) : Out n A ro (r.bind f) (q.bind g) kn kb kc kr := by
  cases q with
  | st => exact .inl rfl
  | ok b =>
    obtain ⟨a, c, rfl, h⟩ := h
    exact hf a c b h
  | ex x =>
    obtain ⟨c, rfl, Γ, h1, h2⟩ := h
    exact .inr ⟨rfl, Γ, ρ, hs Γ h1, h2⟩
theorem Out.go {c : C} {Γ : Gm} {ρ : List D} (h : A.nx = some Γ) (r : Rel n Γ c ρ) : Out n A ro (.ok .nx c) (kn ρ) kn kb kc kr := .inr ⟨Γ, ρ, h, r, rfl⟩
theorem mtO_l {a b : Option Gm} {Γ : Gm} {c : C} {ρ : List D} (h : a = some Γ) (r : Rel n Γ c ρ) : ∃ Δ, mtO a b = some Δ ∧ Rel n Δ c ρ := by
  subst h
  cases b with
  | none => exact ⟨_, rfl, r⟩
  | some Δ => exact ⟨_, rfl, r.ml⟩
theorem mtO_r {a b : Option Gm} {Γ : Gm} {c : C} {ρ : List D} (h : b = some Γ) (r : Rel n Γ c ρ) : ∃ Δ, mtO a b = some Δ ∧ Rel n Δ c ρ := by
  subst h
  cases a with
  | none => exact ⟨_, rfl, r⟩
  | some Δ => exact ⟨_, rfl, r.mr⟩
theorem Out.mono {r : R Fl} {q : Q β} (h : Out n A ro r q kn kb kc kr) (hn : ∀ Γ c ρ, A.nx = some Γ → Rel n Γ c ρ → ∃ Δ, B.nx = some Δ ∧ Rel n Δ c ρ) (hj : ∀ Γ, Γ ∈ A.js → Γ ∈ B.js) (hx : ∀ Γ, Γ ∈ A.xs → Γ ∈ B.xs) : Out n B ro r q kn kb kc kr := by
  rcases h with h | h
  · exact .inl h
  · refine .inr ?_
    cases r with
    | st => exact h
    | ex x c =>
      obtain ⟨h1, Γ, ρ, h2, h3⟩ := h
      exact ⟨h1, Γ, ρ, hx Γ h2, h3⟩
    | ok f c =>
      cases f with
      | nx =>
        obtain ⟨Γ, ρ, h1, h2, h3⟩ := h
        obtain ⟨Δ, e, r⟩ := hn Γ c ρ h1 h2
        exact ⟨Δ, ρ, e, r, h3⟩
      | bk =>
        obtain ⟨Γ, ρ, h1, h2⟩ := h
        exact ⟨Γ, ρ, hj Γ h1, h2⟩
      | ct =>
        obtain ⟨Γ, ρ, h1, h2⟩ := h
        exact ⟨Γ, ρ, hj Γ h1, h2⟩
      | rt v => exact h
theorem Rel.mtl : ∀ (l : List Gm) {Γ : Gm} {c : C} {ρ : List D}, Rel n Γ c ρ → Rel n (mtL Γ l) c ρ
  | [], _, _, _, r => r
  | g :: l, _, _, _, r => Rel.mtl l r.ml
theorem anL_out {f : Gm → Option Ar} : ∀ (m : Nat) {Γ : Gm} {G : Gm} {A : Ar}, anL f m Γ = some (G, A) → f G = some A ∧ (∀ g, g ∈ A.nx.toList ++ A.js → leG g G = true) ∧ ∀ c ρ, Rel n Γ c ρ → Rel n G c ρ
  | 0, Γ, G, A, h => by cases h
  | m + 1, Γ, G, A, h => by
    simp only [anL, Option.bind_eq_some_iff] at h
    obtain ⟨A', h1, h⟩ := h
    split at h
    · rename_i q
      cases h
      refine ⟨h1, fun g hg => ?_, fun c ρ r => r⟩
      rw [List.all_eq_true] at q
      exact q g hg
    · obtain ⟨h2, h3, h4⟩ := anL_out m h
      exact ⟨h2, h3, fun c ρ r => h4 c ρ (r.mtl _)⟩
theorem for_sim {t : Tg} {body : C → R Fl} {bq : List D → (kn kb kc : List D → Q β) → Q β} {G : Gm} {A : Ar} {k : List D → Q β}
    (hb : ∀ (c : C) (ρ : List D) (kn kb kc : List D → Q β), Rel n (setAll 4 (tgL t) G) c ρ → Out n A ro (body c) (bq ρ kn kb kc) kn kb kc kr) (hG : ∀ g, g ∈ A.nx.toList ++ A.js → leG g G = true) :
    ∀ (its : List D) (c : C) (ρ : List D), Rel n G c ρ → Out n ⟨some G, [], A.xs⟩ ro (forL t body its c) (pfor t bq k its ρ) k kb kc kr
  | [], c, ρ, r => .inr ⟨G, ρ, rfl, r, rfl⟩
  | x :: xs, c, ρ, r => by
    rw [forL, pfor]
    rcases tgt_sim (t := t) (x := x) (k := fun ρ => bq ρ (fun ρ => pfor t bq k xs ρ) k (fun ρ => pfor t bq k xs ρ)) r with z | ⟨c1, ρ1, e1, r1, ez, _⟩
    · rw [z]; exact .inl rfl
    · rw [e1, ez]
      simp only
      rcases hb c1 ρ1 (fun ρ => pfor t bq k xs ρ) k (fun ρ => pfor t bq k xs ρ) r1 with z | z
      · rw [z]; exact .inl rfl
      · cases eb : body c1 with
        | st => rw [eb] at z; exact False.elim z
        | ex y c2 => rw [eb] at z; exact .inr z
        | ok f c2 =>
          rw [eb] at z
          cases f with
          | nx =>
            obtain ⟨Γ, ρ2, h1, h2, h3⟩ := z
            rw [h3]
            exact for_sim hb hG xs c2 ρ2 (h2.le (hG Γ (by rw [h1]; simp)) r.gl)
          | ct =>
            obtain ⟨Γ, ρ2, h1, h2, h3⟩ := z
            rw [h3]
            exact for_sim hb hG xs c2 ρ2 (h2.le (hG Γ (List.mem_append_right _ h1)) r.gl)
          | bk =>
            obtain ⟨Γ, ρ2, h1, h2, h3⟩ := z
            exact .inr ⟨G, ρ2, rfl, h2.le (hG Γ (List.mem_append_right _ h1)) r.gl, h3⟩
          | rt v => exact .inr z
theorem whl_sim {test : C → R Bool} {tq : List D → Q Bool} {body : C → R Fl} {bq : List D → (kn kb kc : List D → Q β) → Q β} {G G1 : Gm} {A : Ar} {ys : List Gm} {k : List D → Q β}
    (ht : ∀ c ρ, Rel n G c ρ → Sim n ρ (test c) (tq ρ) (TP n G1 ρ) ys)
    (hb : ∀ (c : C) (ρ : List D) (kn kb kc : List D → Q β), Rel n G1 c ρ → Out n A ro (body c) (bq ρ kn kb kc) kn kb kc kr) (hG : ∀ g, g ∈ A.nx.toList ++ (A.js ++ [G1]) → leG g G = true) :
    ∀ (m : Nat) (c : C) (ρ : List D), Rel n G c ρ → Out n ⟨some G, [], ys ++ A.xs⟩ ro (whlL test body m c) (pwhl tq bq k m ρ) k kb kc kr
  | 0, c, ρ, r => .inl rfl
  | m + 1, c, ρ, r => by
    rw [whlL, pwhl]
    refine (ht c ρ r).out (fun Γ q => List.mem_append_left _ q) fun b c1 b' ⟨r1, e⟩ => ?_
    subst e
    cases b with
    | false => exact .inr ⟨G, ρ, rfl, r1.le (hG G1 (by simp)) r.gl, rfl⟩
    | true =>
      simp only [if_true]
      rcases hb c1 ρ (fun ρ => pwhl tq bq k m ρ) k (fun ρ => pwhl tq bq k m ρ) r1 with z | z
      · rw [z]; exact .inl rfl
      · cases eb : body c1 with
        | st => rw [eb] at z; exact False.elim z
        | ex y c2 =>
          rw [eb] at z
          obtain ⟨z1, Γ, ρ2, z2, z3⟩ := z
          exact .inr ⟨z1, Γ, ρ2, List.mem_append_right _ z2, z3⟩
        | ok f c2 =>
          rw [eb] at z
          cases f with
          | nx =>
            obtain ⟨Γ, ρ2, h1, h2, h3⟩ := z
            rw [h3]
            exact whl_sim ht hb hG m c2 ρ2 (h2.le (hG Γ (by rw [h1]; simp)) r.gl)
          | ct =>
            obtain ⟨Γ, ρ2, h1, h2, h3⟩ := z
            rw [h3]
            exact whl_sim ht hb hG m c2 ρ2 (h2.le (hG Γ (by simp [h1])) r.gl)
          | bk =>
            obtain ⟨Γ, ρ2, h1, h2, h3⟩ := z
            exact .inr ⟨G, ρ2, rfl, h2.le (hG Γ (by simp [h1])) r.gl, h3⟩
          | rt v => exact .inr z
end
section
variable {X : Px} {call : CallT} {cq : CallQ} {n : Nat} {β : Type}
theorem lay_sim {t : Tg} {k : Kd} {v : Vl} {x : D} {Γ : Gm} {c : C} {ρ : List D} {kn kb kc : List D → Q β} {kr : D → Q β} {ro : Bool} {ys : List Gm} (r : Rel n Γ c ρ) (h : VR ρ k v x) : Out n ⟨some (layK t k Γ), [], ys⟩ ro (lay t v c) (tgQ t x ρ kn) kn kb kc kr := by
  cases t with
  | nm i =>
    show Out n _ ro _ (kn (sD ρ i x)) kn kb kc kr
    cases k with
    | tmp =>
      rcases h with ⟨rfl, hl⟩ | ⟨rfl, hl⟩
      · exact Out.go rfl (r.put i 2 (.own x) x (.inl ⟨rfl, hl⟩))
      · exact Out.go rfl (r.put i 2 (.dat x) x (.inr ⟨rfl, hl⟩))
    | dk =>
      rw [show v = .d x from h]
      exact Out.go rfl (r.put i 4 (.dat x) x rfl)
    | bor j =>
      have z := r.fr (k := .bor j) h
      rcases h with ⟨e, ⟨rfl, hl⟩ | ⟨rfl, hl⟩⟩
      · exact Out.go rfl (z.put i 4 (.dat x) x rfl)
      · exact Out.go rfl (z.put i 4 (.dat x) x rfl)
    | unk is =>
      have z := r.fr (k := .unk is) h
      rcases h with rfl | ⟨rfl, hl⟩ | ⟨j, hj, rfl, hl, e⟩
      · exact Out.go rfl (z.put i 1 (.dat x) x (.inl rfl))
      · exact Out.go rfl (z.put i 1 (.own x) x (.inr ⟨rfl, hl⟩))
      · exact Out.go rfl (z.put i 1 (.dat x) x (.inl rfl))
  | tp is =>
    rcases tgt_sim (t := .tp is) (x := x) (k := kn) r with z | ⟨c1, ρ1, e1, r1, ez, _⟩
    · exact .inl z
    · have hl : isL x = false := by cases x <;> first | rfl | (cases e1; done)
      have ev := h.data hl
      subst ev
      rw [ez]
      have : lay (.tp is) (.d x) c = .ok .nx c1 := by
        unfold lay
        simp only
        rw [e1]
      rw [this]
      exact .inr ⟨_, ρ1, rfl, r1, rfl⟩
theorem keepsV_any {t : Tg} {w : Wk} {b : List S} : ∀ {us : List Vl} {ks : List Kd} {ds : List D} {ρ : List D}, VRs ρ ks us ds → ks.all (keepK [.forr t .seq [] b]) = true → keepsV [.forr t w [] b] us = true
  | [], [], [], ρ, _, _ => rfl
  | u :: us, k :: ks, d :: ds, ρ, ⟨h1, h2⟩, h => by
    simp only [List.all_cons, Bool.and_eq_true] at h
    have ih := keepsV_any (t := t) (w := w) (b := b) h2 h.2
    have ew : ∀ i, keepsSs i [.forr t .seq [] b] = keepsSs i [.forr t w [] b] := fun i => by cases t <;> rfl
    cases u with
    | d x => exact ih
    | tmp x => exact ih
    | bor i x =>
      rw [keepsV_bor, ih, Bool.and_true]
      cases k with
      | tmp => rcases h1 with ⟨q, _⟩ | ⟨q, _⟩ <;> cases q
      | dk => cases (show Vl.bor i x = .d d from h1)
      | bor j =>
        rcases h1 with ⟨_, ⟨q, _⟩ | ⟨q, _⟩⟩
        · cases q
          rw [← ew]; exact h.1
        · cases q
      | unk is =>
        rcases h1 with q | ⟨q, _⟩ | ⟨j, hj, q, _⟩
        · cases q
        · cases q
        · cases q
          have := h.1
          simp only [keepK, List.all_eq_true] at this
          rw [← ew]; exact this _ hj
  | [], [], _ :: _, _, h, _ => False.elim h
  | [], _ :: _, _, _, h, _ => False.elim h
  | _ :: _, [], _, _, h, _ => False.elim h
  | _ :: _, _ :: _, [], _, h, _ => False.elim h
/-- an own list at hand -/
theorem own_of {Γ : Gm} {c : C} {ρ : List D} {i : Nat} {l : List D} (r : Rel n Γ c ρ) (h : gN Γ i = 2) (e : gD ρ i = .lst l) : c.get i = .own (.lst l) := by
  have k := r.sl i
  rw [h, e] at k
  rcases k with ⟨k, _⟩ | ⟨_, k⟩
  · exact k
  · cases k
theorem sN_self : ∀ (l : Gm) (i : Nat), gN l i = 2 → sN l i 2 = l
  | [], i, _ => rfl
  | x :: l, 0, h => by simp [gN] at h; simp [sN, h]
  | x :: l, i + 1, h => by simp [sN, sN_self l i h]
theorem Rel.own {Γ : Gm} {c : C} {ρ : List D} (r : Rel n Γ c ρ) {i : Nat} (h : gN Γ i = 2) (l : List D) : Rel n Γ (c.set i (.own (.lst l))) (sD ρ i (.lst l)) := by
  have := r.put i 2 (.own (.lst l)) (.lst l) (.inl ⟨rfl, rfl⟩)
  rwa [sN_self _ _ h] at this
theorem ret_rv {ro : Bool} {a : Gm × Kd × List Gm} {c1 : C} {ρ : List D} {v : Vl} {d : D} (r1 : Rel n a.1 c1 ρ) (v1 : VR ρ a.2.1 v d) (hr : retOk ro a.1 a.2.1 = true) : RvR ro (v.rv c1) d := by
  revert v1 hr
  generalize a.2.1 = k
  intro v1 hr
  by_cases hl : isL d = false
  · rw [v1.data hl]
    exact .inr ⟨rfl, by rw [hl]; simp⟩
  · have hl : isL d = true := by simpa using hl
    cases k with
    | tmp =>
      rcases v1 with ⟨rfl, _⟩ | ⟨_, q⟩
      · exact .inl ⟨rfl, hl⟩
      · rw [hl] at q; cases q
    | dk =>
      rw [show v = .d d from v1]
      refine .inr ⟨rfl, ?_⟩
      cases ro <;> first | rfl | (simp [retOk] at hr; done)
    | bor i =>
      rcases v1 with ⟨e, ⟨rfl, _⟩ | ⟨_, q⟩⟩
      · rw [rv_bor]
        cases ro with
        | false =>
          cases c1.get i with
          | own z => exact .inl ⟨rfl, hl⟩
          | no => exact .inr ⟨rfl, rfl⟩
          | dat z => exact .inr ⟨rfl, rfl⟩
        | true =>
          have h2 : gN a.1 i = 2 := by simpa [retOk] using hr
          have k := r1.sl i
          rw [h2, ← e] at k
          rcases k with ⟨k, _⟩ | ⟨_, k⟩
          · rw [k]; exact .inl ⟨rfl, hl⟩
          · rw [hl] at k; cases k
      · rw [hl] at q; cases q
    | unk is =>
      have hro : ro = false := by cases ro <;> first | rfl | (simp [retOk] at hr; done)
      subst hro
      rcases v1 with rfl | ⟨rfl, _⟩ | ⟨i, hi, rfl, _, e⟩
      · exact .inr ⟨rfl, rfl⟩
      · exact .inl ⟨rfl, hl⟩
      · rw [rv_bor]
        cases c1.get i with
        | own z => exact .inl ⟨rfl, hl⟩
        | no => exact .inr ⟨rfl, rfl⟩
        | dat z => exact .inr ⟨rfl, rfl⟩
theorem tri_sim {A : Ar} {ro : Bool} {α : Type} {kn kb kc : List D → Q β} {kr : D → Q β} {ρ : List D} {ra : R α} {qa : Q D} {p : α → C → D → Prop} {xs : List Gm} {k : α → C → R Fl} {kq : D → Q β} {hnd : Xc → Q β} {rr : C → R Fl} {g : Nat} {i : Option Nat}
    (S : Sim n ρ ra qa p xs) (hk : ∀ v c1 d, p v c1 d → Out n A ro (k v c1) (kq d) kn kb kc kr) (hne : ∀ v c1 y c2, k v c1 ≠ .ex y c2)
    (hh : ∀ x c1 Γ, Γ ∈ xs → Rel n Γ c1 ρ → Out n A ro ((noex (rr (bindX i x c1))).bind fun f c => .ok f (unX i c)) (hnd x) kn kb kc kr) (hs : ∀ Γ, Γ ∈ xs → Γ ∈ A.xs) :
    Out n A ro (triR g i rr (ra.bind k)) (Q.try g hnd kq qa) kn kb kc kr := by
  cases qa with
  | st => exact .inl rfl
  | ok b =>
    obtain ⟨a, c, rfl, h⟩ := S
    have z := hk a c b h
    show Out n A ro (triR g i rr (k a c)) (kq b) kn kb kc kr
    cases e : k a c with
    | st => rw [e] at z; exact z
    | ok f c2 => rw [e] at z; exact z
    | ex y c2 => exact absurd e (hne _ _ _ _)
  | ex x =>
    obtain ⟨c, rfl, Γ, h1, h2⟩ := S
    show Out n A ro (if x.c = g then _ else .ex x c) (if x.c = g then hnd x else .ex x) kn kb kc kr
    by_cases hg : x.c = g
    · rw [if_pos hg, if_pos hg]
      exact hh x c Γ h1 h2
    · rw [if_neg hg, if_neg hg]
      exact .inr ⟨rfl, Γ, ρ, hs Γ h1, h2⟩
theorem mtl_mem {c : C} {ρ : List D} : ∀ (l : List Gm) {g Γ : Gm}, Γ ∈ l → Rel n Γ c ρ → Rel n g c ρ ∨ True → Rel n (mtL g l) c ρ
  | [], _, _, h, _, _ => by cases h
  | a :: l, g, Γ, h, r, _ => by
    rcases List.mem_cons.mp h with rfl | h
    · exact Rel.mtl l r.mr
    · exact mtl_mem l h r (.inr trivial)
theorem mtx_rel {c : C} {ρ : List D} {G Γ : Gm} {xs : List Gm} (h : Γ ∈ xs) (r : Rel n Γ c ρ) : Rel n (mtX G xs) c ρ := by
  cases xs with
  | nil => cases h
  | cons g l =>
    rcases List.mem_cons.mp h with rfl | h
    · exact Rel.mtl l r
    · exact mtl_mem l h r (.inr trivial)
theorem bind_rel {c : C} {ρ : List D} {Γ : Gm} {i : Option Nat} {x : Xc} (r : Rel n Γ c ρ) : Rel n (bindG i Γ) (bindX i x c) (bindQ i x ρ) := by
  cases i with
  | none => exact r
  | some i => exact r.put i 4 _ _ rfl
theorem un_rel {c : C} {ρ : List D} {Γ : Gm} {i : Option Nat} (r : Rel n Γ c ρ) : Rel n (unG i Γ) (unX i c) (unQ i ρ) := by
  cases i with
  | none => exact r
  | some i => exact r.put i 3 .no .non (fun y e => by cases e)
theorem suite_out {B : Ar} {o : Option Gm} {xs : List Gm} {ro : Bool} {kn kb kc : List D → Q β} {kr : D → Q β} {i : Option Nat} {r : R Fl} {q : Q β}
    (S : Out n B ro r q (fun ρ => kn (unQ i ρ)) (fun ρ => kb (unQ i ρ)) (fun ρ => kc (unQ i ρ)) kr) (hx : B.xs.isEmpty = true) : Out n ⟨mtO o (B.nx.map (unG i)), B.js.map (unG i), xs⟩ ro ((noex r).bind fun f c => .ok f (unX i c)) q kn kb kc kr := by
  rcases S with z | z
  · exact .inl z
  · cases r with
    | st => exact False.elim z
    | ex y c =>
      obtain ⟨_, Γ, ρ, h, _⟩ := z
      rw [List.isEmpty_iff.mp hx] at h; cases h
    | ok f c =>
      cases f with
      | nx =>
        obtain ⟨Γ, ρ, h1, h2, h3⟩ := z
        obtain ⟨Δ, e, h4⟩ := mtO_r (a := o) (b := B.nx.map (unG i)) (Γ := unG i Γ) (by rw [h1]; rfl) (un_rel h2)
        exact .inr ⟨Δ, _, e, h4, h3⟩
      | bk =>
        obtain ⟨Γ, ρ, h1, h2, h3⟩ := z
        exact .inr ⟨_, _, List.mem_map_of_mem h1, un_rel h2, h3⟩
      | ct =>
        obtain ⟨Γ, ρ, h1, h2, h3⟩ := z
        exact .inr ⟨_, _, List.mem_map_of_mem h1, un_rel h2, h3⟩
      | rt v =>
        obtain ⟨h1, x, h2, h3⟩ := z
        exact .inr ⟨by cases i <;> exact h1, x, h2, h3⟩
theorem ess_one {P : Pg} {call : CallT} {s : S} {c : C} : evSs P call [s] c = evS P call s c := by
  rw [ess_cons]
  cases evS P call s c with
  | st => rfl
  | ex x c => rfl
  | ok f c => cases f <;> first | rfl | (show evSs P call [] c = _; rw [ess_nil])
mutual
theorem fS (H : CallR X call cq) (ro : Bool) : ∀ (s : S) {Γ : Gm} {A : Ar} {c : C} {ρ : List D} {kn kb kc : List D → Q β} {kr : D → Q β}, anS X ro s Γ = some A → Rel n Γ c ρ → Out n A ro (evS X.P call s c) (cS X.P cq fuel s β ρ kn kb kc kr) kn kb kc kr
  | .asg t e, Γ, A, c, ρ, kn, kb, kc, kr, h, r => by
    simp only [anS, Option.bind_eq_some_iff, Option.some.injEq] at h
    obtain ⟨a, h1, rfl⟩ := h
    rw [es_asg, cq_asg]
    exact (fE H e h1 r).out (fun _ q => q) fun v c1 d ⟨r1, v1⟩ => lay_sim r1 v1
  | .app i e, Γ, A, c, ρ, kn, kb, kc, kr, h, r => by
    simp only [anS] at h
    split at h
    case isFalse => cases h
    rename_i h2
    simp only [Option.bind_eq_some_iff] at h
    obtain ⟨a, h1, h⟩ := h
    split at h
    case isFalse => cases h
    rename_i h3
    cases h
    rw [cq_app]
    cases el : gD ρ i with
    | lst l =>
      have S := fE H e h1 r
      rw [es_app, own_of r h2 el]
      simp only [islD_l, q1_some, Q.bind_ok]
      refine S.out (fun _ q => q) fun v c1 d ⟨r1, v1⟩ => ?_
      have r2 := r1.fr v1
      by_cases hl : l.length < line
      · have e1 : appD d (.lst l) = some (.lst (l ++ [d])) := if_pos hl
        simp only [e1, q1_some, Q.bind_ok]
        unfold doApp
        rw [own_of r2 h3 el]
        simp only [hl, if_true, v1.rd]
        exact .inr ⟨_, _, rfl, r2.own h3 _, rfl⟩
      · have e1 : appD d (.lst l) = none := if_neg hl
        simp only [e1, q1_none, Q.bind_st]
        exact .inl rfl
    | _ => exact .inl rfl
  | .ext _ _, Γ, A, c, ρ, kn, kb, kc, kr, h, r => by cases h
  | .pop t i, Γ, A, c, ρ, kn, kb, kc, kr, h, r => by
    simp only [anS] at h
    split at h
    case isFalse => cases h
    rename_i h2
    cases h
    rw [cq_pop]
    cases el : gD ρ i <;> first | exact .inl rfl | skip
    rename_i l
    rw [es_pop, own_of r h2 el]
    simp only [lastD_l, restD_l]
    cases e1 : l.getLast? with
    | none => exact .inl rfl
    | some x =>
      simp only [q1_some, Q.bind_ok]
      have r2 := r.own h2 l.dropLast
      have z := lay_sim (t := t) (k := .dk) (v := .d x) (x := x) (kn := kn) (kb := kb) (kc := kc) (kr := kr) (ro := ro) (ys := []) r2 rfl
      have e3 : layK t .dk Γ = setAll 4 (tgL t) Γ := by cases t <;> rfl
      rw [e3] at z
      exact z
  | .setix i x y, Γ, A, c, ρ, kn, kb, kc, kr, h, r => by
    simp only [anS, Option.bind_eq_some_iff] at h
    obtain ⟨a, h1, h⟩ := h
    split at h
    case isFalse => cases h
    rename_i h2
    simp only [Option.bind_eq_some_iff] at h
    obtain ⟨b, h3, h⟩ := h
    split at h
    case isFalse => cases h
    rename_i h4
    cases h
    rw [es_setix, cq_setix]
    refine (fE H y h1 r).out inL fun v c1 d ⟨r1, v1⟩ => ?_
    cases el : gD ρ i with
    | lst l =>
      rw [own_of r1 h2 el]
      simp only [islD_l, q1_some, Q.bind_ok]
      refine (fE H x h3 r1).out inR fun u c2 d2 ⟨r2, v2⟩ => ?_
      have r3 := r2.fr v1
      unfold doSet
      rw [own_of r3 h4 el, v2.rd]
      cases d2 with
      | int k =>
        simp only [putD_l]
        cases ixN l.length k with
        | none => exact .inl rfl
        | some m =>
          simp only [Option.map_some, q1_some, Q.bind_ok, v1.rd]
          exact .inr ⟨_, _, rfl, r3.own h4 _, rfl⟩
      | _ => exact .inl rfl
    | _ => exact .inl rfl
  | .ife e a b, Γ, A, c, ρ, kn, kb, kc, kr, h, r => by
    simp only [anS, Option.bind_eq_some_iff, Option.some.injEq] at h
    obtain ⟨q, h0, u, h1, v, h2, rfl⟩ := h
    rw [es_ife, cq_ife]
    refine (fT H e h0 r).out inLL fun t c1 t' ⟨r1, z⟩ => ?_
    subst z
    cases t with
    | true => exact (fSs H ro a h1 r1).mono (fun Γ c ρ q r => mtO_l q r) inL inM
    | false => exact (fSs H ro b h2 r1).mono (fun Γ c ρ q r => mtO_r q r) inR inR
  | .forr t w es b, Γ, A, c, ρ, kn, kb, kc, kr, h, r => by
    simp only [anS, Option.bind_eq_some_iff] at h
    obtain ⟨a, h1, h⟩ := h
    split at h
    case isFalse => cases h
    rename_i hk
    simp only [Option.bind_eq_some_iff, Option.some.injEq] at h
    obtain ⟨B, h2, rfl⟩ := h
    obtain ⟨G, B⟩ := B
    obtain ⟨h3, h4, h5⟩ := anL_out (n := n) 6 h2
    rw [es_forr, cq_forr]
    refine (fEs H es h1 r).out inL fun us c1 ds ⟨r1, v1⟩ => ?_
    unfold doFor
    rw [v1.rd]
    cases wkD w ds with
    | none => exact .inl rfl
    | some its =>
      simp only [ofO_some, bind_ok, q1_some, Q.bind_ok, keepsV_any v1 hk, if_true]
      refine (for_sim (A := B) (G := G) (kr := kr) (kb := kb) (kc := kc) (fun c ρ kn kb kc r => fSs H ro b h3 r) h4 its c1 ρ (h5 c1 ρ r1)).mono (fun Γ c ρ q r => ⟨Γ, q, r⟩) (fun _ q => q) inR
  | .whl e b, Γ, A, c, ρ, kn, kb, kc, kr, h, r => by
    simp only [anS, Option.bind_eq_some_iff, Option.some.injEq] at h
    obtain ⟨B, h2, rfl⟩ := h
    obtain ⟨G, B⟩ := B
    obtain ⟨h3, h4, h5⟩ := anL_out (n := n) 6 h2
    simp only [Option.bind_eq_some_iff, Option.some.injEq] at h3
    obtain ⟨q, h6, B', h7, rfl⟩ := h3
    have e0 : evS X.P call (.whl e b) c = whlL (evT X.P call e) (evSs X.P call b) fuel c := by (rw [evS.eq_def]) <;> rfl
    rw [e0, cq_whl]
    exact whl_sim (A := B') (G := G) (G1 := q.1) (kr := kr) (kb := kb) (kc := kc) (fun c ρ r => fT H e h6 r) (fun c ρ kn kb kc r => fSs H ro b h7 r) h4 fuel c ρ (h5 c ρ r)
  | .ret e, Γ, A, c, ρ, kn, kb, kc, kr, h, r => by
    simp only [anS, Option.bind_eq_some_iff] at h
    obtain ⟨a, h1, h⟩ := h
    split at h
    case isFalse => cases h
    rename_i hr
    cases h
    rw [es_ret, cq_ret]
    exact (fE H e h1 r).out (fun _ q => q) fun v c1 d ⟨r1, v1⟩ => .inr ⟨r1.sto, d, ret_rv r1 v1 hr, rfl⟩
  | .retn, Γ, A, c, ρ, kn, kb, kc, kr, h, r => by
    cases h
    rw [es_retn]
    exact .inr ⟨r.sto, .non, .inr ⟨rfl, by simp [isL]⟩, rfl⟩
  | .exp e, Γ, A, c, ρ, kn, kb, kc, kr, h, r => by
    simp only [anS, Option.bind_eq_some_iff, Option.some.injEq] at h
    obtain ⟨a, h1, rfl⟩ := h
    rw [es_exp, cq_exp]
    exact (fE H e h1 r).out (fun _ q => q) fun v c1 d ⟨r1, v1⟩ => Out.go rfl r1
  | .pass, Γ, A, c, ρ, kn, kb, kc, kr, h, r => by cases h; rw [es_pass]; exact Out.go rfl r
  | .brk, Γ, A, c, ρ, kn, kb, kc, kr, h, r => by cases h; rw [es_brk]; exact .inr ⟨Γ, ρ, List.mem_singleton.mpr rfl, r, rfl⟩
  | .cnt, Γ, A, c, ρ, kn, kb, kc, kr, h, r => by cases h; rw [es_cnt]; exact .inr ⟨Γ, ρ, List.mem_singleton.mpr rfl, r, rfl⟩
  | .nev, Γ, A, c, ρ, kn, kb, kc, kr, h, r => .inl rfl
  | .rai g xs, Γ, A, c, ρ, kn, kb, kc, kr, h, r => by
    simp only [anS, Option.bind_eq_some_iff, Option.some.injEq] at h
    obtain ⟨a, h1, rfl⟩ := h
    have e0 : evS X.P call (.rai g xs) c = (evEs X.P call xs c).bind (doRai g) := by (rw [evS.eq_def]) <;> rfl
    have e1 : cS X.P cq fuel (.rai g xs) β ρ kn kb kc kr = (pEs X.P cq xs ρ).bind fun vs => raiQ g (newX g vs) := rfl
    rw [e0, e1]
    refine (fEs H xs h1 r).out inL fun us c1 ds ⟨r1, v1⟩ => ?_
    unfold doRai
    rw [v1.rd]
    cases newX g ds with
    | none => exact .inl rfl
    | some fs => exact .inr ⟨rfl, _, ρ, List.mem_append_right _ (List.mem_singleton.mpr rfl), r1⟩
  | .tri b g i l, Γ, A, c, ρ, kn, kb, kc, kr, h, r => by
    have rcs := fun (B : Ar) (G : Gm) (hB : anSs X ro l G = some B) (c1 : C) (ρ1 : List D) (r1 : Rel n G c1 ρ1) (kn kb kc : List D → Q β) (kr : D → Q β) => fSs H ro l (kn := kn) (kb := kb) (kc := kc) (kr := kr) hB r1
    simp only [anS, Option.bind_eq_some_iff] at h
    obtain ⟨A0, h1, B, h2, h⟩ := h
    split at h
    case isFalse => cases h
    rename_i hx
    cases h
    have e0 : evS X.P call (.tri b g i l) c = triR g i (evSs X.P call l) (evSs X.P call b c) := by (rw [evS.eq_def]) <;> rfl
    have e1 : cS X.P cq fuel (.tri b g i l) β ρ kn kb kc kr = Q.try g (fun x => cSs X.P cq fuel l β (bindQ i x ρ) (fun ρ => kn (unQ i ρ)) (fun ρ => kb (unQ i ρ)) (fun ρ => kc (unQ i ρ)) kr) (fun v => bodyQ b v ρ kn kr) (optQ (bodyE b) fun e => pE X.P cq e ρ) := rfl
    rw [e0, e1]
    have hh : ∀ (o : Option Gm) (x : Xc) (c1 : C) (Γ1 : Gm), Γ1 ∈ A0.2.2 → Rel n Γ1 c1 ρ → Out n ⟨mtO o (B.nx.map (unG i)), B.js.map (unG i), A0.2.2⟩ ro ((noex (evSs X.P call l (bindX i x c1))).bind fun f c => .ok f (unX i c)) (cSs X.P cq fuel l β (bindQ i x ρ) (fun ρ => kn (unQ i ρ)) (fun ρ => kb (unQ i ρ)) (fun ρ => kc (unQ i ρ)) kr) kn kb kc kr := fun o x c1 Γ1 hm r1 =>
      suite_out (rcs B _ h2 _ _ (bind_rel (mtx_rel hm r1)) _ _ _ _) hx
    unfold anB at h1
    split at h1
    · simp only [Option.bind_eq_some_iff, Option.some.injEq] at h1
      obtain ⟨a, h1, rfl⟩ := h1
      rename_i t e
      rw [ess_one, es_asg]
      refine tri_sim (fE H e h1 r) (fun v c1 d ⟨r1, v1⟩ => ?_) (fun v c1 y c2 q => ?_) (hh _) (fun _ q => q)
      · have z := lay_sim (t := t) (kn := kn) (kb := kb) (kc := kc) (kr := kr) (ro := ro) (ys := a.2.2) r1 v1
        exact z.mono (fun Γ c ρ q r => mtO_l q r) (fun _ q => by cases q) (fun _ q => q)
      · unfold lay at q
        split at q <;> first | (cases q; done) | (split at q <;> cases q)
    · simp only [Option.bind_eq_some_iff, Option.some.injEq] at h1
      obtain ⟨a, h1, rfl⟩ := h1
      rename_i e
      rw [ess_one, es_exp]
      refine tri_sim (fE H e h1 r) (fun v c1 d ⟨r1, v1⟩ => ?_) (fun v c1 y c2 q => by cases q) (hh _) (fun _ q => q)
      have z : Out n ⟨some a.1, [], a.2.2⟩ ro (.ok .nx c1) (kn ρ) kn kb kc kr := Out.go rfl r1
      exact z.mono (fun Γ c ρ q r => mtO_l q r) (fun _ q => by cases q) (fun _ q => q)
    · simp only [Option.bind_eq_some_iff] at h1
      obtain ⟨a, h1, h3⟩ := h1
      split at h3
      case isFalse => cases h3
      rename_i hr
      cases h3
      rename_i e
      rw [ess_one, es_ret]
      refine tri_sim (fE H e h1 r) (fun v c1 d ⟨r1, v1⟩ => ?_) (fun v c1 y c2 q => by cases q) (hh _) (fun _ q => q)
      exact .inr ⟨r1.sto, d, ret_rv r1 v1 hr, rfl⟩
    · cases h1
theorem fSs (H : CallR X call cq) (ro : Bool) : ∀ (l : List S) {Γ : Gm} {A : Ar} {c : C} {ρ : List D} {kn kb kc : List D → Q β} {kr : D → Q β}, anSs X ro l Γ = some A → Rel n Γ c ρ → Out n A ro (evSs X.P call l c) (cSs X.P cq fuel l β ρ kn kb kc kr) kn kb kc kr
  | [], Γ, A, c, ρ, kn, kb, kc, kr, h, r => by cases h; rw [ess_nil]; exact Out.go rfl r
  | s :: l, Γ, A, c, ρ, kn, kb, kc, kr, h, r => by
    simp only [anSs, Option.bind_eq_some_iff] at h
    obtain ⟨a, h1, h⟩ := h
    rw [ess_cons, cqs_cons]
    rcases fS H ro s (kn := fun ρ => cSs X.P cq fuel l β ρ kn kb kc kr) (kb := kb) (kc := kc) (kr := kr) h1 r with z | z
    · rw [z]; exact .inl rfl
    · cases es : evS X.P call s c with
      | st => rw [es] at z; exact False.elim z
      | ex y c1 =>
        rw [es] at z
        obtain ⟨z1, Γ', ρ', z2, z3⟩ := z
        refine .inr ⟨z1, Γ', ρ', ?_, z3⟩
        split at h
        · cases h; exact z2
        · simp only [Option.bind_eq_some_iff, Option.some.injEq] at h
          obtain ⟨b, _, rfl⟩ := h
          exact List.mem_append_left _ z2
      | ok f c1 =>
        rw [es] at z
        cases f with
        | nx =>
          obtain ⟨Γ', ρ', z1, z2, z3⟩ := z
          rw [z1] at h
          simp only [Option.bind_eq_some_iff, Option.some.injEq] at h
          obtain ⟨b, h2, rfl⟩ := h
          rw [z3]
          exact (fSs H ro l h2 z2).mono (fun Γ c ρ q r => ⟨Γ, q, r⟩) inR inR
        | bk =>
          obtain ⟨Γ', ρ', z1, z2, z3⟩ := z
          refine .inr ⟨Γ', ρ', ?_, z2, z3⟩
          split at h
          · cases h; exact z1
          · simp only [Option.bind_eq_some_iff, Option.some.injEq] at h
            obtain ⟨b, _, rfl⟩ := h
            exact List.mem_append_left _ z1
        | ct =>
          obtain ⟨Γ', ρ', z1, z2, z3⟩ := z
          refine .inr ⟨Γ', ρ', ?_, z2, z3⟩
          split at h
          · cases h; exact z1
          · simp only [Option.bind_eq_some_iff, Option.some.injEq] at h
            obtain ⟨b, _, rfl⟩ := h
            exact List.mem_append_left _ z1
        | rt v => exact .inr z
end
end
end Ev
end
section
set_option maxRecDepth 100000
set_option maxHeartbeats 1000000
/-! Pv6: the whole text. -/
namespace Ev
theorem rel_start : ∀ (ds : List D) (k i : Nat), SlR (gN (List.replicate ds.length 4 ++ List.replicate k 3) i) (getS (ds.map Sl.dat ++ List.replicate k Sl.no) i) (gD (ds ++ List.replicate k .non) i)
  | [], 0, i => trivial
  | [], k + 1, 0 => by
    intro y e; cases e
  | [], k + 1, i + 1 => rel_start [] k i
  | d :: ds, k, 0 => rfl
  | d :: ds, k, i + 1 => rel_start ds k i
theorem startR {X : Px} {f : Fn} {ds : List D} (h : ds.length = f.np) (hl : f.np ≤ f.nl) : Rel f.nl (List.replicate f.np 4 ++ List.replicate (f.nl - f.np) 3) ⟨startL f.nl ds, []⟩ (ds ++ List.replicate (f.nl - f.np) .non) := by
  refine ⟨rfl, ?_, ?_, ?_, fun i => ?_⟩
  · simp [startL]; omega
  · simp; omega
  · simp; omega
  · have := rel_start ds (f.nl - f.np) i
    rw [← h]
    rw [← h] at this
    exact this
def OkX (X : Px) : Prop := ∀ g f, X.P.fns g = some f → X.old g = false → anF X g f = true
theorem rv_free {ro : Bool} {v : Rv} {x : D} (h : RvR ro v x) (hf : frD ro x = true) : v.free = true := by
  rcases h with ⟨rfl, hl⟩ | ⟨rfl, hl⟩
  · cases x <;> first | (cases hl; done) | skip
    cases ro with
    | true =>
      rename_i xs
      show flatA xs = true
      simpa [frD, flat] using hf
    | false => simp [frD, flat] at hf
  · show flat x = true
    cases x with
    | lst xs =>
      cases ro with
      | true => simp [isL] at hl
      | false => simpa [frD] using hf
    | _ => simpa [frD] using hf
/-- what a call gives, laid through the test of what is free -/
def ResR (ro : Bool) (r : Rc) (q : Q D) : Prop := match q with
  | .st => True
  | .ok x => ∃ v, r = .ok v [] ∧ RvR ro v x
  | .ex x => r = .ex x []
theorem ResR.chk {kp ro : Bool} {r : Rc} {q : Q D} (h : ResR ro r q) : match Ev.chk kp ro q with
  | .st => True
  | .ok x => ∃ v, r = .ok v [] ∧ RvR ro v x ∧ (kp = true → v.free = true)
  | .ex x => r = .ex x [] := by
  cases q with
  | st => trivial
  | ex x => exact h
  | ok x =>
    obtain ⟨v, e, hr⟩ := h
    unfold Ev.chk
    cases kp with
    | false =>
      simp only [Bool.false_eq_true, if_false]
      exact ⟨v, e, hr, fun z => z.elim⟩
    | true =>
      simp only [if_true]
      cases hf : frD ro x with
      | true =>
        simp only [if_true]
        exact ⟨v, e, hr, fun _ => rv_free hr hf⟩
      | false =>
        simp only [Bool.false_eq_true, if_false]
theorem old_ok {ro : Bool} : ∀ r : Rc, (match r with
    | .ex _ s => s = []
    | _ => True) → ResR ro r (oldQ ro r)
  | .st, _ => trivial
  | .ex x s, h => by
    have h : s = [] := h
    subst h; rfl
  | .ok (.own d) [], _ => by
    cases d <;> first | trivial | exact ⟨_, rfl, .inl ⟨rfl, rfl⟩⟩
  | .ok (.d x) [], _ => by
    simp only [oldQ]
    cases h : ro && isL x with
    | true => trivial
    | false => exact ⟨_, rfl, .inr ⟨rfl, h⟩⟩
  | .ok (.own d) (_ :: _), _ => by cases d <;> trivial
  | .ok (.d x) (_ :: _), _ => trivial
theorem pc_sound {X : Px} (ok : OkX X) : ∀ m, CallR X (callN X.P m) (pc X m)
  | 0 => fun g ds => trivial
  | m + 1 => fun g ds => by
    rw [pc_succ]
    cases ho : X.old g with
    | true =>
      simp only [if_true]
      refine ResR.chk ?_
      cases e : callN X.P (m + 1) g ds [] with
      | st => trivial
      | ok v s => exact old_ok (.ok v s) trivial
      | ex x s =>
        cases s with
        | nil => exact old_ok (.ex x []) rfl
        | cons a b => trivial
    | false =>
      simp only [Bool.false_eq_true, if_false]
      cases hf : X.P.fns g with
      | none => trivial
      | some f =>
        have ha := ok g f hf ho
        unfold anF at ha
        simp only [Bool.and_eq_true, decide_eq_true_eq] at ha
        obtain ⟨hl, ha⟩ := ha
        simp only [pcF]
        by_cases hlen : ds.length = f.np
        case neg => rw [if_neg hlen]; trivial
        rw [if_pos hlen]
        refine ResR.chk ?_
        split at ha
        case h_2 => cases ha
        rename_i A hA
        have S := fSs (β := D) (pc_sound ok m) (X.ro g) f.body (kn := fun _ => if X.ro g then .st else .ok .non) (kb := fun _ => .st) (kc := fun _ => .st) (kr := .ok) hA (startR (X := X) hlen hl)
        have hc : callN X.P (m + 1) g ds [] = endR (evSs X.P (callN X.P m) f.body ⟨startL f.nl ds, []⟩) := call_eq hf hlen
        rw [hc]
        rcases S with z | z
        · rw [z]; trivial
        · cases es : evSs X.P (callN X.P m) f.body ⟨startL f.nl ds, []⟩ with
          | st => rw [es] at z; exact False.elim z
          | ex y c =>
            rw [es] at z
            obtain ⟨z1, Γ, ρ, _, z3⟩ := z
            rw [z1]
            show Rc.ex y c.sto = .ex y []
            rw [z3.sto]
          | ok fl c =>
            rw [es] at z
            cases fl with
            | nx =>
              obtain ⟨Γ, ρ, _, z2, z3⟩ := z
              rw [z3]
              cases hr : X.ro g with
              | true => trivial
              | false =>
                refine ⟨.d .non, ?_, .inr ⟨rfl, rfl⟩⟩
                show Rc.ok (.d .non) c.sto = _
                rw [z2.sto]
            | bk =>
              obtain ⟨Γ, ρ, z1, _⟩ := z
              have : A.js = [] := List.isEmpty_iff.mp ha
              rw [this] at z1; cases z1
            | ct =>
              obtain ⟨Γ, ρ, z1, _⟩ := z
              have : A.js = [] := List.isEmpty_iff.mp ha
              rw [this] at z1; cases z1
            | rt v =>
              obtain ⟨z1, x, z2, z3⟩ := z
              rw [z3]
              refine ⟨v, ?_, z2⟩
              show Rc.ok v c.sto = _
              rw [z1]
/-- the law's end -/
theorem pc_run {X : Px} (ok : OkX X) {m g : Nat} {ds : List D} {b : Bool} (h : pc X m g ds = .ok (.bl b)) : ∃ s, callN X.P m g ds [] = .ok (.d (.bl b)) s := by
  have := pc_sound ok m g ds
  rw [h] at this
  obtain ⟨v, e, hr, _⟩ := this
  refine ⟨[], ?_⟩
  rw [e]
  rcases hr with ⟨rfl, hl⟩ | ⟨rfl, _⟩
  · cases hl
  · rfl
/-- the check of a text that is written as a list -/
theorem okX_of {X : Px} {l : List (Nat × Fn)} (hf : ∀ g, X.P.fns g = l.lookup g) (h : (l.all fun p => X.old p.1 || anF X p.1 p.2) = true) : OkX X := by
  intro g f e ho
  rw [hf] at e
  have mem : (g, f) ∈ l := by
    clear h hf
    induction l with
    | nil => cases e
    | cons p l ih =>
      obtain ⟨a, b⟩ := p
      simp only [List.lookup] at e
      split at e
      · rename_i q
        cases e
        rw [beq_iff_eq] at q
        subst q
        exact List.mem_cons_self
      · exact List.mem_cons_of_mem _ (ih e)
  rw [List.all_eq_true] at h
  have := h _ mem
  simp only [ho, Bool.false_or] at this
  exact this
end Ev
end
section
set_option maxRecDepth 100000
set_option maxHeartbeats 1000000
/-! Pv7: words for functions that are read by values. -/
namespace Ev
structure New (X : Px) (g : Nat) (f : Fn) : Prop where
  fns : X.P.fns g = some f
  old : X.old g = false
  kp : X.kp g = false
structure Old (X : Px) (g : Nat) : Prop where
  old : X.old g = true
  kp : X.kp g = false
  ro : X.ro g = false
def Kn (X : Px) (g : Nat) : List D → Q D := fun _ => if X.ro g then .st else .ok .non
def Kst : List D → Q D := fun _ => .st
section
variable {X : Px} {g m : Nat} {ds : List D}
/-- an old function's answer -/
theorem Old.d (o : Old X g) {x : D} (hm : 1 ≤ m) (e : callN X.P m g ds [] = .ok (.d x) []) : pc X m g ds = .ok x := by
  obtain ⟨n, rfl⟩ : ∃ n, m = n + 1 := ⟨m - 1, by omega⟩
  exact pc_old o.old o.kp e (.inr ⟨rfl, by rw [o.ro]; rfl⟩)
theorem Old.own (o : Old X g) {x : D} (hm : 1 ≤ m) (e : callN X.P m g ds [] = .ok (.own x) []) (hl : isL x = true := by rfl) : pc X m g ds = .ok x := by
  obtain ⟨n, rfl⟩ : ∃ n, m = n + 1 := ⟨m - 1, by omega⟩
  exact pc_old o.old o.kp e (.inl ⟨rfl, hl⟩)
end
end Ev
end
section
set_option maxRecDepth 100000
/-! the clean functions -/
namespace Ev
/-- _law_draws; 0 _law_cell, 1 _law_many, 2 _law_rows, 3 _law_rest, 4 _law_k, 5 _law_state -/
def b0 : List S :=
   [.asg (.nm 2) (.lst []),
    .asg (.nm 3) (.blt .int [(.v 0)]),
    .ife (.cmp .ge (.v 3) (.bin .pow (.i 10) (.i 18)))
    [.forr (.nm 4) .rng1 [(.v 1)]
      [.ife (.cmp .gt (.v 3) (.i 0))
        [.app 2 (.bin .mod (.blt .int [(.v 3)]) (.i 1000)),
        .asg (.nm 3) (.bin .fdiv (.v 3) (.i 1000))]
        []]]
    [],
    .asg (.nm 5) (.bin .mod (.blt .int [(.bin .add (.bin .mul (.blt .int [(.v 0)]) (.i 48271)) (.i 11))]) (.i 2147483647)),
    .forr (.nm 4) .rng1 [(.v 1)]
    [.asg (.nm 5) (.bin .mod (.blt .int [(.bin .add (.bin .add (.bin .mul (.v 5) (.i 48271)) (.bin .mul (.v 4) (.i 69621))) (.i 7))]) (.i 2147483647)),
    .ife (.cmp .lt (.blt .len [(.v 2)]) (.v 1))
      [.app 2 (.bin .mod (.blt .int [(.bin .mod (.blt .int [(.bin .add (.bin .mul (.v 5) (.i 69621)) (.i 5))]) (.i 2147483629))]) (.i 1000))]
      []],
    .ret (.v 2)]
def f0 : Fn := ⟨2, 6, b0⟩
/-- value_octets; 0 value, 1 sign -/
def b1 : List S :=
   [.ife (.isi (.v 0) .str)
    [.ret (.bin .add (.bin .add (.tup [(.i 2)]) (.blt .tuple [(.lc (.blt .ord [(.v 1)]) (.nm 1) [1] .seq [(.v 0)] [])])) (.tup [(.i 0)]))]
    [],
    .ret (.tup [(.i 1), (.bin .fdiv (.v 0) (.i 65536)), (.bin .mod (.bin .fdiv (.v 0) (.i 256)) (.i 256)), (.bin .mod (.v 0) (.i 256))])]
def f1 : Fn := ⟨1, 2, b1⟩
/-- body; 0 values, 1 octets, 2 value -/
def b2 : List S :=
   [.asg (.nm 1) (.tup []),
    .forr (.nm 2) .seq [(.v 0)]
    [.asg (.nm 1) (.bin .add (.v 1) (.call 1 [(.v 2)]))],
    .ret (.v 1)]
def f2 : Fn := ⟨1, 3, b2⟩
/-- key_octets; 0 key -/
def b3 : List S :=
   [.ret (.bin .add (.call 2 [(.v 0)]) (.tup [(.i 0)]))]
def f3 : Fn := ⟨1, 1, b3⟩
/-- _law_value; 0 _law_draw, 1 _law_numbers, 2 _law_texts -/
def b4 : List S :=
   [.asg (.nm 1) (.lst [(.i 0), (.i 1), (.i 2), (.i 7), (.i 255), (.i 256), (.i 65535), (.i 65536), (.i 999999)]),
    .asg (.nm 2) (.lst [(.s []), (.s [97]), (.s [97, 98]), (.s [98]), (.s [97, 32, 98]), (.s [111, 108, 100, 32, 109, 105, 108, 108]), (.s [77, 105, 108, 108]), (.s [116, 101]), (.s [116, 101, 97]), (.s [116, 101, 97, 45, 116, 105, 109, 101]), (.s [120, 49]), (.s [126]), (.s [32]), (.s [97, 98, 99]), (.s [109, 105, 108, 108, 32, 119, 101, 105, 114])]),
    .ife (.cmp .eq (.bin .mod (.blt .int [(.v 0)]) (.i 3)) (.i 0))
    [.ret (.ix (.v 1) (.bin .mod (.bin .fdiv (.blt .int [(.v 0)]) (.i 3)) (.i 9)))]
    [],
    .ife (.cmp .eq (.bin .mod (.blt .int [(.v 0)]) (.i 100)) (.i 98))
    [.ret (.bin .mul (.s [97, 98]) (.i 20))]
    [],
    .ret (.ix (.v 2) (.bin .mod (.bin .fdiv (.blt .int [(.v 0)]) (.i 3)) (.i 15)))]
def f4 : Fn := ⟨1, 3, b4⟩
/-- _law_key; 0 _law_draws_here, 1 _law_k -/
def b5 : List S :=
   [.ret (.blt .tuple [(.lc (.call 4 [(.ix (.v 0) (.bin .add (.i 1) (.v 1)))]) (.nm 1) [1] .rng1 [(.bin .add (.i 1) (.bin .mod (.blt .int [(.ix (.v 0) (.i 0))]) (.i 3)))] [])])]
def f5 : Fn := ⟨1, 2, b5⟩
/-- _law_bits; 0 _law_octets_here, 1 _law_bits_here, 2 _law_octet, 3 _law_unit -/
def b6 : List S :=
   [.asg (.nm 1) (.lst []),
    .forr (.nm 2) .seq [(.v 0)]
    [.asg (.nm 1) (.bin .add (.v 1) (.lc (.bin .mod (.bin .fdiv (.blt .int [(.v 2)]) (.v 3)) (.i 2)) (.nm 3) [3] .seq [(.tup [(.i 128), (.i 64), (.i 32), (.i 16), (.i 8), (.i 4), (.i 2), (.i 1)])] []))],
    .ret (.v 1)]
def f6 : Fn := ⟨1, 4, b6⟩
/-- first_bit; 0 one, 1 other, 2 at, 3 turn, 4 mask -/
def b7 : List S :=
   [.forr (.nm 2) .rng1 [(.blt .min [(.blt .len [(.v 0)]), (.blt .len [(.v 1)])])]
    [.ife (.cmp .ne (.ix (.v 0) (.v 2)) (.ix (.v 1) (.v 2)))
      [.forr (.tp [3, 4]) .enum [(.k 0)]
        [.ife (.cmp .ne (.bin .band (.ix (.v 0) (.v 2)) (.v 4)) (.bin .band (.ix (.v 1) (.v 2)) (.v 4)))
          [.ret (.bin .add (.bin .mul (.i 8) (.v 2)) (.v 3))]
          []]]
      []],
    .ret .n]
def f7 : Fn := ⟨2, 5, b7⟩
/-- has_bit; 0 octets, 1 number -/
def b8 : List S :=
   [.ret (.cmp .ne (.bin .band (.ix (.v 0) (.bin .fdiv (.v 1) (.i 8))) (.ix (.k 0) (.bin .mod (.v 1) (.i 8)))) (.i 0))]
def f8 : Fn := ⟨2, 2, b8⟩
/-- is_number; 0 value, 1 most -/
def b10 : List S :=
   [.ret (.and (.isi (.v 0) .int) (.and (.not (.isi (.v 0) .bool)) (.chain .le .le (.i 0) (.v 0) (.v 1))))]
def f10 : Fn := ⟨2, 2, b10⟩
/-- is_text; 0 value, 1 one -/
def b11 : List S :=
   [.ret (.and (.isi (.v 0) .str) (.and (.cmp .le (.blt .len [(.v 0)]) (.k 3)) (.blt .all [(.lc (.chain .le .le (.s [32]) (.v 1) (.s [126])) (.nm 1) [1] .seq [(.v 0)] [])])))]
def f11 : Fn := ⟨1, 2, b11⟩
/-- kind_of; 0 value -/
def b12 : List S :=
   [.ife (.call 10 [(.v 0), (.k 2)])
    [.ret (.s [110, 117, 109, 98, 101, 114])]
    [],
    .ife (.call 11 [(.v 0)])
    [.ret (.s [116, 101, 120, 116])]
    [],
    .ret .n]
def f12 : Fn := ⟨1, 1, b12⟩
/-- is_key; 0 value, 1 one -/
def b13 : List S :=
   [.ife (.or (.not (.isi (.v 0) .tup)) (.not (.chain .le .le (.i 1) (.blt .len [(.v 0)]) (.k 1))))
    [.ret (.b false)]
    [],
    .forr (.nm 1) .seq [(.v 0)]
    [.ife (.cmp .is (.call 12 [(.v 1)]) .n)
      [.ret (.b false)]
      []],
    .ret (.b true)]
def f13 : Fn := ⟨1, 2, b13⟩
/-- value_end; 0 octets, 1 at, 2 number, 3 end -/
def b14 : List S :=
   [.ife (.cmp .eq (.ix (.v 0) (.v 1)) (.i 1))
    [.ife (.cmp .gt (.bin .add (.v 1) (.i 4)) (.blt .len [(.v 0)]))
      [.ret .n]
      [],
    .asg (.nm 2) (.bin .add (.bin .add (.bin .mul (.ix (.v 0) (.bin .add (.v 1) (.i 1))) (.i 65536)) (.bin .mul (.ix (.v 0) (.bin .add (.v 1) (.i 2))) (.i 256))) (.ix (.v 0) (.bin .add (.v 1) (.i 3)))),
    .ret (.ite (.cmp .le (.v 2) (.i 999999)) (.bin .add (.v 1) (.i 4)) .n)]
    [],
    .ife (.cmp .ne (.ix (.v 0) (.v 1)) (.i 2))
    [.ret .n]
    [],
    .forr (.nm 3) .rng2 [(.bin .add (.v 1) (.i 1)), (.blt .min [(.blt .len [(.v 0)]), (.bin .add (.v 1) (.i 42))])]
    [.ife (.cmp .eq (.ix (.v 0) (.v 3)) (.i 0))
      [.ret (.bin .add (.v 3) (.i 1))]
      [],
    .ife (.not (.chain .le .le (.i 32) (.ix (.v 0) (.v 3)) (.i 126)))
      [.ret .n]
      []],
    .ret .n]
def f14 : Fn := ⟨2, 4, b14⟩
/-- are_key_octets; 0 octets, 1 at, 2 many, 3 end -/
def b15 : List S :=
   [.asg (.nm 1) (.i 0),
    .asg (.nm 2) (.i 0),
    .whl (.cmp .lt (.v 1) (.blt .len [(.v 0)]))
    [.ife (.cmp .eq (.ix (.v 0) (.v 1)) (.i 0))
      [.ret (.and (.chain .le .le (.i 1) (.v 2) (.k 1)) (.cmp .eq (.bin .add (.v 1) (.i 1)) (.blt .len [(.v 0)])))]
      [],
    .asg (.nm 2) (.bin .add (.v 2) (.i 1)),
    .asg (.nm 3) (.call 14 [(.v 0), (.v 1)]),
    .ife (.cmp .is (.v 3) .n)
      [.ret (.b false)]
      [],
    .asg (.nm 1) (.v 3)],
    .ret (.b false)]
def f15 : Fn := ⟨1, 4, b15⟩
/-- _law_octets; 0 _law_key_here, 1 _law_octets_here, 2 _law_value_here, 3 _law_unit, 4 _law_sign -/
def b16 : List S :=
   [.asg (.nm 1) (.lst []),
    .forr (.nm 2) .seq [(.v 0)]
    [.ife (.isi (.v 2) .str)
      [.asg (.nm 1) (.bin .add (.bin .add (.bin .add (.v 1) (.lst [(.i 2)])) (.lc (.blt .ord [(.v 4)]) (.nm 4) [4] .seq [(.v 2)] [])) (.lst [(.i 0)]))]
      [.asg (.nm 1) (.bin .add (.bin .add (.v 1) (.lst [(.i 1)])) (.lc (.bin .mod (.bin .fdiv (.blt .int [(.v 2)]) (.v 3)) (.i 256)) (.nm 3) [3] .seq [(.tup [(.i 65536), (.i 256), (.i 1)])] []))]],
    .ret (.blt .tuple [(.bin .add (.v 1) (.lst [(.i 0)]))])]
def f16 : Fn := ⟨1, 5, b16⟩
/-- _law_kinds; 0 _law_many, 1 _law_k, 2 _law_long, 3 _law_values, 4 _law_value_here, 5 _law_told -/
def b17 : List S :=
   [.asg (.nm 0) (.blt .tuple [(.lc (.v 1) (.nm 1) [1] .rng1 [(.i 13)] [])]),
    .asg (.nm 2) (.bin .mul (.s [97]) (.i 41)),
    .asg (.nm 3) (.lst [(.tup []), (.tup [(.b true)]), (.tup [(.i 1000000)]), (.tup [(.neg (.i 1))]), (.v 0), (.tup [(.v 2)]), (.tup [(.s [97]), (.v 2)]), (.i 7), (.s [97]), .n, (.tup [(.s [97]), .n]), (.tup [(.s [97]), (.tup [(.s [98])])]), (.lst [(.i 1)])]),
    .ife (.cmp .isin (.b true) (.lc (.cmp .isnot (.call 13 [(.v 4)]) (.b false)) (.nm 4) [4] .seq [(.v 3)] []))
    [.ret (.b false)]
    [],
    .ife (.or (.cmp .isnot (.call 13 [(.sl (.v 0) none (some (.i 12)))]) (.b true)) (.cmp .isnot (.call 13 [(.tup [(.sl (.v 2) none (some (.i 40))), (.i 999999), (.s [])])]) (.b true)))
    [.ret (.b false)]
    [],
    .asg (.nm 5) (.lc (.call 15 [(.call 16 [(.v 4)])]) (.nm 4) [4] .seq [(.lst [(.v 0), (.tup [(.v 2)]), (.tup [(.i 1000000)]), (.sl (.v 0) none (some (.i 12))), (.tup [(.sl (.v 2) none (some (.i 40))), (.i 999999), (.s [])])])] []),
    .ret (.and (.cmp .eq (.v 5) (.lst [(.b false), (.b false), (.b false), (.b true), (.b true)])) (.cmp .eq (.call 2 [(.lst [(.s [97]), (.i 5)])]) (.tup [(.i 2), (.i 97), (.i 0), (.i 1), (.i 0), (.i 0), (.i 5)])))]
def f17 : Fn := ⟨0, 6, b17⟩
/-- _law_less; 0 _law_one, 1 _law_other, 2 _law_k -/
def b18 : List S :=
   [.forr (.nm 2) .rng1 [(.blt .min [(.blt .len [(.v 0)]), (.blt .len [(.v 1)])])]
    [.ife (.cmp .ne (.ix (.v 0) (.v 2)) (.ix (.v 1) (.v 2)))
      [.ife (.cmp .ne (.isi (.ix (.v 0) (.v 2)) .str) (.isi (.ix (.v 1) (.v 2)) .str))
        [.ret (.isi (.ix (.v 1) (.v 2)) .str)]
        [],
      .ret (.cmp .lt (.ix (.v 0) (.v 2)) (.ix (.v 1) (.v 2)))]
      []],
    .ret (.cmp .lt (.blt .len [(.v 0)]) (.blt .len [(.v 1)]))]
def f18 : Fn := ⟨2, 3, b18⟩
/-- _law_value_end; 0 _law_octets_here, 1 _law_at, 2 _law_number, 3 _law_end -/
def b19 : List S :=
   [.ife (.and (.cmp .eq (.ix (.v 0) (.v 1)) (.i 1)) (.cmp .le (.bin .add (.v 1) (.i 4)) (.blt .len [(.v 0)])))
    [.asg (.nm 2) (.bin .add (.bin .add (.bin .mul (.ix (.v 0) (.bin .add (.v 1) (.i 1))) (.i 65536)) (.bin .mul (.ix (.v 0) (.bin .add (.v 1) (.i 2))) (.i 256))) (.ix (.v 0) (.bin .add (.v 1) (.i 3)))),
    .ret (.ite (.cmp .le (.v 2) (.i 999999)) (.bin .add (.v 1) (.i 4)) .n)]
    [],
    .ife (.cmp .ne (.ix (.v 0) (.v 1)) (.i 2))
    [.ret .n]
    [],
    .forr (.nm 3) .rng2 [(.bin .add (.v 1) (.i 1)), (.blt .len [(.v 0)])]
    [.ife (.cmp .eq (.ix (.v 0) (.v 3)) (.i 0))
      [.ret (.ite (.cmp .le (.bin .sub (.v 3) (.v 1)) (.i 41)) (.bin .add (.v 3) (.i 1)) .n)]
      [],
    .ife (.or (.cmp .lt (.ix (.v 0) (.v 3)) (.i 32)) (.cmp .gt (.ix (.v 0) (.v 3)) (.i 126)))
      [.ret .n]
      []],
    .ret .n]
def f19 : Fn := ⟨2, 4, b19⟩
/-- _law_reads; 0 _law_octets_here, 1 _law_at, 2 _law_many, 3 _law_turn -/
def b20 : List S :=
   [.asg (.nm 1) (.i 0),
    .asg (.nm 2) (.i 0),
    .forr (.nm 3) .rng1 [(.blt .len [(.v 0)])]
    [.ife (.and (.cmp .isnot (.v 1) .n) (.and (.cmp .lt (.v 1) (.blt .len [(.v 0)])) (.cmp .ne (.ix (.v 0) (.v 1)) (.i 0))))
      [.asg (.nm 1) (.call 19 [(.v 0), (.v 1)]),
      .asg (.nm 2) (.bin .add (.v 2) (.i 1))]
      []],
    .ife (.or (.cmp .is (.v 1) .n) (.or (.cmp .ne (.bin .add (.v 1) (.i 1)) (.blt .len [(.v 0)])) (.or (.cmp .eq (.v 2) (.i 0)) (.cmp .gt (.v 2) (.i 12)))))
    [.ret (.b false)]
    [],
    .ret (.cmp .eq (.ix (.v 0) (.v 1)) (.i 0))]
def f20 : Fn := ⟨1, 4, b20⟩
/-- _law_body; 0 _law_values, 1 _law_octets, 2 _law_value_here, 3 _law_unit, 4 _law_sign -/
def b22 : List S :=
   [.asg (.nm 1) (.lst []),
    .forr (.nm 2) .seq [(.v 0)]
    [.ife (.isi (.v 2) .str)
      [.asg (.nm 1) (.bin .add (.bin .add (.bin .add (.v 1) (.lst [(.i 2)])) (.lc (.blt .ord [(.v 4)]) (.nm 4) [4] .seq [(.v 2)] [])) (.lst [(.i 0)]))]
      [.asg (.nm 1) (.bin .add (.bin .add (.v 1) (.lst [(.i 1)])) (.lc (.bin .mod (.bin .fdiv (.blt .int [(.v 2)]) (.v 3)) (.i 256)) (.nm 3) [3] .seq [(.tup [(.i 65536), (.i 256), (.i 1)])] []))]],
    .ret (.blt .tuple [(.v 1)])]
def f22 : Fn := ⟨1, 5, b22⟩
/-- range_of_text; 0 values, 1 beginning, 2 start, 3 sign -/
def b23 : List S :=
   [.asg (.nm 2) (.bin .add (.bin .add (.call 2 [(.v 0)]) (.tup [(.i 2)])) (.blt .tuple [(.lc (.blt .ord [(.v 3)]) (.nm 3) [3] .seq [(.v 1)] [])])),
    .ret (.tup [(.v 2), (.bin .add (.v 2) (.tup [(.i 127)]))])]
def f23 : Fn := ⟨2, 4, b23⟩
/-- range_of; 0 values, 1 start -/
def b24 : List S :=
   [.asg (.nm 1) (.call 2 [(.v 0)]),
    .ret (.tup [(.v 1), (.bin .add (.v 1) (.tup [(.i 3)]))])]
def f24 : Fn := ⟨1, 2, b24⟩
/-- range_of_key; 0 key, 1 octets -/
def b25 : List S :=
   [.asg (.nm 1) (.call 3 [(.v 0)]),
    .ret (.tup [(.v 1), (.bin .add (.v 1) (.tup [(.i 0)]))])]
def f25 : Fn := ⟨1, 2, b25⟩
/-- _law_lies; 0 _law_key_here, 1 _law_bounds -/
def b26 : List S :=
   [.ret (.chain .le .lt (.ix (.v 1) (.i 0)) (.call 3 [(.v 0)]) (.ix (.v 1) (.i 1)))]
def f26 : Fn := ⟨2, 2, b26⟩
/-- _law_wish; 0 _law_draws_here, 1 _law_deep, 2 _law_words, 3 _law_way, 4 _law_parts, 5 _law_k, 6 _law_at -/
def b28 : List S :=
   [.asg (.nm 2) (.lst [(.s [111, 108, 100]), (.s [109, 105, 108, 108]), (.s [116, 101]), (.s [116, 101, 97]), (.s [120, 49]), (.s [109]), (.s [116]), (.s [110, 101, 119]), (.s [122, 122]), (.s [49])]),
    .asg (.nm 3) (.bin .mod (.blt .int [(.ix (.v 0) (.i 0))]) (.i 7)),
    .ife (.or (.cmp .eq (.v 1) (.i 0)) (.cmp .lt (.v 3) (.i 2)))
    [.ret (.tup [(.s [119, 111, 114, 100]), (.ix (.v 2) (.bin .mod (.blt .int [(.ix (.v 0) (.i 1))]) (.i 10)))])]
    [],
    .ife (.cmp .eq (.v 3) (.i 2))
    [.ret (.tup [(.s [98, 101, 103, 105, 110, 115]), (.ix (.v 2) (.bin .mod (.blt .int [(.ix (.v 0) (.i 1))]) (.i 10)))])]
    [],
    .ife (.cmp .eq (.v 3) (.i 3))
    [.ret (.tup [(.s [110, 111, 110, 101]), (.call 28 [(.bin .add (.sl (.v 0) (some (.i 2)) none) (.sl (.v 0) none (some (.i 2)))), (.bin .sub (.v 1) (.i 1))])])]
    [],
    .asg (.nm 4) (.lst []),
    .forr (.nm 5) .rng1 [(.bin .add (.bin .add (.i 2) (.bin .mod (.blt .int [(.ix (.v 0) (.i 1))]) (.i 2))) (.ite (.cmp .eq (.bin .mod (.blt .int [(.ix (.v 0) (.i 1))]) (.i 11)) (.i 10)) (.i 2) (.i 0)))]
    [.asg (.nm 6) (.bin .mod (.bin .add (.bin .mul (.i 5) (.v 5)) (.i 3)) (.blt .len [(.v 0)])),
    .app 4 (.call 28 [(.bin .add (.sl (.v 0) (some (.v 6)) none) (.sl (.v 0) none (some (.v 6)))), (.bin .sub (.v 1) (.i 1))])],
    .ret (.tup [(.ite (.cmp .lt (.v 3) (.i 6)) (.s [97, 108, 108]) (.s [97, 110, 121])), (.blt .tuple [(.v 4)])])]
def f28 : Fn := ⟨2, 7, b28⟩
/-- is_word; 0 value, 1 sign -/
def b29 : List S :=
   [.ife (.or (.not (.isi (.v 0) .str)) (.cmp .eq (.v 0) (.s [])))
    [.ret (.b false)]
    [],
    .forr (.nm 1) .seq [(.v 0)]
    [.ife (.cmp .nin (.v 1) (.k 5))
      [.ret (.b false)]
      []],
    .ret (.b true)]
def f29 : Fn := ⟨1, 2, b29⟩
/-- is_word_wish; 0 value -/
def b30 : List S :=
   [.ife (.or (.cmp .ne (.blt .len [(.v 0)]) (.i 2)) (.cmp .nin (.ix (.v 0) (.i 0)) (.tup [(.s [119, 111, 114, 100]), (.s [98, 101, 103, 105, 110, 115])])))
    [.ret (.b false)]
    [],
    .ret (.and (.call 29 [(.ix (.v 0) (.i 1))]) (.cmp .le (.blt .len [(.ix (.v 0) (.i 1))]) (.k 3)))]
def f30 : Fn := ⟨1, 1, b30⟩
/-- is_deep_wish; 0 value, 1 deep, 2 part -/
def b31 : List S :=
   [.ife (.or (.not (.isi (.v 0) .tup)) (.or (.cmp .ne (.blt .len [(.v 0)]) (.i 2)) (.cmp .eq (.v 1) (.i 0))))
    [.ret (.b false)]
    [],
    .ife (.cmp .eq (.ix (.v 0) (.i 0)) (.s [110, 111, 110, 101]))
    [.ret (.call 31 [(.ix (.v 0) (.i 1)), (.bin .sub (.v 1) (.i 1))])]
    [],
    .ife (.cmp .nin (.ix (.v 0) (.i 0)) (.tup [(.s [97, 108, 108]), (.s [97, 110, 121])]))
    [.ret (.call 30 [(.v 0)])]
    [],
    .ife (.or (.not (.isi (.ix (.v 0) (.i 1)) .tup)) (.not (.chain .le .le (.i 2) (.blt .len [(.ix (.v 0) (.i 1))]) (.k 4))))
    [.ret (.b false)]
    [],
    .forr (.nm 2) .seq [(.ix (.v 0) (.i 1))]
    [.ife (.not (.call 31 [(.v 2), (.bin .sub (.v 1) (.i 1))]))
      [.ret (.b false)]
      []],
    .ret (.b true)]
def f31 : Fn := ⟨2, 3, b31⟩
/-- is_wish; 0 value -/
def b32 : List S :=
   [.ret (.call 31 [(.v 0), (.k 4)])]
def f32 : Fn := ⟨1, 1, b32⟩
/-- _law_takes; 0 _law_value, 1 _law_deep, 2 _law_kind, 3 _law_inner, 4 _law_sign, 5 _law_part -/
def b33 : List S :=
   [.ife (.or (.not (.isi (.v 0) .tup)) (.or (.cmp .ne (.blt .len [(.v 0)]) (.i 2)) (.cmp .eq (.v 1) (.i 0))))
    [.ret (.b false)]
    [],
    .asg (.tp [2, 3]) (.v 0),
    .ife (.or (.cmp .eq (.v 2) (.s [119, 111, 114, 100])) (.cmp .eq (.v 2) (.s [98, 101, 103, 105, 110, 115])))
    [.ife (.or (.not (.isi (.v 3) .str)) (.not (.chain .le .le (.i 1) (.blt .len [(.v 3)]) (.i 40))))
      [.ret (.b false)]
      [],
    .ret (.cmp .eq (.lc (.v 4) (.nm 4) [4] .seq [(.v 3)] [(.cmp .nin (.v 4) (.s [97, 98, 99, 100, 101, 102, 103, 104, 105, 106, 107, 108, 109, 110, 111, 112, 113, 114, 115, 116, 117, 118, 119, 120, 121, 122, 48, 49, 50, 51, 52, 53, 54, 55, 56, 57]))]) (.lst []))]
    [],
    .ife (.cmp .eq (.v 2) (.s [110, 111, 110, 101]))
    [.ret (.call 33 [(.v 3), (.bin .sub (.v 1) (.i 1))])]
    [],
    .ife (.or (.cmp .nin (.v 2) (.tup [(.s [97, 108, 108]), (.s [97, 110, 121])])) (.or (.not (.isi (.v 3) .tup)) (.not (.chain .le .le (.i 2) (.blt .len [(.v 3)]) (.i 6)))))
    [.ret (.b false)]
    [],
    .ret (.cmp .eq (.lc (.v 5) (.nm 5) [5] .seq [(.v 3)] [(.not (.call 33 [(.v 5), (.bin .sub (.v 1) (.i 1))]))]) (.lst []))]
def f33 : Fn := ⟨2, 6, b33⟩
/-- wish_ranges; 0 wish, 1 table, 2 column, 3 kind, 4 inner, 5 ranges, 6 part -/
def b35 : List S :=
   [.asg (.tp [3, 4]) (.v 0),
    .ife (.cmp .eq (.v 3) (.s [119, 111, 114, 100]))
    [.ret (.lst [(.call 24 [(.tup [(.s [119]), (.v 1), (.v 2), (.v 4)])])])]
    [],
    .ife (.cmp .eq (.v 3) (.s [98, 101, 103, 105, 110, 115]))
    [.ret (.lst [(.call 23 [(.tup [(.s [119]), (.v 1), (.v 2)]), (.v 4)])])]
    [],
    .ife (.cmp .eq (.v 3) (.s [110, 111, 110, 101]))
    [.ret (.bin .add (.lst [(.call 24 [(.tup [(.s [116]), (.v 1)])])]) (.call 35 [(.v 4), (.v 1), (.v 2)]))]
    [],
    .asg (.nm 5) (.lst []),
    .forr (.nm 6) .seq [(.v 4)]
    [.asg (.nm 5) (.bin .add (.v 5) (.call 35 [(.v 6), (.v 1), (.v 2)]))],
    .ret (.v 5)]
def f35 : Fn := ⟨3, 7, b35⟩
/-- _law_ranges_of; 0 _law_wish_here, 1 _law_table, 2 _law_column, 3 _law_waiting, 4 _law_ranges, 5 _law_turn, 6 _law_kind, 7 _law_inner -/
def b36 : List S :=
   [.asg (.nm 3) (.lst [(.v 0)]),
    .asg (.nm 4) (.lst []),
    .forr (.nm 5) .rng1 [(.i 400)]
    [.ife (.v 3)
      [.pop (.tp [6, 7]) 3,
      .ife (.cmp .eq (.v 6) (.s [119, 111, 114, 100]))
        [.app 4 (.call 24 [(.tup [(.s [119]), (.v 1), (.v 2), (.v 7)])])]
        [.ife (.cmp .eq (.v 6) (.s [98, 101, 103, 105, 110, 115]))
          [.app 4 (.call 23 [(.tup [(.s [119]), (.v 1), (.v 2)]), (.v 7)])]
          [.ife (.cmp .eq (.v 6) (.s [110, 111, 110, 101]))
            [.app 4 (.call 24 [(.tup [(.s [116]), (.v 1)])]),
            .app 3 (.v 7)]
            [.asg (.nm 3) (.bin .add (.v 3) (.blt .list [(.rev (.v 7))]))]]]]
      []],
    .ret (.v 4)]
def f36 : Fn := ⟨3, 8, b36⟩
end Ev
end
section
set_option maxRecDepth 100000
/-! the clean functions -/
namespace Ev
/-- _law_hasher; 0 _law_cell_here, 1 _law_draws_here, 2 _law_modulus -/
def b38 : List S :=
   [.asg (.nm 1) (.call 0 [(.v 0), (.i 2)]),
    .asg (.nm 2) (.ix (.lst [(.i 2), (.i 3), (.i 5), (.i 7), (.i 13), (.i 101), (.i 997), (.i 1000003), (.i 2147483647)]) (.bin .mod (.blt .int [(.ix (.v 1) (.i 0))]) (.i 9))),
    .ret (.new 0 [(.v 2), (.bin .add (.i 1) (.bin .mul (.blt .int [(.ix (.v 1) (.i 1))]) (.ix (.lst [(.i 1), (.i 1000), (.i 2000000)]) (.bin .mod (.bin .fdiv (.blt .int [(.ix (.v 1) (.i 0))]) (.i 9)) (.i 3)))))])]
def f38 : Fn := ⟨1, 3, b38⟩
/-- _law_cell; 0 _law_script, 1 _law_k -/
def b39 : List S :=
   [.ife (.cmp .lt (.v 1) (.blt .len [(.v 0)]))
    [.ret (.blt .int [(.ix (.v 0) (.v 1))])]
    [],
    .ret (.i 0)]
def f39 : Fn := ⟨2, 2, b39⟩
/-- _law_spans; 0 _law_first_here, 1 _law_second, 2 _law_start, 3 _law_stop -/
def b40 : List S :=
   [.asg (.nm 2) (.bin .mod (.blt .int [(.v 0)]) (.i 9)),
    .asg (.nm 3) (.bin .add (.bin .add (.v 2) (.i 1)) (.bin .mod (.blt .int [(.v 1)]) (.i 4))),
    .ife (.cmp .eq (.bin .mod (.blt .int [(.v 1)]) (.i 3)) (.i 0))
    [.ret (.tup [(.tup [(.v 2), (.v 3)]), (.tup [(.bin .add (.bin .add (.v 3) (.i 1)) (.bin .mod (.bin .fdiv (.blt .int [(.v 0)]) (.i 9)) (.i 3))), (.bin .add (.bin .add (.v 3) (.i 5)) (.bin .mod (.bin .fdiv (.blt .int [(.v 1)]) (.i 12)) (.i 3)))])])]
    [],
    .ife (.cmp .eq (.bin .mod (.blt .int [(.v 1)]) (.i 50)) (.i 49))
    [.ret (.tup [(.tup [(.i 0), (.i 10000)])])]
    [],
    .ret (.tup [(.tup [(.v 2), (.v 3)])])]
def f40 : Fn := ⟨2, 4, b40⟩
def l41_0 : List S :=
   [.asg (.nm 4) (.call 0 [(.v 3), (.i 6)]),
    .asg (.nm 5) (.ite (.cmp .eq (.bin .mod (.ix (.v 4) (.i 4)) (.i 5)) (.i 0)) (.tup []) (.call 40 [(.ix (.v 4) (.i 4)), (.ix (.v 4) (.i 5))])),
    .app 2 (.tup [(.call 5 [(.v 4)]), (.v 5)])]
/-- _law_rows; 0 _law_script, 1 _law_start, 2 _law_rows_here, 3 _law_cell_here, 4 _law_draws_here, 5 _law_spans_here -/
def b41 : List S :=
   [.asg (.nm 2) (.lst []),
    .forr (.nm 3) .seq [(.sl (.v 0) (some (.v 1)) (some (.bin .add (.v 1) (.i 24))))]
    l41_0,
    .ret (.v 2)]
def f41 : Fn := ⟨2, 6, b41⟩
def l42_0 : List S :=
   [.asg (.nm 2) (.bin .mod (.bin .add (.bin .add (.bin .mul (.v 2) (.fld (.v 0) 0 1)) (.v 3)) (.i 1)) (.fld (.v 0) 0 0))]
/-- Hasher.digest; 0 self, 1 numbers, 2 value, 3 number -/
def b42 : List S :=
   [.asg (.nm 2) (.i 0),
    .forr (.nm 3) .seq [(.v 1)]
    l42_0,
    .ret (.v 2)]
def f42 : Fn := ⟨2, 4, b42⟩
def l43_0 : List S :=
   [.asg (.nm 2) (.bin .add (.v 2) (.lst [(.v 3), (.v 4)]))]
/-- leaf_input; 0 octets, 1 spans, 2 numbers, 3 first, 4 last -/
def b43 : List S :=
   [.asg (.nm 2) (.bin .add (.bin .add (.lst [(.i 0), (.blt .len [(.v 0)])]) (.blt .list [(.v 0)])) (.lst [(.blt .len [(.v 1)])])),
    .forr (.tp [3, 4]) .seq [(.v 1)]
    l43_0,
    .ret (.v 2)]
def f43 : Fn := ⟨2, 5, b43⟩
/-- make_leaf; 0 hasher, 1 key, 2 spans, 3 octets -/
def b44 : List S :=
   [.asg (.nm 3) (.call 3 [(.v 1)]),
    .ret (.tup [(.s [108, 101, 97, 102]), (.i 1), (.v 3), (.v 3), (.meth 0 42 (.v 0) [(.call 43 [(.v 3), (.v 2)])]), (.v 1), (.v 2)])]
def f44 : Fn := ⟨3, 4, b44⟩
def l45_0 : List S :=
   [.asg (.nm 3) (.call 7 [(.ix (.v 0) (.i 2)), (.v 1)]),
    .asg (.nm 4) (.call 7 [(.ix (.v 0) (.i 2)), (.ix (.v 0) (.i 3))]),
    .ife (.and (.cmp .isnot (.v 3) .n) (.cmp .lt (.v 3) (.v 4)))
      [.ret (.tup [(.v 2), (.v 0)])]
      [],
    .ife (.cmp .eq (.ix (.v 0) (.i 0)) (.s [112, 114, 117, 110, 101, 100]))
      [.nev]
      [],
    .asg (.nm 5) (.call 8 [(.v 1), (.v 4)]),
    .app 2 (.tup [(.v 0), (.v 5)]),
    .asg (.nm 0) (.ite (.v 5) (.ix (.v 0) (.i 6)) (.ix (.v 0) (.i 5)))]
/-- way_to; 0 tree, 1 octets, 2 way, 3 own, 4 split, 5 right -/
def b45 : List S :=
   [.asg (.nm 2) (.lst []),
    .whl (.cmp .gt (.ix (.v 0) (.i 1)) (.i 1))
    l45_0,
    .ret (.tup [(.v 2), (.v 0)])]
def f45 : Fn := ⟨2, 6, b45⟩
/-- side_input; 0 tree, 1 kind, 2 count, 3 low, 4 high, 5 digest -/
def b46 : List S :=
   [.asg (.tp [1, 2, 3, 4, 5]) (.sl (.v 0) none (some (.i 5))),
    .ret (.bin .add (.bin .add (.bin .add (.bin .add (.lst [(.v 2), (.blt .len [(.v 3)])]) (.blt .list [(.v 3)])) (.lst [(.blt .len [(.v 4)])])) (.blt .list [(.v 4)])) (.lst [(.v 5)]))]
def f46 : Fn := ⟨1, 6, b46⟩
/-- make_node; 0 hasher, 1 left, 2 right, 3 digest -/
def b47 : List S :=
   [.asg (.nm 3) (.meth 0 42 (.v 0) [(.bin .add (.bin .add (.lst [(.i 1)]) (.call 46 [(.v 1)])) (.call 46 [(.v 2)]))]),
    .ret (.tup [(.s [110, 111, 100, 101]), (.bin .add (.ix (.v 1) (.i 1)) (.ix (.v 2) (.i 1))), (.ix (.v 1) (.i 2)), (.ix (.v 2) (.i 3)), (.v 3), (.v 1), (.v 2)])]
def f47 : Fn := ⟨3, 4, b47⟩
/-- join; 0 hasher, 1 tree, 2 leaf -/
def b48 : List S :=
   [.ife (.cmp .lt (.ix (.v 2) (.i 2)) (.ix (.v 1) (.i 2)))
    [.ret (.call 47 [(.v 0), (.v 2), (.v 1)])]
    [],
    .ret (.call 47 [(.v 0), (.v 1), (.v 2)])]
def f48 : Fn := ⟨3, 3, b48⟩
def l49_0 : List S :=
   [.asg (.nm 10) (.ite (.v 9) (.ix (.v 8) (.i 5)) (.ix (.v 8) (.i 6))),
    .ife (.cmp .is (.v 7) .n)
      [.asg (.nm 7) (.v 10)]
      [.ife (.v 9)
        [.asg (.nm 7) (.call 47 [(.v 0), (.v 10), (.v 7)])]
        [.asg (.nm 7) (.call 47 [(.v 0), (.v 7), (.v 10)])]]]
/-- put; 0 hasher, 1 tree, 2 key, 3 spans, 4 octets, 5 way, 6 place, 7 new, 8 node, 9 right, 10 sibling -/
def b49 : List S :=
   [.ife (.cmp .is (.v 1) .n)
    [.ret (.ite (.v 3) (.call 44 [(.v 0), (.v 2), (.v 3)]) .n)]
    [],
    .asg (.nm 4) (.call 3 [(.v 2)]),
    .asg (.tp [5, 6]) (.call 45 [(.v 1), (.v 4)]),
    .asg (.nm 7) .n,
    .ife (.or (.cmp .ne (.ix (.v 6) (.i 2)) (.v 4)) (.cmp .ne (.ix (.v 6) (.i 3)) (.v 4)))
    [.ife (.not (.v 3))
      [.ret (.v 1)]
      [],
    .asg (.nm 7) (.call 48 [(.v 0), (.v 6), (.call 44 [(.v 0), (.v 2), (.v 3)])])]
    [.ife (.v 3)
      [.asg (.nm 7) (.call 44 [(.v 0), (.v 2), (.v 3)])]
      []],
    .forr (.tp [8, 9]) .revd [(.v 5)]
    l49_0,
    .ret (.v 7)]
def f49 : Fn := ⟨4, 11, b49⟩
def l50_0 : List S :=
   [.pop (.nm 3) 2,
    .ife (.cmp .eq (.ix (.v 3) (.i 0)) (.s [110, 111, 100, 101]))
      [.app 1 (.tup [(.s [110, 111, 100, 101])]),
      .app 2 (.ix (.v 3) (.i 6)),
      .app 2 (.ix (.v 3) (.i 5))]
      [.ife (.cmp .eq (.ix (.v 3) (.i 0)) (.s [108, 101, 97, 102]))
        [.app 1 (.tup [(.s [108, 101, 97, 102]), (.ix (.v 3) (.i 5)), (.ix (.v 3) (.i 6))])]
        [.app 1 (.v 3)]]]
/-- paper_of; 0 tree, 1 parts, 2 waiting, 3 part -/
def b50 : List S :=
   [.asg (.nm 1) (.lst []),
    .asg (.nm 2) (.ite (.cmp .is (.v 0) .n) (.lst []) (.lst [(.v 0)])),
    .whl (.v 2)
    l50_0,
    .ret (.v 1)]
def f50 : Fn := ⟨1, 4, b50⟩
def l51_0 : List S :=
   [.asg (.nm 2) (.bin .mod (.blt .int [(.bin .add (.bin .add (.bin .mul (.v 2) (.fld (.v 0) 0 1)) (.v 3)) (.i 1))]) (.fld (.v 0) 0 0))]
/-- _law_digest; 0 _law_hasher_here, 1 _law_numbers, 2 _law_value_here, 3 _law_number -/
def b51 : List S :=
   [.asg (.nm 2) (.i 0),
    .forr (.nm 3) .seq [(.v 1)]
    l51_0,
    .ret (.v 2)]
def f51 : Fn := ⟨2, 4, b51⟩
/-- _law_side; 0 _law_summary_here, 1 _law_count, 2 _law_low, 3 _law_high, 4 _law_digest_here -/
def b52 : List S :=
   [.asg (.tp [1, 2, 3, 4]) (.v 0),
    .ret (.bin .add (.bin .add (.bin .add (.bin .add (.lst [(.v 1), (.blt .len [(.v 2)])]) (.blt .list [(.v 2)])) (.lst [(.blt .len [(.v 3)])])) (.blt .list [(.v 3)])) (.lst [(.v 4)]))]
def f52 : Fn := ⟨1, 5, b52⟩
def l53_0 : List S :=
   [.asg (.nm 5) (.bin .add (.v 5) (.lst [(.v 9), (.v 10)]))]
def l53_1 : List S :=
   [.ife (.cmp .eq (.ix (.v 3) (.i 0)) (.s [112, 114, 117, 110, 101, 100]))
      [.app 2 (.sl (.v 3) (some (.i 1)) none)]
      [.ife (.cmp .eq (.ix (.v 3) (.i 0)) (.s [108, 101, 97, 102]))
        [.asg (.nm 4) (.call 16 [(.ix (.v 3) (.i 1))]),
        .asg (.nm 5) (.bin .add (.bin .add (.lst [(.i 0), (.blt .len [(.v 4)])]) (.blt .list [(.v 4)])) (.lst [(.blt .len [(.ix (.v 3) (.i 2))])])),
        .forr (.tp [9, 10]) .seq [(.ix (.v 3) (.i 2))]
          l53_0,
        .app 2 (.tup [(.i 1), (.v 4), (.v 4), (.call 51 [(.v 0), (.v 5)])])]
        [.pop (.nm 6) 2,
        .pop (.nm 7) 2,
        .asg (.nm 8) (.call 51 [(.v 0), (.bin .add (.bin .add (.lst [(.i 1)]) (.call 52 [(.v 6)])) (.call 52 [(.v 7)]))]),
        .app 2 (.tup [(.bin .add (.ix (.v 6) (.i 0)) (.ix (.v 7) (.i 0))), (.ix (.v 6) (.i 1)), (.ix (.v 7) (.i 2)), (.v 8)])]]]
/-- _law_summary; 0 _law_hasher_here, 1 _law_parts, 2 _law_done, 3 _law_part, 4 _law_octets_here, 5 _law_numbers, 6 _law_left, 7 _law_right, 8 _law_digest_here, 9 _law_start, 10 _law_stop -/
def b53 : List S :=
   [.asg (.nm 2) (.lst []),
    .forr (.nm 3) .revd [(.v 1)]
    l53_1,
    .ret (.ite (.v 2) (.ix (.v 2) (.i 0)) .n)]
def f53 : Fn := ⟨2, 11, b53⟩
/-- state_input; 0 tree -/
def b54 : List S :=
   [.ife (.cmp .is (.v 0) .n)
    [.ret (.lst [(.i 2)])]
    [],
    .ret (.bin .add (.lst [(.i 3)]) (.call 46 [(.v 0)]))]
def f54 : Fn := ⟨1, 1, b54⟩
/-- root; 0 hasher, 1 tree -/
def b55 : List S :=
   [.ret (.meth 0 42 (.v 0) [(.call 54 [(.v 1)])])]
def f55 : Fn := ⟨2, 2, b55⟩
/-- _law_root; 0 _law_hasher_here, 1 _law_parts, 2 _law_summary_here -/
def b56 : List S :=
   [.asg (.nm 2) (.call 53 [(.v 0), (.v 1)]),
    .ret (.call 51 [(.v 0), (.ite (.cmp .is (.v 2) .n) (.lst [(.i 2)]) (.bin .add (.lst [(.i 3)]) (.call 52 [(.v 2)])))])]
def f56 : Fn := ⟨2, 3, b56⟩
/-- input_of; 0 tree -/
def b57 : List S :=
   [.ife (.cmp .eq (.ix (.v 0) (.i 0)) (.s [108, 101, 97, 102]))
    [.ret (.call 43 [(.ix (.v 0) (.i 2)), (.ix (.v 0) (.i 6))])]
    [],
    .ret (.bin .add (.bin .add (.lst [(.i 1)]) (.call 46 [(.ix (.v 0) (.i 5))])) (.call 46 [(.ix (.v 0) (.i 6))]))]
def f57 : Fn := ⟨1, 1, b57⟩
def l59_0 : List S :=
   [.asg (.nm 2) (.call 49 [(.v 0), (.v 2), (.v 3), (.v 4)])]
/-- tree_of; 0 hasher, 1 rows, 2 tree, 3 key, 4 spans -/
def b59 : List S :=
   [.asg (.nm 2) .n,
    .forr (.tp [3, 4]) .seq [(.v 1)]
    l59_0,
    .ret (.v 2)]
def f59 : Fn := ⟨2, 5, b59⟩
/-- meets; 0 tree, 1 first, 2 last -/
def b60 : List S :=
   [.ret (.and (.cmp .lt (.ix (.v 0) (.i 2)) (.v 2)) (.cmp .ge (.ix (.v 0) (.i 3)) (.v 1)))]
def f60 : Fn := ⟨3, 3, b60⟩
def l61_0 : List S :=
   [.ife (.call 60 [(.v 0), (.v 2), (.v 3)])
      [.ret (.b true)]
      []]
/-- is_open; 0 tree, 1 ranges, 2 first, 3 last -/
def b61 : List S :=
   [.forr (.tp [2, 3]) .seq [(.v 1)]
    l61_0,
    .ret (.b false)]
def f61 : Fn := ⟨2, 4, b61⟩
/-- pruned; 0 tree -/
def b62 : List S :=
   [.ret (.bin .add (.tup [(.s [112, 114, 117, 110, 101, 100])]) (.sl (.v 0) (some (.i 1)) (some (.i 5))))]
def f62 : Fn := ⟨1, 1, b62⟩
def l63_0 : List S :=
   [.ife (.cmp .eq (.ix (.v 2) (.i 0)) (.s [110, 111, 100, 101]))
      [.pop (.nm 3) 1,
      .pop (.nm 4) 1,
      .app 1 (.bin .add (.sl (.v 2) none (some (.i 5))) (.tup [(.v 3), (.v 4)]))]
      [.app 1 (.v 2)]]
/-- rebuilt; 0 parts, 1 done, 2 part, 3 left, 4 right -/
def b63 : List S :=
   [.asg (.nm 1) (.lst []),
    .forr (.nm 2) .revd [(.v 0)]
    l63_0,
    .ret (.ix (.v 1) (.i 0))]
def f63 : Fn := ⟨1, 5, b63⟩
def l64_0 : List S :=
   [.pop (.nm 4) 3,
    .ife (.not (.call 61 [(.v 4), (.v 1)]))
      [.asg (.nm 4) (.call 62 [(.v 4)])]
      [],
    .app 2 (.v 4),
    .ife (.cmp .eq (.ix (.v 4) (.i 0)) (.s [110, 111, 100, 101]))
      [.app 3 (.ix (.v 4) (.i 6)),
      .app 3 (.ix (.v 4) (.i 5))]
      []]
/-- prune; 0 tree, 1 ranges, 2 parts, 3 waiting, 4 part -/
def b64 : List S :=
   [.ife (.cmp .is (.v 0) .n)
    [.ret .n]
    [],
    .asg (.nm 2) (.lst []),
    .asg (.nm 3) (.lst [(.v 0)]),
    .whl (.v 3)
    l64_0,
    .ret (.call 63 [(.v 2)])]
def f64 : Fn := ⟨2, 5, b64⟩
def l65_0 : List S :=
   [.asg (.nm 5) (.ix (.v 1) (.bin .mod (.ix (.v 2) (.bin .mul (.i 3) (.v 4))) (.blt .len [(.v 1)]))),
    .asg (.nm 6) (.ix (.v 1) (.bin .mod (.ix (.v 2) (.bin .add (.bin .mul (.i 3) (.v 4)) (.i 1))) (.blt .len [(.v 1)]))),
    .asg (.nm 7) (.bin .mod (.ix (.v 2) (.bin .add (.bin .mul (.i 3) (.v 4)) (.i 2))) (.i 4)),
    .ife (.cmp .eq (.v 7) (.i 0))
      [.app 3 (.call 24 [(.sl (.v 5) none (some (.i 1)))])]
      [.ife (.cmp .eq (.v 7) (.i 1))
        [.app 3 (.call 25 [(.v 5)])]
        [.ife (.and (.cmp .eq (.v 7) (.i 2)) (.isi (.ix (.v 5) (.i 0)) .str))
          [.app 3 (.call 23 [(.tup []), (.sl (.ix (.v 5) (.i 0)) none (some (.i 1)))])]
          [.app 3 (.tup [(.blt .min [(.call 3 [(.v 5)]), (.call 3 [(.v 6)])]), (.blt .max [(.call 3 [(.v 5)]), (.call 3 [(.v 6)])])])]]]]
/-- _law_ranges; 0 _law_cell_here, 1 _law_keys, 2 _law_draws_here, 3 _law_bounds, 4 _law_k, 5 _law_one, 6 _law_other, 7 _law_way -/
def b65 : List S :=
   [.asg (.nm 2) (.call 0 [(.v 0), (.i 10)]),
    .asg (.nm 3) (.lst []),
    .forr (.nm 4) .rng1 [(.bin .mod (.ix (.v 2) (.i 9)) (.i 4))]
    l65_0,
    .ret (.v 3)]
def f65 : Fn := ⟨2, 8, b65⟩
/-- _law_first; 0 _law_one, 1 _law_other -/
def b66 : List S :=
   [.ife (.or (.cmp .is (.v 0) .n) (.or (.cmp .is (.v 1) .n) (.or (.cmp .eq (.ix (.v 0) (.i 0)) (.s [112, 114, 117, 110, 101, 100])) (.cmp .eq (.ix (.v 1) (.i 0)) (.s [112, 114, 117, 110, 101, 100])))))
    [.ret .n]
    [],
    .ife (.cmp .ne (.call 57 [(.v 0)]) (.call 57 [(.v 1)]))
    [.ret (.tup [(.call 57 [(.v 0)]), (.call 57 [(.v 1)])])]
    [],
    .ife (.cmp .eq (.ix (.v 0) (.i 0)) (.s [108, 101, 97, 102]))
    [.ret .n]
    [],
    .ret (.or (.call 66 [(.ix (.v 0) (.i 5)), (.ix (.v 1) (.i 5))]) (.call 66 [(.ix (.v 0) (.i 6)), (.ix (.v 1) (.i 6))]))]
def f66 : Fn := ⟨2, 2, b66⟩
def l67_0 : List S :=
   [.pop (.tp [4, 5]) 3,
    .ife (.and (.cmp .ne (.ix (.v 4) (.i 0)) (.s [112, 114, 117, 110, 101, 100])) (.cmp .ne (.ix (.v 5) (.i 0)) (.s [112, 114, 117, 110, 101, 100])))
      [.ife (.cmp .ne (.call 57 [(.v 4)]) (.call 57 [(.v 5)]))
        [.ret (.tup [(.call 57 [(.v 4)]), (.call 57 [(.v 5)])])]
        [],
      .ife (.cmp .eq (.ix (.v 4) (.i 0)) (.s [110, 111, 100, 101]))
        [.app 3 (.tup [(.ix (.v 4) (.i 6)), (.ix (.v 5) (.i 6))]),
        .app 3 (.tup [(.ix (.v 4) (.i 5)), (.ix (.v 5) (.i 5))])]
        []]
      []]
/-- find_clash; 0 hasher, 1 tree, 2 paper, 3 waiting, 4 one, 5 other -/
def b67 : List S :=
   [.ife (.cmp .ne (.call 55 [(.v 0), (.v 1)]) (.call 55 [(.v 0), (.v 2)]))
    [.ret .n]
    [],
    .ife (.cmp .ne (.call 54 [(.v 1)]) (.call 54 [(.v 2)]))
    [.ret (.tup [(.call 54 [(.v 1)]), (.call 54 [(.v 2)])])]
    [],
    .asg (.nm 3) (.ite (.cmp .is (.v 1) .n) (.lst []) (.lst [(.tup [(.v 1), (.v 2)])])),
    .whl (.v 3)
    l67_0,
    .ret .n]
def f67 : Fn := ⟨3, 6, b67⟩
end Ev
end
section
set_option maxRecDepth 100000
/-! the clean functions -/
namespace Ev
def l69_0 : List S :=
   [.asg (.nm 5) (.call 0 [(.v 4), (.i 2)]),
    .app 3 (.bin .mod (.bin .add (.bin .mul (.ix (.v 5) (.i 0)) (.i 1000)) (.ix (.v 5) (.i 1))) (.v 2))]
/-- _law_digests; 0 _law_script, 1 _law_start, 2 _law_modulus, 3 _law_digests_here, 4 _law_cell_here, 5 _law_draws_here -/
def b69 : List S :=
   [.asg (.nm 3) (.lst []),
    .forr (.nm 4) .seq [(.sl (.v 0) (some (.v 1)) (some (.bin .add (.v 1) (.i 40))))]
    l69_0,
    .ret (.ite (.v 3) (.v 3) (.lst [(.i 0)]))]
def f69 : Fn := ⟨3, 6, b69⟩
def l70_0 : List S :=
   [.asg (.nm 1) (.bin .mul (.i 2) (.v 1))]
/-- left_size; 0 size, 1 power -/
def b70 : List S :=
   [.asg (.nm 1) (.i 1),
    .whl (.cmp .lt (.bin .mul (.i 2) (.v 1)) (.v 0))
    l70_0,
    .ret (.v 1)]
def f70 : Fn := ⟨1, 2, b70⟩
/-- leaf_digest; 0 hasher, 1 digest -/
def b71 : List S :=
   [.ret (.meth 0 42 (.v 0) [(.lst [(.i 4), (.v 1)])])]
def f71 : Fn := ⟨2, 2, b71⟩
/-- node_digest; 0 hasher, 1 left, 2 right -/
def b72 : List S :=
   [.ret (.meth 0 42 (.v 0) [(.lst [(.i 5), (.v 1), (.v 2)])])]
def f72 : Fn := ⟨3, 3, b72⟩
/-- part_digest; 0 hasher, 1 digests, 2 size -/
def b73 : List S :=
   [.ife (.cmp .eq (.blt .len [(.v 1)]) (.i 1))
    [.ret (.call 71 [(.v 0), (.ix (.v 1) (.i 0))])]
    [],
    .asg (.nm 2) (.call 70 [(.blt .len [(.v 1)])]),
    .ret (.call 72 [(.v 0), (.call 73 [(.v 0), (.sl (.v 1) none (some (.v 2)))]), (.call 73 [(.v 0), (.sl (.v 1) (some (.v 2)) none)])])]
def f73 : Fn := ⟨2, 3, b73⟩
/-- inclusion; 0 hasher, 1 digests, 2 place, 3 size -/
def b74 : List S :=
   [.ife (.cmp .eq (.blt .len [(.v 1)]) (.i 1))
    [.ret (.lst [])]
    [],
    .asg (.nm 3) (.call 70 [(.blt .len [(.v 1)])]),
    .ife (.cmp .lt (.v 2) (.v 3))
    [.ret (.bin .add (.call 74 [(.v 0), (.sl (.v 1) none (some (.v 3))), (.v 2)]) (.lst [(.call 73 [(.v 0), (.sl (.v 1) (some (.v 3)) none)])]))]
    [],
    .ret (.bin .add (.call 74 [(.v 0), (.sl (.v 1) (some (.v 3)) none), (.bin .sub (.v 2) (.v 3))]) (.lst [(.call 73 [(.v 0), (.sl (.v 1) none (some (.v 3)))])]))]
def f74 : Fn := ⟨3, 4, b74⟩
def l75_0 : List S :=
   [.asg (.nm 3) (.call 70 [(.v 0)]),
    .app 2 (.cmp .ge (.v 1) (.v 3)),
    .ife (.cmp .ge (.v 1) (.v 3))
      [.asg (.nm 1) (.bin .sub (.v 1) (.v 3)),
      .asg (.nm 0) (.bin .sub (.v 0) (.v 3))]
      [.asg (.nm 0) (.v 3)]]
/-- turns_to; 0 size, 1 place, 2 turns, 3 left -/
def b75 : List S :=
   [.asg (.nm 2) (.lst []),
    .whl (.cmp .gt (.v 0) (.i 1))
    l75_0,
    .ret (.v 2)]
def f75 : Fn := ⟨2, 4, b75⟩
def l76_0 : List S :=
   [.asg (.nm 8) (.meth 0 42 (.v 0) [(.ix (.v 5) (.neg (.i 1)))]),
    .app 5 (.ite (.v 6) (.lst [(.i 5), (.v 7), (.v 8)]) (.lst [(.i 5), (.v 8), (.v 7)]))]
/-- inclusion_inputs; 0 hasher, 1 size, 2 place, 3 digest, 4 paper, 5 inputs, 6 right, 7 beside, 8 found -/
def b76 : List S :=
   [.asg (.nm 5) (.lst [(.lst [(.i 4), (.v 3)])]),
    .forr (.tp [6, 7]) (.zipr false) [(.isl (.call 75 [(.v 1), (.v 2)])), (.v 4)]
    l76_0,
    .app 5 (.lst [(.i 6), (.v 1), (.meth 0 42 (.v 0) [(.ix (.v 5) (.neg (.i 1)))])]),
    .ret (.v 5)]
def f76 : Fn := ⟨5, 9, b76⟩
def l77_0 : List S :=
   [.ife (.cmp .ne (.meth 0 42 (.v 0) [(.v 7)]) (.meth 0 42 (.v 0) [(.v 8)]))
      [.ret .n]
      [],
    .ife (.cmp .ne (.v 7) (.v 8))
      [.ret (.tup [(.v 7), (.v 8)])]
      []]
/-- find_row_clash; 0 hasher, 1 digests, 2 place, 3 digest, 4 paper, 5 told, 6 true, 7 one, 8 other -/
def b77 : List S :=
   [.asg (.nm 5) (.call 76 [(.v 0), (.blt .len [(.v 1)]), (.v 2), (.v 3), (.v 4)]),
    .asg (.nm 6) (.call 76 [(.v 0), (.blt .len [(.v 1)]), (.v 2), (.ix (.v 1) (.v 2)), (.call 74 [(.v 0), (.v 1), (.v 2)])]),
    .forr (.tp [7, 8]) (.zipr true) [(.isl (.v 6)), (.v 5)]
    l77_0,
    .ret .n]
def f77 : Fn := ⟨5, 9, b77⟩
def l78_0 : List S :=
   [.ife (.v 7)
      [.asg (.nm 6) (.call 72 [(.v 0), (.v 8), (.v 6)])]
      [.asg (.nm 6) (.call 72 [(.v 0), (.v 6), (.v 8)])]]
/-- included_digest; 0 hasher, 1 size, 2 place, 3 digest, 4 paper, 5 turns, 6 found, 7 right, 8 beside -/
def b78 : List S :=
   [.asg (.nm 5) (.call 75 [(.v 1), (.v 2)]),
    .ife (.cmp .ne (.blt .len [(.v 4)]) (.blt .len [(.v 5)]))
    [.ret .n]
    [],
    .asg (.nm 6) (.call 71 [(.v 0), (.v 3)]),
    .forr (.tp [7, 8]) (.zipr false) [(.isl (.v 5)), (.v 4)]
    l78_0,
    .ret (.meth 0 42 (.v 0) [(.lst [(.i 6), (.v 1), (.v 6)])])]
def f78 : Fn := ⟨5, 9, b78⟩
/-- row_digest; 0 hasher, 1 digests -/
def b79 : List S :=
   [.ret (.meth 0 42 (.v 0) [(.lst [(.i 6), (.blt .len [(.v 1)]), (.call 73 [(.v 0), (.v 1)])])])]
def f79 : Fn := ⟨2, 2, b79⟩
def l80_0 : List S :=
   [.ife (.cmp .lt (.bin .mul (.i 2) (.v 9)) (.v 6))
          [.asg (.nm 9) (.bin .mul (.i 2) (.v 9))]
          []]
def l80_1 : List S :=
   [.ife (.cmp .gt (.v 6) (.i 1))
      [.asg (.nm 9) (.i 1),
      .forr (.nm 10) .rng1 [(.i 12)]
        l80_0,
      .app 5 (.cmp .ge (.v 7) (.v 9)),
      .ife (.cmp .ge (.v 7) (.v 9))
        [.asg (.nm 7) (.bin .sub (.v 7) (.v 9)),
        .asg (.nm 6) (.bin .sub (.v 6) (.v 9))]
        [.asg (.nm 6) (.v 9)]]
      []]
def l80_2 : List S :=
   [.asg (.nm 14) (.meth 0 42 (.v 0) [(.ix (.v 11) (.neg (.i 1)))]),
    .app 11 (.ite (.v 13) (.lst [(.i 5), (.ix (.v 4) (.v 12)), (.v 14)]) (.lst [(.i 5), (.v 14), (.ix (.v 4) (.v 12))]))]
/-- _law_way; 0 _law_hasher, 1 _law_many, 2 _law_place, 3 _law_digest, 4 _law_paper, 5 _law_turns, 6 _law_size, 7 _law_at, 8 _law_turn, 9 _law_half, 10 _law_step, 11 _law_inputs, 12 _law_k, 13 _law_right, 14 _law_own -/
def b80 : List S :=
   [.asg (.nm 5) (.lst []),
    .asg (.nm 6) (.v 1),
    .asg (.nm 7) (.v 2),
    .forr (.nm 8) .rng1 [(.i 12)]
    l80_1,
    .asg (.nm 11) (.lst [(.lst [(.i 4), (.v 3)])]),
    .forr (.tp [12, 13]) .enum [(.rev (.v 5))]
    l80_2,
    .ret (.bin .add (.v 11) (.lst [(.lst [(.i 6), (.v 1), (.meth 0 42 (.v 0) [(.ix (.v 11) (.neg (.i 1)))])])]))]
def f80 : Fn := ⟨5, 15, b80⟩
def l81_0 : List S :=
   [.asg (.nm 4) (.bin .mod (.blt .int [(.bin .add (.bin .add (.bin .mul (.v 4) (.fld (.v 0) 0 1)) (.v 5)) (.i 1))]) (.fld (.v 0) 0 0))]
def l81_1 : List S :=
   [.asg (.nm 4) (.i 0),
    .forr (.nm 5) .seq [(.v 3)]
      l81_0,
    .app 2 (.v 4)]
/-- _law_is_clash; 0 _law_hasher, 1 _law_pair, 2 _law_values, 3 _law_numbers, 4 _law_value, 5 _law_number -/
def b81 : List S :=
   [.ife (.or (.not (.isi (.v 1) .tup)) (.or (.cmp .ne (.blt .len [(.v 1)]) (.i 2)) (.cmp .eq (.ix (.v 1) (.i 0)) (.ix (.v 1) (.i 1)))))
    [.ret (.b false)]
    [],
    .asg (.nm 2) (.lst []),
    .forr (.nm 3) .seq [(.v 1)]
    l81_1,
    .ret (.cmp .eq (.ix (.v 2) (.i 0)) (.ix (.v 2) (.i 1)))]
def f81 : Fn := ⟨2, 6, b81⟩
/-- extension; 0 hasher, 1 digests, 2 size, 3 left -/
def b83 : List S :=
   [.ife (.cmp .eq (.v 2) (.blt .len [(.v 1)]))
    [.ret (.lst [(.call 73 [(.v 0), (.v 1)])])]
    [],
    .asg (.nm 3) (.call 70 [(.blt .len [(.v 1)])]),
    .ife (.cmp .le (.v 2) (.v 3))
    [.ret (.bin .add (.call 83 [(.v 0), (.sl (.v 1) none (some (.v 3))), (.v 2)]) (.lst [(.call 73 [(.v 0), (.sl (.v 1) (some (.v 3)) none)])]))]
    [],
    .ret (.bin .add (.call 83 [(.v 0), (.sl (.v 1) (some (.v 3)) none), (.bin .sub (.v 2) (.v 3))]) (.lst [(.call 73 [(.v 0), (.sl (.v 1) none (some (.v 3)))])]))]
def f83 : Fn := ⟨3, 4, b83⟩
def l84_0 : List S :=
   [.asg (.nm 3) (.call 70 [(.v 1)]),
    .app 2 (.cmp .gt (.v 0) (.v 3)),
    .ife (.cmp .gt (.v 0) (.v 3))
      [.asg (.nm 0) (.bin .sub (.v 0) (.v 3)),
      .asg (.nm 1) (.bin .sub (.v 1) (.v 3))]
      [.asg (.nm 1) (.v 3)]]
/-- extension_turns; 0 old, 1 size, 2 turns, 3 left -/
def b84 : List S :=
   [.asg (.nm 2) (.lst []),
    .whl (.cmp .lt (.v 0) (.v 1))
    l84_0,
    .ret (.v 2)]
def f84 : Fn := ⟨2, 4, b84⟩
def l85_0 : List S :=
   [.ife (.v 7)
      [.asg (.nm 5) (.call 72 [(.v 0), (.v 8), (.v 5)]),
      .asg (.nm 6) (.call 72 [(.v 0), (.v 8), (.v 6)])]
      [.asg (.nm 6) (.call 72 [(.v 0), (.v 6), (.v 8)])]]
/-- extended_digests; 0 hasher, 1 old, 2 size, 3 paper, 4 turns, 5 before, 6 after, 7 right, 8 beside -/
def b85 : List S :=
   [.asg (.nm 4) (.call 84 [(.v 1), (.v 2)]),
    .ife (.cmp .ne (.blt .len [(.v 3)]) (.bin .add (.blt .len [(.v 4)]) (.i 1)))
    [.ret .n]
    [],
    .asg (.nm 5) (.ix (.v 3) (.i 0)),
    .asg (.nm 6) (.ix (.v 3) (.i 0)),
    .forr (.tp [7, 8]) (.zipr false) [(.isl (.v 4)), (.sl (.v 3) (some (.i 1)) none)]
    l85_0,
    .ret (.tup [(.meth 0 42 (.v 0) [(.lst [(.i 6), (.v 1), (.v 5)])]), (.meth 0 42 (.v 0) [(.lst [(.i 6), (.v 2), (.v 6)])])])]
def f85 : Fn := ⟨4, 9, b85⟩
def l86_0 : List S :=
   [.app 5 (.ite (.v 8) (.lst [(.i 5), (.v 9), (.v 7)]) (.lst [(.i 5), (.v 7), (.v 9)])),
    .asg (.nm 7) (.meth 0 42 (.v 0) [(.ix (.v 5) (.neg (.i 1)))]),
    .ife (.v 8)
      [.app 4 (.lst [(.i 5), (.v 9), (.v 6)]),
      .asg (.nm 6) (.meth 0 42 (.v 0) [(.ix (.v 4) (.neg (.i 1)))])]
      []]
/-- paper_inputs; 0 hasher, 1 old, 2 size, 3 paper, 4 before, 5 after, 6 low, 7 high, 8 right, 9 beside -/
def b86 : List S :=
   [.asg (.nm 4) (.lst []),
    .asg (.nm 5) (.lst []),
    .asg (.nm 6) (.ix (.v 3) (.i 0)),
    .asg (.nm 7) (.ix (.v 3) (.i 0)),
    .forr (.tp [8, 9]) (.zipr false) [(.isl (.call 84 [(.v 1), (.v 2)])), (.sl (.v 3) (some (.i 1)) none)]
    l86_0,
    .app 4 (.lst [(.i 6), (.v 1), (.v 6)]),
    .app 5 (.lst [(.i 6), (.v 2), (.v 7)]),
    .ret (.tup [(.rev (.v 4)), (.rev (.v 5))])]
def f86 : Fn := ⟨4, 10, b86⟩
def l87_0 : List S :=
   [.ife (.cmp .ne (.v 3) (.v 4))
      [.ret (.tup [(.v 3), (.v 4)])]
      []]
/-- unlike_inputs; 0 hasher, 1 true, 2 told, 3 one, 4 other -/
def b87 : List S :=
   [.forr (.tp [3, 4]) .zip [(.v 1), (.v 2)]
    l87_0,
    .ret .n]
def f87 : Fn := ⟨3, 5, b87⟩
/-- part_input; 0 hasher, 1 digests, 2 size -/
def b88 : List S :=
   [.ife (.cmp .eq (.blt .len [(.v 1)]) (.i 1))
    [.ret (.lst [(.i 4), (.ix (.v 1) (.i 0))])]
    [],
    .asg (.nm 2) (.call 70 [(.blt .len [(.v 1)])]),
    .ret (.lst [(.i 5), (.call 73 [(.v 0), (.sl (.v 1) none (some (.v 2)))]), (.call 73 [(.v 0), (.sl (.v 1) (some (.v 2)) none)])])]
def f88 : Fn := ⟨2, 3, b88⟩
def l89_0 : List S :=
   [.app 3 (.call 88 [(.v 0), (.v 1)]),
    .asg (.nm 5) (.call 70 [(.blt .len [(.v 1)])]),
    .asg (.nm 1) (.ite (.v 4) (.sl (.v 1) (some (.v 5)) none) (.sl (.v 1) none (some (.v 5))))]
/-- way_inputs; 0 hasher, 1 digests, 2 turns, 3 inputs, 4 right, 5 size -/
def b89 : List S :=
   [.asg (.nm 3) (.lst [(.lst [(.i 6), (.blt .len [(.v 1)]), (.call 73 [(.v 0), (.v 1)])])]),
    .forr (.nm 4) .seq [(.v 2)]
    l89_0,
    .ret (.v 3)]
def f89 : Fn := ⟨3, 6, b89⟩
/-- find_part_clash; 0 hasher, 1 one, 2 other, 3 size, 4 first, 5 second, 6 found -/
def b90 : List S :=
   [.ife (.or (.cmp .eq (.v 1) (.v 2)) (.cmp .ne (.call 73 [(.v 0), (.v 1)]) (.call 73 [(.v 0), (.v 2)])))
    [.ret .n]
    [],
    .ife (.cmp .eq (.blt .len [(.v 1)]) (.i 1))
    [.ret (.tup [(.lst [(.i 4), (.ix (.v 1) (.i 0))]), (.lst [(.i 4), (.ix (.v 2) (.i 0))])])]
    [],
    .asg (.nm 3) (.call 70 [(.blt .len [(.v 1)])]),
    .asg (.nm 4) (.call 88 [(.v 0), (.v 1)]),
    .asg (.nm 5) (.call 88 [(.v 0), (.v 2)]),
    .ife (.cmp .ne (.v 4) (.v 5))
    [.ret (.tup [(.v 4), (.v 5)])]
    [],
    .asg (.nm 6) (.call 90 [(.v 0), (.sl (.v 1) none (some (.v 3))), (.sl (.v 2) none (some (.v 3)))]),
    .ife (.cmp .is (.v 6) .n)
    [.asg (.nm 6) (.call 90 [(.v 0), (.sl (.v 1) (some (.v 3)) none), (.sl (.v 2) (some (.v 3)) none)])]
    [],
    .ret (.v 6)]
def f90 : Fn := ⟨3, 7, b90⟩
def l91_0 : List S :=
   [.asg (.nm 11) (.call 70 [(.v 10)]),
    .ife (.and (.v 8) (.cmp .is (.v 7) .n))
      [.asg (.nm 7) (.call 90 [(.v 0), (.sl (.v 1) (some (.v 9)) (some (.bin .add (.v 9) (.v 11)))), (.sl (.v 2) (some (.v 9)) (some (.bin .add (.v 9) (.v 11))))])]
      [],
    .asg (.nm 9) (.ite (.v 8) (.bin .add (.v 9) (.v 11)) (.v 9)),
    .asg (.nm 10) (.ite (.v 8) (.bin .sub (.v 10) (.v 11)) (.v 11))]
/-- find_extension_clash; 0 hasher, 1 old, 2 new, 3 paper, 4 turns, 5 before, 6 after, 7 found, 8 right, 9 start, 10 size, 11 left -/
def b91 : List S :=
   [.ife (.cmp .ne (.call 85 [(.v 0), (.blt .len [(.v 1)]), (.blt .len [(.v 2)]), (.v 3)]) (.tup [(.call 79 [(.v 0), (.v 1)]), (.call 79 [(.v 0), (.v 2)])]))
    [.ret .n]
    [],
    .asg (.nm 4) (.call 84 [(.blt .len [(.v 1)]), (.blt .len [(.v 2)])]),
    .asg (.tp [5, 6]) (.call 86 [(.v 0), (.blt .len [(.v 1)]), (.blt .len [(.v 2)]), (.v 3)]),
    .asg (.nm 7) (.call 87 [(.v 0), (.call 89 [(.v 0), (.v 1), (.lc (.v 8) (.nm 8) [8] .seq [(.v 4)] [(.v 8)])]), (.v 5)]),
    .ife (.cmp .is (.v 7) .n)
    [.asg (.nm 7) (.call 87 [(.v 0), (.call 89 [(.v 0), (.v 2), (.v 4)]), (.v 6)])]
    [],
    .asg (.nm 9) (.i 0),
    .asg (.nm 10) (.blt .len [(.v 2)]),
    .forr (.nm 8) .seq [(.v 4)]
    l91_0,
    .ife (.cmp .is (.v 7) .n)
    [.asg (.nm 7) (.call 90 [(.v 0), (.sl (.v 1) (some (.v 9)) none), (.sl (.v 2) (some (.v 9)) (some (.bin .add (.v 9) (.v 10))))])]
    [],
    .ret (.v 7)]
def f91 : Fn := ⟨4, 12, b91⟩
def l92_0 : List S :=
   [.ife (.cmp .lt (.bin .mul (.i 2) (.v 1)) (.v 0))
      [.asg (.nm 1) (.bin .mul (.i 2) (.v 1))]
      []]
/-- _law_half; 0 _law_size, 1 _law_half_here, 2 _law_step -/
def b92 : List S :=
   [.asg (.nm 1) (.i 1),
    .forr (.nm 2) .rng1 [(.i 12)]
    l92_0,
    .ret (.v 1)]
def f92 : Fn := ⟨1, 3, b92⟩
/-- _law_inputs; 0 _law_hasher, 1 _law_digests_here, 2 _law_half_here, 3 _law_left, 4 _law_right, 5 _law_own -/
def b93 : List S :=
   [.ife (.cmp .eq (.blt .len [(.v 1)]) (.i 1))
    [.ret (.lst [(.lst [(.lst [(.i 4), (.ix (.v 1) (.i 0))])]), (.meth 0 42 (.v 0) [(.lst [(.i 4), (.ix (.v 1) (.i 0))])])])]
    [],
    .asg (.nm 2) (.call 92 [(.blt .len [(.v 1)])]),
    .asg (.nm 3) (.call 93 [(.v 0), (.sl (.v 1) none (some (.v 2)))]),
    .asg (.nm 4) (.call 93 [(.v 0), (.sl (.v 1) (some (.v 2)) none)]),
    .asg (.nm 5) (.lst [(.i 5), (.ix (.v 3) (.i 1)), (.ix (.v 4) (.i 1))]),
    .ret (.lst [(.bin .add (.bin .add (.ix (.v 3) (.i 0)) (.ix (.v 4) (.i 0))) (.lst [(.v 5)])), (.meth 0 42 (.v 0) [(.v 5)])])]
def f93 : Fn := ⟨2, 6, b93⟩
def l94_0 : List S :=
   [.ife (.cmp .lt (.v 5) (.v 6))
      [.asg (.nm 8) (.call 92 [(.v 6)]),
      .app 4 (.cmp .gt (.v 5) (.v 8)),
      .ife (.cmp .gt (.v 5) (.v 8))
        [.asg (.nm 5) (.bin .sub (.v 5) (.v 8)),
        .asg (.nm 6) (.bin .sub (.v 6) (.v 8))]
        [.asg (.nm 6) (.v 8)]]
      []]
def l94_1 : List S :=
   [.ife (.v 13)
      [.asg (.nm 11) (.bin .add (.v 11) (.lst [(.lst [(.i 5), (.ix (.v 3) (.bin .add (.i 1) (.v 12))), (.v 9)]), (.lst [(.i 5), (.ix (.v 3) (.bin .add (.i 1) (.v 12))), (.v 10)])])),
      .asg (.nm 9) (.meth 0 42 (.v 0) [(.lst [(.i 5), (.ix (.v 3) (.bin .add (.i 1) (.v 12))), (.v 9)])]),
      .asg (.nm 10) (.meth 0 42 (.v 0) [(.lst [(.i 5), (.ix (.v 3) (.bin .add (.i 1) (.v 12))), (.v 10)])])]
      [.app 11 (.lst [(.i 5), (.v 10), (.ix (.v 3) (.bin .add (.i 1) (.v 12)))]),
      .asg (.nm 10) (.meth 0 42 (.v 0) [(.lst [(.i 5), (.v 10), (.ix (.v 3) (.bin .add (.i 1) (.v 12)))])])]]
/-- _law_told; 0 _law_hasher, 1 _law_many, 2 _law_size, 3 _law_paper, 4 _law_turns, 5 _law_before, 6 _law_after, 7 _law_turn, 8 _law_half_here, 9 _law_old, 10 _law_new, 11 _law_inputs_here, 12 _law_k, 13 _law_right -/
def b94 : List S :=
   [.asg (.nm 4) (.lst []),
    .asg (.nm 5) (.v 1),
    .asg (.nm 6) (.v 2),
    .forr (.nm 7) .rng1 [(.i 12)]
    l94_0,
    .asg (.nm 9) (.ix (.v 3) (.i 0)),
    .asg (.nm 10) (.ix (.v 3) (.i 0)),
    .asg (.nm 11) (.lst []),
    .forr (.tp [12, 13]) .enum [(.rev (.v 4))]
    l94_1,
    .ret (.bin .add (.v 11) (.lst [(.lst [(.i 6), (.v 1), (.v 9)]), (.lst [(.i 6), (.v 2), (.v 10)])]))]
def f94 : Fn := ⟨4, 14, b94⟩
end Ev
end
section
set_option maxRecDepth 100000
/-! the clean functions -/
namespace Ev
/-- _law_first; 0 _law_one, 1 _law_other -/
def b96 : List S :=
   [.ife (.or (.cmp .is (.v 0) .n) (.or (.cmp .is (.v 1) .n) (.or (.cmp .eq (.ix (.v 0) (.i 0)) (.s [112, 114, 117, 110, 101, 100])) (.cmp .eq (.ix (.v 1) (.i 0)) (.s [112, 114, 117, 110, 101, 100])))))
    [.ret .n]
    [],
    .ife (.cmp .ne (.call 57 [(.v 0)]) (.call 57 [(.v 1)]))
    [.ret (.tup [(.call 57 [(.v 0)]), (.call 57 [(.v 1)])])]
    [],
    .ife (.cmp .eq (.ix (.v 0) (.i 0)) (.s [108, 101, 97, 102]))
    [.ret .n]
    [],
    .ret (.orv (.call 96 [(.ix (.v 0) (.i 5)), (.ix (.v 1) (.i 5))]) (.call 96 [(.ix (.v 0) (.i 6)), (.ix (.v 1) (.i 6))]))]
def f96 : Fn := ⟨2, 2, b96⟩
def l97_0 : List S :=
   [.asg (.nm 7) (.call 0 [(.bin .add (.call 39 [(.v 0), (.i 1)]) (.v 6)), (.i 3)]),
    .asg (.nm 8) (.bin .mod (.ix (.v 7) (.i 0)) (.bin .add (.blt .len [(.v 3)]) (.i 1))),
    .asg (.nm 9) (.call 59 [(.v 2), (.sl (.v 3) none (some (.v 8)))]),
    .asg (.nm 10) (.call 59 [(.v 2), (.sl (.v 3) (some (.bin .mod (.ix (.v 7) (.i 1)) (.bin .add (.v 8) (.i 1)))) (some (.bin .add (.v 8) (.bin .mod (.ix (.v 7) (.i 2)) (.i 3)))))]),
    .asg (.nm 11) (.ite (.cmp .eq (.bin .mod (.ix (.v 7) (.i 2)) (.i 2)) (.i 0)) (.call 64 [(.v 10), (.call 65 [(.bin .add (.bin .mul (.call 39 [(.v 0), (.i 1)]) (.i 11)) (.v 6)), (.v 4)])]) (.v 10)),
    .asg (.nm 12) .n,
    .ife (.cmp .eq (.call 55 [(.v 2), (.v 9)]) (.call 55 [(.v 2), (.v 11)]))
      [.asg (.nm 12) (.call 96 [(.v 9), (.v 11)]),
      .ife (.cmp .ne (.call 54 [(.v 9)]) (.call 54 [(.v 11)]))
        [.asg (.nm 12) (.tup [(.call 54 [(.v 9)]), (.call 54 [(.v 11)])])]
        []]
      [],
    .ife (.cmp .ne (.call 67 [(.v 2), (.v 9), (.v 11)]) (.v 12))
      [.ret (.b false)]
      []]
/-- law; 0 _law_script, 1 _law_draws_here, 2 _law_hasher_here, 3 _law_rows_here, 4 _law_keys, 5 _law_row, 6 _law_k, 7 _law_part, 8 _law_many, 9 _law_one, 10 _law_other, 11 _law_told, 12 _law_due -/
def b97 : List S :=
   [.asg (.nm 1) (.call 0 [(.call 39 [(.v 0), (.i 0)]), (.i 2)]),
    .asg (.nm 2) (.new 0 [(.bin .add (.i 2) (.bin .mod (.ix (.v 1) (.i 0)) (.i 6))), (.bin .add (.i 1) (.bin .mod (.ix (.v 1) (.i 1)) (.i 5)))]),
    .asg (.nm 3) (.call 41 [(.v 0), (.i 2)]),
    .asg (.nm 4) (.bin .add (.lc (.ix (.v 5) (.i 0)) (.nm 5) [5] .seq [(.v 3)] []) (.lst [(.tup [(.s [113])])])),
    .forr (.nm 6) .rng1 [(.i 10)]
    l97_0,
    .ret (.b true)]
def f97 : Fn := ⟨1, 13, b97⟩
end Ev
end
section
set_option maxRecDepth 100000
/-! the clean functions -/
namespace Ev
/-- _law_refused; 0 _law_modulus, 1 _law_multiplier -/
def b98 : List S :=
   [.ife (.or (.isi (.v 0) .bool) (.not (.chain .le .le (.i 2) (.v 0) (.i 2147483647))))
    [.ret (.s [109, 111, 100, 117, 108, 117, 115])]
    [],
    .ife (.or (.isi (.v 1) .bool) (.not (.chain .le .le (.i 1) (.v 1) (.i 2147483647))))
    [.ret (.s [109, 117, 108, 116, 105, 112, 108, 105, 101, 114])]
    [],
    .ret (.s [])]
def f98 : Fn := ⟨2, 2, b98⟩
def l99_0 : List S :=
   [.asg (.nm 2) (.bin .mod (.bin .add (.bin .add (.bin .mul (.v 2) (.fld (.v 0) 2 1)) (.v 3)) (.i 1)) (.fld (.v 0) 2 0))]
/-- Hasher.digest; 0 self, 1 numbers, 2 value, 3 number -/
def b99 : List S :=
   [.asg (.nm 2) (.i 0),
    .forr (.nm 3) .seq [(.v 1)]
    l99_0,
    .ret (.v 2)]
def f99 : Fn := ⟨2, 4, b99⟩
def l100_0 : List S :=
   [.asg (.nm 11) (.bin .add (.v 11) (.bin .mul (.bin .add (.v 13) (.i 1)) (.v 12))),
      .asg (.nm 12) (.bin .mod (.blt .int [(.bin .mul (.v 12) (.v 4))]) (.v 3))]
def l100_1 : List S :=
   [.asg (.nm 10) (.call 0 [(.v 9), (.i 3)]),
    .app 8 (.ite (.cmp .gt (.bin .mod (.ix (.v 10) (.i 1)) (.i 3)) (.i 0)) (.ix (.v 10) (.i 0)) (.bin .add (.bin .mul (.ix (.v 10) (.i 0)) (.i 1000000)) (.ix (.v 10) (.i 2)))),
    .asg (.nm 11) (.i 0),
    .asg (.nm 12) (.i 1),
    .forr (.nm 13) .revd [(.v 8)]
      l100_0,
    .ife (.cmp .ne (.meth 2 99 (.v 7) [(.blt .list [(.v 8)])]) (.bin .mod (.blt .int [(.v 11)]) (.v 3)))
      [.ret (.b false)]
      []]
/-- law; 0 _law_script, 1 _law_draws_here, 2 _law_numbers, 3 _law_modulus, 4 _law_multiplier, 5 _law_due, 6 error, 7 _law_hasher, 8 _law_row, 9 _law_cell_here, 10 _law_part, 11 _law_value, 12 _law_power, 13 _law_number -/
def b100 : List S :=
   [.asg (.nm 1) (.call 0 [(.call 39 [(.v 0), (.i 0)]), (.i 4)]),
    .asg (.nm 2) (.lst [(.i 0), (.i 1), (.i 2), (.i 997), (.i 2147483647), (.i 2147483648), (.b true), (.i 10), (.bin .sub (.i 0) (.i 3)), (.i 65536)]),
    .asg (.nm 3) (.ite (.cmp .eq (.bin .mod (.ix (.v 1) (.i 1)) (.i 3)) (.i 0)) (.ix (.v 2) (.bin .mod (.ix (.v 1) (.i 0)) (.i 10))) (.bin .add (.i 2) (.ix (.v 1) (.i 0)))),
    .asg (.nm 4) (.ite (.cmp .eq (.bin .mod (.ix (.v 1) (.i 3)) (.i 3)) (.i 0)) (.ix (.v 2) (.bin .mod (.ix (.v 1) (.i 2)) (.i 10))) (.bin .add (.i 1) (.bin .mul (.ix (.v 1) (.i 2)) (.i 1000)))),
    .asg (.nm 5) (.call 98 [(.v 3), (.v 4)]),
    .tri
    [.asg (.nm 7) (.new 2 [(.v 3), (.v 4)])] 0 (some 6)
    [.ret (.and (.cmp .ne (.v 5) (.s [])) (.cmp .eq (.fld (.v 6) 100 0) (.v 5)))],
    .ife (.cmp .ne (.v 5) (.s []))
    [.ret (.b false)]
    [],
    .asg (.nm 8) (.lst []),
    .forr (.nm 9) .seq [(.sl (.v 0) (some (.i 1)) none)]
    l100_1,
    .ret (.cmp .eq (.meth 2 99 (.v 7) [(.lst [])]) (.i 0))]
def f100 : Fn := ⟨1, 14, b100⟩
end Ev
end
section
set_option maxRecDepth 100000
/-! the clean functions -/
namespace Ev
def l101_0 : List S :=
   [.asg (.nm 5) (.bin .mod (.ix (.v 1) (.bin .add (.i 1) (.bin .mul (.i 3) (.v 4)))) (.blt .max [(.i 1), (.blt .len [(.v 3)])])),
    .asg (.nm 6) (.ix (.v 2) (.bin .mod (.ix (.v 1) (.bin .add (.i 2) (.bin .mul (.i 3) (.v 4)))) (.blt .len [(.v 2)]))),
    .asg (.nm 7) (.call 16 [(.v 6)]),
    .asg (.nm 8) (.tup [(.tup [(.bin .mod (.ix (.v 1) (.bin .add (.i 3) (.bin .mul (.i 3) (.v 4)))) (.i 9)), (.bin .add (.i 10) (.bin .mod (.bin .fdiv (.ix (.v 1) (.bin .add (.i 3) (.bin .mul (.i 3) (.v 4)))) (.i 9)) (.i 90)))])]),
    .ife (.or (.not (.v 3)) (.cmp .eq (.ix (.v 3) (.v 5)) (.tup [(.s [110, 111, 100, 101])])))
      [.ife (.cmp .eq (.bin .mod (.ix (.v 1) (.bin .add (.i 3) (.bin .mul (.i 3) (.v 4)))) (.i 5)) (.i 0)) [.asg (.nm 3) (.lst [(.tup [(.s [108, 101, 97, 102]), (.v 6), (.v 8)])])] [.exp (.v 3)]]
      [.ife (.cmp .eq (.ix (.ix (.v 3) (.v 5)) (.i 0)) (.s [108, 101, 97, 102]))
        [.setix 3 (.v 5) (.tup [(.s [108, 101, 97, 102]), (.ite (.cmp .eq (.bin .mod (.ix (.v 1) (.bin .add (.i 3) (.bin .mul (.i 3) (.v 4)))) (.i 2)) (.i 0)) (.ix (.ix (.v 3) (.v 5)) (.i 1)) (.v 6)), (.v 8)])]
        [.ife (.cmp .eq (.bin .mod (.ix (.v 1) (.bin .add (.i 3) (.bin .mul (.i 3) (.v 4)))) (.i 2)) (.i 0))
          [.setix 3 (.v 5) (.bin .add (.sl (.ix (.v 3) (.v 5)) none (some (.i 4))) (.tup [(.bin .add (.ix (.ix (.v 3) (.v 5)) (.i 4)) (.bin .mod (.ix (.v 1) (.bin .add (.i 2) (.bin .mul (.i 3) (.v 4)))) (.i 3)))]))]
          [.setix 3 (.v 5) (.tup [(.s [112, 114, 117, 110, 101, 100]), (.i 1), (.v 7), (.v 7), (.bin .mod (.ix (.v 1) (.bin .add (.i 2) (.bin .mul (.i 3) (.v 4)))) (.i 7))])]]]]
/-- _law_forged; 0 _law_parts_here, 1 _law_draws_here, 2 _law_keys, 3 _law_found, 4 _law_k, 5 _law_at, 6 _law_key_here, 7 _law_octets_here, 8 _law_spans_here -/
def b101 : List S :=
   [.asg (.nm 3) (.blt .list [(.v 0)]),
    .forr (.nm 4) .rng1 [(.bin .add (.i 1) (.bin .mod (.ix (.v 1) (.i 0)) (.i 2)))]
    l101_0,
    .ret (.v 3)]
def f101 : Fn := ⟨3, 9, b101⟩
/-- is_day; 0 value -/
def b102 : List S :=
   [.ret (.call 10 [(.v 0), (.bin .sub (.k 6) (.i 1))])]
def f102 : Fn := ⟨1, 1, b102⟩
/-- are_days; 0 start, 1 stop -/
def b103 : List S :=
   [.ret (.and (.call 102 [(.v 0)]) (.and (.call 10 [(.v 1), (.k 6)]) (.cmp .lt (.v 0) (.v 1))))]
def f103 : Fn := ⟨2, 2, b103⟩
/-- is_pair; 0 pair -/
def b104 : List S :=
   [.ret (.and (.isi (.v 0) .tup) (.and (.cmp .eq (.blt .len [(.v 0)]) (.i 2)) (.call 103 [(.ix (.v 0) (.i 0)), (.ix (.v 0) (.i 1))])))]
def f104 : Fn := ⟨1, 1, b104⟩
/-- are_spans; 0 spans, 1 pair, 2 k -/
def b105 : List S :=
   [.ife (.or (.not (.isi (.v 0) .tup)) (.not (.blt .all [(.lc (.call 104 [(.v 1)]) (.nm 1) [1] .seq [(.v 0)] [])])))
    [.ret (.b false)]
    [],
    .ret (.blt .all [(.lc (.cmp .lt (.ix (.ix (.v 0) (.v 2)) (.i 1)) (.ix (.ix (.v 0) (.bin .add (.v 2) (.i 1))) (.i 0))) (.nm 2) [2] .rng1 [(.bin .sub (.blt .len [(.v 0)]) (.i 1))] [])])]
def f105 : Fn := ⟨1, 3, b105⟩
/-- is_whole; 0 value, 1 most -/
def b106 : List S :=
   [.ret (.and (.isi (.v 0) .int) (.and (.not (.isi (.v 0) .bool)) (.chain .le .le (.i 0) (.v 0) (.v 1))))]
def f106 : Fn := ⟨2, 2, b106⟩
def l107_0 : List S :=
   [.ife (.not (.call 106 [(.v 1), (.i 255)]))
      [.ret (.b false)]
      []]
/-- are_octets; 0 value, 1 octet -/
def b107 : List S :=
   [.ife (.not (.isi (.v 0) .tup))
    [.ret (.b false)]
    [],
    .forr (.nm 1) .seq [(.v 0)]
    l107_0,
    .ret (.call 15 [(.v 0)])]
def f107 : Fn := ⟨1, 2, b107⟩
/-- is_pruned_part; 0 part -/
def b108 : List S :=
   [.ife (.or (.cmp .ne (.blt .len [(.v 0)]) (.i 5)) (.or (.not (.call 106 [(.ix (.v 0) (.i 1)), (.k 2)])) (.not (.call 106 [(.ix (.v 0) (.i 4)), (.bin .pow (.i 2) (.i 31))]))))
    [.ret (.b false)]
    [],
    .ife (.or (.cmp .lt (.ix (.v 0) (.i 1)) (.i 1)) (.or (.not (.call 107 [(.ix (.v 0) (.i 2))])) (.not (.call 107 [(.ix (.v 0) (.i 3))]))))
    [.ret (.b false)]
    [],
    .ife (.cmp .eq (.ix (.v 0) (.i 1)) (.i 1))
    [.ret (.cmp .eq (.ix (.v 0) (.i 2)) (.ix (.v 0) (.i 3)))]
    [],
    .ret (.cmp .lt (.ix (.v 0) (.i 2)) (.ix (.v 0) (.i 3)))]
def f108 : Fn := ⟨1, 1, b108⟩
/-- is_part; 0 part -/
def b109 : List S :=
   [.ife (.or (.not (.isi (.v 0) .tup)) (.cmp .eq (.blt .len [(.v 0)]) (.i 0)))
    [.ret (.b false)]
    [],
    .ife (.cmp .eq (.ix (.v 0) (.i 0)) (.s [110, 111, 100, 101]))
    [.ret (.cmp .eq (.blt .len [(.v 0)]) (.i 1))]
    [],
    .ife (.cmp .eq (.ix (.v 0) (.i 0)) (.s [108, 101, 97, 102]))
    [.ret (.and (.cmp .eq (.blt .len [(.v 0)]) (.i 3)) (.and (.call 13 [(.ix (.v 0) (.i 1))]) (.and (.call 105 [(.ix (.v 0) (.i 2))]) (.cmp .gt (.blt .len [(.ix (.v 0) (.i 2))]) (.i 0)))))]
    [],
    .ret (.and (.cmp .eq (.ix (.v 0) (.i 0)) (.s [112, 114, 117, 110, 101, 100])) (.call 108 [(.v 0)]))]
def f109 : Fn := ⟨1, 1, b109⟩
/-- splits_at; 0 tree, 1 split -/
def b110 : List S :=
   [.ret (.or (.cmp .eq (.ix (.v 0) (.i 1)) (.i 1)) (.cmp .gt (.call 7 [(.ix (.v 0) (.i 2)), (.ix (.v 0) (.i 3))]) (.v 1)))]
def f110 : Fn := ⟨2, 2, b110⟩
/-- are_children; 0 left, 1 right, 2 split -/
def b111 : List S :=
   [.ife (.not (.cmp .lt (.ix (.v 0) (.i 2)) (.ix (.v 1) (.i 3))))
    [.ret (.b false)]
    [],
    .asg (.nm 2) (.call 7 [(.ix (.v 0) (.i 2)), (.ix (.v 1) (.i 3))]),
    .ret (.and (.call 110 [(.v 0), (.v 2)]) (.call 110 [(.v 1), (.v 2)]))]
def f111 : Fn := ⟨2, 3, b111⟩
def l112_0 : List S :=
   [.ife (.not (.call 109 [(.v 3)]))
      [.rai 2 [(.v 2)]]
      []]
def l112_1 : List S :=
   [.asg (.nm 2) (.bin .sub (.bin .sub (.blt .len [(.v 1)]) (.i 1)) (.v 5)),
    .ife (.cmp .eq (.ix (.v 3) (.i 0)) (.s [110, 111, 100, 101]))
      [.ife (.or (.cmp .lt (.blt .len [(.v 4)]) (.i 2)) (.not (.call 111 [(.ix (.v 4) (.neg (.i 1))), (.ix (.v 4) (.neg (.i 2)))])))
        [.rai 2 [(.v 2)]]
        [],
      .pop (.nm 6) 4,
      .pop (.nm 7) 4,
      .app 4 (.call 47 [(.v 0), (.v 6), (.v 7)])]
      [.ife (.cmp .eq (.ix (.v 3) (.i 0)) (.s [108, 101, 97, 102]))
        [.app 4 (.call 44 [(.v 0), (.ix (.v 3) (.i 1)), (.ix (.v 3) (.i 2))])]
        [.app 4 (.v 3)]]]
/-- tree_of_paper; 0 hasher, 1 parts, 2 at, 3 part, 4 done, 5 turn, 6 left, 7 right -/
def b112 : List S :=
   [.forr (.tp [2, 3]) .enum [(.v 1)]
    l112_0,
    .asg (.nm 4) (.lst []),
    .forr (.tp [5, 3]) .revdr [(.v 1)]
    l112_1,
    .ife (.cmp .gt (.blt .len [(.v 4)]) (.i 1))
    [.rai 2 [(.blt .len [(.v 1)])]]
    [],
    .ret (.ite (.v 4) (.ix (.v 4) (.i 0)) .n)]
def f112 : Fn := ⟨2, 8, b112⟩
def l113_0 : List S :=
   [.ife (.not (.v 2))
      [.ret (.b true)]
      [],
    .pop (.tp [4, 5]) 2,
    .ife (.or (.cmp .is (.v 4) .n) (.cmp .is (.v 5) .n))
      [.ife (.cmp .ne (.v 4) (.v 5))
        [.ret (.b false)]
        []]
      [.ife (.cmp .eq (.ix (.v 5) (.i 0)) (.s [112, 114, 117, 110, 101, 100]))
        [.ife (.cmp .ne (.sl (.v 4) (some (.i 1)) (some (.i 5))) (.sl (.v 5) (some (.i 1)) none))
          [.ret (.b false)]
          []]
        [.ife (.cmp .eq (.ix (.v 5) (.i 0)) (.s [108, 101, 97, 102]))
          [.ife (.cmp .ne (.v 4) (.v 5))
            [.ret (.b false)]
            []]
          [.ife (.cmp .ne (.ix (.v 4) (.i 0)) (.s [110, 111, 100, 101]))
            [.ret (.b false)]
            [],
          .app 2 (.tup [(.ix (.v 4) (.i 5)), (.ix (.v 5) (.i 5))]),
          .app 2 (.tup [(.ix (.v 4) (.i 6)), (.ix (.v 5) (.i 6))])]]]]
/-- _law_same; 0 _law_tree, 1 _law_told, 2 _law_waiting, 3 _law_turn, 4 _law_one, 5 _law_other -/
def b113 : List S :=
   [.asg (.nm 2) (.lst [(.tup [(.v 0), (.v 1)])]),
    .forr (.nm 3) .rng1 [(.i 200)]
    l113_0,
    .ret (.b true)]
def f113 : Fn := ⟨2, 6, b113⟩
def l114_0 : List S :=
   [.asg (.nm 8) (.call 64 [(.v 4), (.call 65 [(.bin .add (.call 39 [(.v 0), (.i 1)]) (.v 7)), (.v 5)])]),
    .ife (.cmp .isnot (.call 67 [(.v 2), (.v 4), (.v 8)]) .n)
      [.ret (.b false)]
      [],
    .asg (.nm 9) (.call 101 [(.call 50 [(.v 8)]), (.call 0 [(.bin .add (.bin .mul (.call 39 [(.v 0), (.i 1)]) (.i 5)) (.v 7)), (.i 8)]), (.v 5)]),
    .tri
      [.asg (.nm 11) (.call 112 [(.v 2), (.v 9)])] 2 none
      [.cnt],
    .asg (.nm 10) (.call 67 [(.v 2), (.v 4), (.v 11)]),
    .ife (.cmp .ne (.call 55 [(.v 2), (.v 11)]) (.call 55 [(.v 2), (.v 4)]))
      [.ife (.cmp .isnot (.v 10) .n)
        [.ret (.b false)]
        []]
      [.ife (.cmp .is (.v 10) .n)
        [.ife (.not (.call 113 [(.v 4), (.v 11)]))
          [.ret (.b false)]
          []]
        [.ife (.not (.call 81 [(.v 2), (.v 10)]))
          [.ret (.b false)]
          []]]]
/-- law; 0 _law_script, 1 _law_draws_here, 2 _law_hasher_here, 3 _law_rows_here, 4 _law_tree, 5 _law_keys, 6 _law_row, 7 _law_k, 8 _law_own, 9 _law_parts_here, 10 _law_clash, 11 _law_told -/
def b114 : List S :=
   [.asg (.nm 1) (.call 0 [(.call 39 [(.v 0), (.i 0)]), (.i 2)]),
    .asg (.nm 2) (.new 0 [(.bin .add (.i 2) (.bin .mod (.ix (.v 1) (.i 0)) (.i 12))), (.bin .add (.i 1) (.bin .mod (.ix (.v 1) (.i 1)) (.i 5)))]),
    .asg (.nm 3) (.call 41 [(.v 0), (.i 2)]),
    .asg (.nm 4) (.call 59 [(.v 2), (.v 3)]),
    .asg (.nm 5) (.bin .add (.lc (.ix (.v 6) (.i 0)) (.nm 6) [6] .seq [(.v 3)] []) (.lst [(.tup [(.s [113])])])),
    .forr (.nm 7) .rng1 [(.i 8)]
    l114_0,
    .ret (.b true)]
def f114 : Fn := ⟨1, 12, b114⟩
end Ev
end
section
set_option maxRecDepth 100000
set_option maxHeartbeats 1000000
/-! Oct: draws, keys and their octets. -/
namespace Ev
def tpI (xs : List Int) : D := .tup (xs.map .int)
def lsI (xs : List Int) : D := .lst (xs.map .int)
def octV : D → List Int
  | .str s => 2 :: (s.map (fun (c : Nat) => (c : Int)) ++ [0])
  | .int v => [1, v / 65536, v / 256 % 256, v % 256]
  | _ => []
def valOk : D → Bool
  | .str s => decide (s.length ≤ 1000) && s.all fun c => decide (1 ≤ c) && decide (c < 127)
  | .int v => decide (0 ≤ v) && decide (v < 16777216)
  | _ => false
theorem line_big {n : Nat} (h : n ≤ 16000000) : n ≤ line := Nat.le_trans h (by unfold line; decide)
theorem flatA_ints : ∀ xs : List Int, flatA (xs.map .int) = true
  | [] => rfl
  | x :: xs => by simp only [List.map_cons, flatA, flat, flatA_ints xs, Bool.and_self]
theorem octV_len {d : D} (h : valOk d = true) : (octV d).length ≤ 1002 := by
  cases d <;> simp [valOk, octV] at *
  omega
@[simp] theorem shp_int {i : Int} : shp (.int i) = true := rfl
@[simp] theorem shp_non : shp .non = true := rfl
@[simp] theorem shp_bl {b : Bool} : shp (.bl b) = true := rfl
@[simp] theorem shp_str {z : List Nat} : shp (.str z) = true := rfl
@[simp] theorem deq_int {i j : Int} : deq (.int i) (.int j) = (i == j) := by simp [deq]
@[simp] theorem deq_in {i : Int} : deq (.int i) .non = false := by simp [deq]
@[simp] theorem deq_ni {i : Int} : deq .non (.int i) = false := by simp [deq]
@[simp] theorem deq_nn : deq .non .non = true := by simp [deq]
@[simp] theorem deq_bb {a b : Bool} : deq (.bl a) (.bl b) = (a == b) := by simp [deq]
theorem dep_ints : ∀ xs : List Int, depA (xs.map .int) = 0 := by
  intro xs
  induction xs with
  | nil => rfl
  | cons x xs ih => simp [depA, dep, ih]
theorem pln_ints : ∀ xs : List Int, plnA (xs.map .int) = true := by
  intro xs
  induction xs with
  | nil => rfl
  | cons x xs ih => simp [plnA, pln, ih]
section
variable {P : Pg} {n : Nat} {s : Sto}
theorem call1 (h1 : P.fns 1 = some f1) {d : D} (hd : valOk d = true) : callN P (n + 1) 1 [d] s = .ok (.d (tpI (octV d))) s := by
  rw [call_eq h1 rfl]
  cases d <;> first | (cases hd; done) | skip
  case str z =>
    simp only [valOk, Bool.and_eq_true, decide_eq_true_eq] at hd
    have hl := hd.1
    have hz : z.length ≤ line := line_big (by omega)
    have e : evE P (callN P n) (.lc (.blt .ord [.v 1]) (.nm 1) [1] .seq [.v 0] []) ⟨[.dat (.str z), .no], s⟩ = .ok (.tmp (.lst (z.map fun (c : Nat) => .int c))) ⟨[.dat (.str z), .no], s⟩ := by
      simp only [ev_lc, evs_cons, evs_nil, ev_v, get_mk, getS_zero, bind_ok, List.map_cons, List.map_nil, rd_d, wk_s, if_pos hz, ofO_some]
      rw [doLc_map (fun x => match x with
        | .str [c] => .int c
        | _ => .non) (by simpa using hz) (by simp [isOwn]) ?_]
      · simp [Function.comp_def]
      · intro x hx
        obtain ⟨c, hc, rfl⟩ := List.mem_map.mp hx
        simp [lcF, noex]
    have l1 : 1 + z.length ≤ line := line_big (by omega)
    have l2 : 1 + z.length + 1 ≤ line := line_big (by omega)
    simp [f1, b1, startL, e, tpI, octV, l1]
    have l3 : z.length + 1 + 1 ≤ line := by omega
    simp [l3, Function.comp_def]
  case int v =>
    simp [f1, b1, startL, tpI, octV]
theorem loop2 (h1 : P.fns 1 = some f1) {d0 : Sl} : ∀ (xs : List D) (acc : List Int) (v : Sl), (∀ x ∈ xs, valOk x = true) → acc.length + 1002 * xs.length ≤ line →
    ∃ v', forL (.nm 2) (evSs P (callN P (n + 1)) [.asg (.nm 1) (.bin .add (.v 1) (.call 1 [.v 2]))]) xs ⟨[d0, .dat (tpI acc), v], s⟩ = .ok .nx ⟨[d0, .dat (tpI (acc ++ xs.flatMap octV)), v'], s⟩
  | [], acc, v, _, _ => ⟨v, by simp [forL]⟩
  | x :: xs, acc, v, hx, hl => by
    have h := hx x List.mem_cons_self
    have ho := octV_len h
    simp only [List.length_cons] at hl
    obtain ⟨v', e⟩ := loop2 h1 (d0 := d0) xs (acc ++ octV x) (.dat x) (fun y hy => hx y (List.mem_cons_of_mem _ hy)) (by simp only [List.length_append]; omega)
    have l1 : acc.length + (octV x).length ≤ line := by omega
    refine ⟨v', ?_⟩
    unfold forL
    simp only [tgt, set_mk, setS_succ, setS_zero]
    have e1 : evSs P (callN P (n + 1)) [.asg (.nm 1) (.bin .add (.v 1) (.call 1 [.v 2]))] ⟨[d0, .dat (tpI acc), .dat x], s⟩ = .ok .nx ⟨[d0, .dat (tpI (acc ++ octV x)), .dat x], s⟩ := by
      simp [call1 h1 h, tpI, l1]
    rw [e1, bind_ok]
    simp only [List.flatMap_cons, ← List.append_assoc]
    exact e
theorem call2 (h1 : P.fns 1 = some f1) (h2 : P.fns 2 = some f2) {ds : List D} (hd : ∀ x ∈ ds, valOk x = true) (hl : ds.length ≤ 1000) : callN P (n + 2) 2 [.tup ds] s = .ok (.d (tpI (ds.flatMap octV))) s := by
  rw [call_eq h2 rfl]
  obtain ⟨v', e⟩ := loop2 (n := n) (s := s) h1 (d0 := .dat (.tup ds)) ds [] .no hd (line_big (by simp only [List.length_nil]; omega))
  simp only [tpI, List.map_nil, List.nil_append] at e
  simp [f2, b2, startL, doFor, e, tpI]
theorem flat_len {ds : List D} (hd : ∀ x ∈ ds, valOk x = true) : (ds.flatMap octV).length ≤ 1002 * ds.length := by
  induction ds with
  | nil => simp
  | cons x ds ih =>
    have := octV_len (hd x List.mem_cons_self)
    have := ih fun y hy => hd y (List.mem_cons_of_mem _ hy)
    simp only [List.flatMap_cons, List.length_append, List.length_cons]
    omega
end
end Ev
end
section
set_option maxRecDepth 100000
set_option maxHeartbeats 1000000
/-! Oct2: draws; keys drawn. -/
namespace Ev
section
variable {P : Pg} {n : Nat} {s : Sto}
@[simp] theorem okMul_r {i j : Int} (h : (decide (-(2 ^ 64) < j) && decide (j < 2 ^ 64)) = true) : okMul i j = true := by unfold okMul; rw [h, Bool.or_true]
theorem draws1 {a b st : Sl} : ∀ (xs : List D) (l : List Int) (r : Int) (v : Sl), l.length + xs.length ≤ 1000 →
    ∃ (l' : List Int) (r' : Int) (v' : Sl), forL (.nm 4) (evSs P (callN P n) [.ife (.cmp .gt (.v 3) (.i 0)) [.app 2 (.bin .mod (.blt .int [.v 3]) (.i 1000)), .asg (.nm 3) (.bin .fdiv (.v 3) (.i 1000))] []]) xs ⟨[a, b, .own (lsI l), .dat (.int r), v, st], s⟩
      = .ok .nx ⟨[a, b, .own (lsI l'), .dat (.int r'), v', st], s⟩ ∧ l'.length ≤ l.length + xs.length
  | [], l, r, v, h => ⟨l, r, v, rfl, Nat.le_refl _⟩
  | x :: xs, l, r, v, h => by
    simp only [List.length_cons] at h
    have hl : l.length < line := Nat.lt_of_lt_of_le (show l.length < 1001 by omega) (line_big (by decide))
    unfold forL
    simp only [tgt_nm, set_mk, setS_succ, setS_zero]
    by_cases hr : 0 < r
    · obtain ⟨l', r', v', e, h'⟩ := draws1 (a := a) (b := b) (st := st) xs (l ++ [r % 1000]) (r / 1000) (.dat x) (by simp only [List.length_append, List.length_cons, List.length_nil]; omega)
      refine ⟨l', r', v', ?_, by simp only [List.length_append, List.length_cons, List.length_nil] at h'; simp only [List.length_cons]; omega⟩
      rw [← e]
      simp [hr, lsI, doApp, hl]
    · obtain ⟨l', r', v', e, h'⟩ := draws1 (a := a) (b := b) (st := st) xs l r (.dat x) (by omega)
      refine ⟨l', r', v', ?_, by simp only [List.length_cons]; omega⟩
      rw [← e]
      simp [hr]
end
end Ev
end
section
set_option maxRecDepth 100000
set_option maxHeartbeats 1000000
/-! Oct3: values and keys drawn; bits. -/
namespace Ev
section
variable {P : Pg} {n : Nat} {s : Sto}
/-! bits -/
end
end Ev
end
section
set_option maxRecDepth 100000
set_option maxHeartbeats 1000000
/-! Oct4: the first bit; plain facts about octets. -/
namespace Ev
/-! an octet and its bits -/
/-! no key's octets begin with another's -/
end Ev
end
section
set_option maxRecDepth 100000
set_option maxHeartbeats 1000000
/-! Oct5: first_bit and has_bit. -/
namespace Ev
section
variable {P : Pg} {n : Nat} {s : Sto}
end
end Ev
end
section
set_option maxRecDepth 100000
set_option maxHeartbeats 1000000
/-! Rng: ranges of octets, plain facts. -/
namespace Ev
/-- within a range that a beginning makes -/
def within (x a b : List Int) : Bool := !lexLt x a && lexLt x b
def ords (b : List Nat) : List Int := b.map fun (c : Nat) => (c : Int)
end Ev
end
section
set_option maxRecDepth 100000
set_option maxHeartbeats 1000000
/-! K01a: functions that law k01 reaches. -/
namespace Ev
theorem add_tp {x y : List Int} (h : x.length + y.length ≤ line) : binD .add (tpI x) (tpI y) = some (.d (tpI (x ++ y))) := by
  simp [tpI, h]
theorem tp_one {i : Int} : D.tup [.int i] = tpI [i] := rfl
theorem tuple_ls {x : List Int} : blt1 .tuple (lsI x) = some (.d (tpI x)) := rfl
section
variable {P : Pg} {n : Nat} {s : Sto}
structure Has1 (P : Pg) : Prop where
  p0 : P.fns 0 = some f0
  p1 : P.fns 1 = some f1
  p2 : P.fns 2 = some f2
  p3 : P.fns 3 = some f3
  p4 : P.fns 4 = some f4
  p5 : P.fns 5 = some f5
  p22 : P.fns 22 = some f22
  p23 : P.fns 23 = some f23
  p24 : P.fns 24 = some f24
  p25 : P.fns 25 = some f25
  p26 : P.fns 26 = some f26
theorem call24 (H : Has1 P) {vs : List D} (hv : ∀ x ∈ vs, valOk x = true) (hl : vs.length ≤ 1000) : callN P (n + 3) 24 [.tup vs] s = .ok (.d (.tup [tpI (vs.flatMap octV), tpI (vs.flatMap octV ++ [3])])) s := by
  rw [call_eq H.p24 rfl]
  have e0 : startL f24.nl [.tup vs] = [.dat (.tup vs), .no] := rfl
  have eb : f24.body = b24 := rfl
  rw [e0, eb]
  have e := call2 (n := n) (s := s) H.p1 H.p2 hv hl
  have hf := flat_len hv
  have l1 : (vs.flatMap octV).length + [(3 : Int)].length ≤ line := line_big (by simp only [List.length_cons, List.length_nil]; omega)
  have fr : (Rv.d (tpI (vs.flatMap octV))).free = true := flatA_ints _
  unfold b24
  simp only [ess_cons, ess_nil, es_asg, ev_call, evs_cons, evs_nil, ev_v, get_mk, getS_zero, getS_succ, bind_ok, doCall_eq, List.map_cons, List.map_nil, rd_d, e, called_ok, vl_d, fr, if_true, lay_d, set_mk, setS_succ, setS_zero, nxt_nx, es_ret, ev_tup, ev_bin, ev_i, frzs_cons, frzs_nil, frz_d, tp_one, add_tp l1, ofO_some, rv_d, nxt_rt, endR_rt]
theorem lcOrd3 {z : List Nat} (hz : z.length ≤ 1000) {d0 b2 : Sl} : evE P (callN P n) (.lc (.blt .ord [(.v 3)]) (.nm 3) [3] .seq [(.v 1)] []) ⟨[d0, .dat (.str z), b2, .no], s⟩ = .ok (.tmp (lsI (ords z))) ⟨[d0, .dat (.str z), b2, .no], s⟩ := by
  have hl : z.length ≤ line := line_big (by omega)
  rw [ev_lc]
  simp only [evs_cons, evs_nil, ev_v, get_mk, getS_zero, getS_succ, bind_ok, List.map_cons, List.map_nil, rd_d, wk_s, if_pos hl, ofO_some]
  rw [doLc_map (fun x => match x with
    | .str [c] => .int c
    | _ => .non) (by simpa using hl) (by simp [isOwn]) ?_]
  · simp [Function.comp_def, lsI, ords]
  · intro x hx
    obtain ⟨c, hc, rfl⟩ := List.mem_map.mp hx
    simp [lcF, noex]
theorem call23 (H : Has1 P) {vs : List D} {z : List Nat} (hv : ∀ x ∈ vs, valOk x = true) (hl : vs.length ≤ 1000) (hz : z.length ≤ 1000) : callN P (n + 3) 23 [.tup vs, .str z] s = .ok (.d (.tup [tpI (vs.flatMap octV ++ 2 :: ords z), tpI (vs.flatMap octV ++ 2 :: ords z ++ [127])])) s := by
  rw [call_eq H.p23 rfl]
  have e0 : startL f23.nl [.tup vs, .str z] = [.dat (.tup vs), .dat (.str z), .no, .no] := rfl
  have eb : f23.body = b23 := rfl
  rw [e0, eb]
  have e := call2 (n := n) (s := s) H.p1 H.p2 hv hl
  have e3 := lcOrd3 (P := P) (n := n + 2) (s := s) hz (d0 := .dat (.tup vs)) (b2 := .no)
  have hf := flat_len hv
  have ho : (ords z).length = z.length := by simp [ords]
  have l1 : (vs.flatMap octV).length + [(2 : Int)].length ≤ line := line_big (by simp only [List.length_cons, List.length_nil]; omega)
  have l2 : (vs.flatMap octV ++ [2]).length + (ords z).length ≤ line := line_big (by simp only [List.length_append, List.length_cons, List.length_nil]; omega)
  have l3 : (vs.flatMap octV ++ [2] ++ ords z).length + [(127 : Int)].length ≤ line := line_big (by simp only [List.length_append, List.length_cons, List.length_nil]; omega)
  have fr : (Rv.d (tpI (vs.flatMap octV))).free = true := flatA_ints _
  have ea : vs.flatMap octV ++ 2 :: ords z = vs.flatMap octV ++ [2] ++ ords z := by simp
  rw [ea]
  unfold b23
  simp only [ess_cons, ess_nil, es_asg, ev_call, evs_cons, evs_nil, ev_v, get_mk, getS_zero, getS_succ, bind_ok, doCall_eq, List.map_cons, List.map_nil, rd_d, rd_tmp, e, called_ok, vl_d, fr, if_true, lay_d, set_mk, setS_succ, setS_zero, nxt_nx, es_ret, ev_tup, ev_bin, ev_i, ev_blt, doBlt_eq, blt_one, e3, tuple_ls, frzs_cons, frzs_nil, frz_d, tp_one, add_tp l1, add_tp l2, add_tp l3, ofO_some, rv_d, nxt_rt, endR_rt]
end
end Ev
end
section
set_option maxRecDepth 100000
set_option maxHeartbeats 1000000
/-! K01b: law k01, the inner turn. -/
namespace Ev
theorem cut_take {α : Type} (xs : List α) {j : Nat} : cut xs none (some (j : Int)) = xs.take j := by
  have h : ¬ ((j : Int) < 0) := by omega
  simp only [cut, sIx, h, if_false, List.drop_zero, Nat.sub_zero, Int.toNat_natCast]
  rw [List.take_eq_take_iff]
  omega
section
variable {P : Pg} {n : Nat} {s : Sto}
def in1 : E := .cmp .ne (.call 26 [(.v 10), (.call 24 [(.v 5)])]) (.v 12)
/-- the states of the inner turn -/
structure In1 (keys : List D) (k : Nat) (vs : List D) (z : List Nat) (own : List D) : Prop where
  kk : keys[k]? = some (.tup own)
  ow : ∀ x ∈ own, valOk x = true
  ol : own.length ≤ 10
  vv : ∀ x ∈ vs, valOk x = true
  vl : vs.length ≤ 10
  zz : ∀ c ∈ z, c ≠ 0
  zl : z.length ≤ 100
theorem ife_skip {t : E} {a : List S} {c : C} {call : CallT} (h : evT P call t c = .ok false c) : evS P call (.ife t a []) c = .ok .nx c := by
  rw [es_ife, h]; simp
end
end Ev
end
section
set_option maxRecDepth 100000
set_option maxHeartbeats 1000000
/-! K01c: law k01, the turn. -/
namespace Ev
section
variable {P : Pg} {n : Nat} {s : Sto}
end
end Ev
end
section
set_option maxRecDepth 100000
set_option maxHeartbeats 1000000
/-! K01d: law k01, the whole. -/
namespace Ev
section
variable {P : Pg} {n : Nat} {s : Sto}
end
end Ev
end
section
set_option maxRecDepth 100000
set_option maxHeartbeats 1000000
/-! K24a: wishes. -/
namespace Ev
inductive Wi where
  | word (z : List Nat) | beg (z : List Nat) | non (w : Wi) | par (b : Bool) (ws : List Wi)
def sWord : List Nat := [119, 111, 114, 100]
def sBegins : List Nat := [98, 101, 103, 105, 110, 115]
def sNone : List Nat := [110, 111, 110, 101]
def sAll : List Nat := [97, 108, 108]
def sAny : List Nat := [97, 110, 121]
mutual
def Wi.d : Wi → D
  | .word z => .tup [.str sWord, .str z]
  | .beg z => .tup [.str sBegins, .str z]
  | .non w => .tup [.str sNone, w.d]
  | .par b ws => .tup [.str (if b then sAll else sAny), .tup (dsW ws)]
def dsW : List Wi → List D
  | [] => []
  | w :: ws => w.d :: dsW ws
end
mutual
def Wi.size : Wi → Nat
  | .word _ => 1
  | .beg _ => 1
  | .non w => w.size + 1
  | .par _ ws => sizes ws + 1
def sizes : List Wi → Nat
  | [] => 0
  | w :: ws => w.size + sizes ws
end
mutual
def Wi.ht : Wi → Nat
  | .word _ => 1
  | .beg _ => 1
  | .non w => w.ht + 1
  | .par _ ws => hts ws + 1
def hts : List Wi → Nat
  | [] => 0
  | w :: ws => max w.ht (hts ws)
end
mutual
def Wi.ok : Wi → Bool
  | .word z => valOk (.str z)
  | .beg z => valOk (.str z)
  | .non w => w.ok
  | .par _ ws => oks ws
def oks : List Wi → Bool
  | [] => true
  | w :: ws => w.ok && oks ws
end
def rgV (vs : List D) : D := .tup [tpI (vs.flatMap octV), tpI (vs.flatMap octV ++ [3])]
def rgT (vs : List D) (z : List Nat) : D := .tup [tpI (vs.flatMap octV ++ 2 :: ords z), tpI (vs.flatMap octV ++ 2 :: ords z ++ [127])]
mutual
/-- the ranges of a wish -/
def Wi.rg (t c : D) : Wi → List D
  | .word z => [rgV [.str [119], t, c, .str z]]
  | .beg z => [rgT [.str [119], t, c] z]
  | .non w => rgV [.str [116], t] :: w.rg t c
  | .par _ ws => rgs t c ws
def rgs (t c : D) : List Wi → List D
  | [] => []
  | w :: ws => w.rg t c ++ rgs t c ws
end
end Ev
end
section
set_option maxRecDepth 100000
set_option maxHeartbeats 1000000
/-! K24b: wish_ranges. -/
namespace Ev
theorem flat_rgV (vs : List D) : flat (rgV vs) = true := by
  simp only [rgV, flat, flatA, flat_tI', Bool.and_self]
where flat_tI' {xs : List Int} : flat (tpI xs) = true := flatA_ints xs
theorem flat_rgT (vs : List D) (z : List Nat) : flat (rgT vs z) = true := by
  simp only [rgT, flat, flatA, flat_rgV.flat_tI', Bool.and_self]
theorem flatA_app : ∀ a b : List D, flatA (a ++ b) = (flatA a && flatA b)
  | [], b => rfl
  | x :: a, b => by simp [flatA, flatA_app a b, Bool.and_assoc]
mutual
theorem rg_flat (t c : D) : ∀ w : Wi, flatA (w.rg t c) = true
  | .word z => by simp only [Wi.rg, flatA, flat_rgV, Bool.and_self]
  | .beg z => by simp only [Wi.rg, flatA, flat_rgT, Bool.and_self]
  | .non w => by simp only [Wi.rg, flatA, flat_rgV, rg_flat t c w, Bool.and_self]
  | .par _ ws => by simp only [Wi.rg, rgs_flat t c ws]
theorem rgs_flat (t c : D) : ∀ ws : List Wi, flatA (rgs t c ws) = true
  | [] => rfl
  | w :: ws => by simp only [rgs, flatA_app, rg_flat t c w, rgs_flat t c ws, Bool.and_self]
end
mutual
theorem rg_len (t c : D) : ∀ w : Wi, (w.rg t c).length ≤ w.size
  | .word z => by simp [Wi.rg, Wi.size]
  | .beg z => by simp [Wi.rg, Wi.size]
  | .non w => by simp only [Wi.rg, Wi.size, List.length_cons]; have := rg_len t c w; omega
  | .par _ ws => by simp only [Wi.rg, Wi.size]; have := rgs_len t c ws; omega
theorem rgs_len (t c : D) : ∀ ws : List Wi, (rgs t c ws).length ≤ sizes ws
  | [] => by simp [rgs, sizes]
  | w :: ws => by simp only [rgs, sizes, List.length_append]; have := rg_len t c w; have := rgs_len t c ws; omega
end
mutual
theorem d_flat : ∀ w : Wi, flat w.d = true
  | .word z => rfl
  | .beg z => rfl
  | .non w => by simp only [Wi.d, flat, flatA, d_flat w, Bool.and_self]
  | .par _ ws => by simp only [Wi.d, flat, flatA, ds_flat ws, Bool.and_self]
theorem ds_flat : ∀ ws : List Wi, flatA (dsW ws) = true
  | [] => rfl
  | w :: ws => by simp only [dsW, flatA, d_flat w, ds_flat ws, Bool.and_self]
end
theorem lay_tp2 {i j : Nat} {a b : D} {c : C} : lay (.tp [i, j]) (.d (.tup [a, b])) c = .ok .nx ((c.set i (.dat a)).set j (.dat b)) := rfl
theorem deq_ss (x y : List Nat) : deq (.str x) (.str y) = (x == y) := by simp [deq]
structure Has24 (P : Pg) : Prop where
  h1 : Has1 P
  p35 : P.fns 35 = some f35
section
variable {P : Pg} {s : Sto}
def lp35 : List S := [.asg (.nm 5) (.bin .add (.v 5) (.call 35 [(.v 6), (.v 1), (.v 2)]))]
theorem valOk_all {vs : List D} (h : vs.all valOk = true) : ∀ x ∈ vs, valOk x = true := List.all_eq_true.mp h
mutual
theorem call35 (H : Has1 P) (h35 : P.fns 35 = some f35) {t c : D} (ht : valOk t = true) (hc : valOk c = true) : ∀ (w : Wi) (n : Nat), w.ok = true → w.size ≤ 1000 → callN P (n + w.ht + 3) 35 [w.d, t, c] s = .ok (.own (.lst (w.rg t c))) s
  | .word z, n, hw, hs => by
    rw [show n + (Wi.word z).ht + 3 = (n + 3) + 1 from by simp [Wi.ht], call_eq h35 rfl]
    have e := call24 (n := n) (s := s) H (vs := [.str [119], t, c, .str z]) (valOk_all (by simp only [List.all_cons, List.all_nil, ht, hc, Bool.and_true, Bool.true_and]; exact (show (valOk (.str [119]) && valOk (.str z)) = true by rw [show valOk (.str z) = true from hw]; rfl))) (by simp)
    have fr : (Rv.d (rgV [.str [119], t, c, .str z])).free = true := flat_rgV _
    have e : callN P (n + 3) 24 [.tup [.str [119], t, c, .str z]] s = .ok (.d (rgV [.str [119], t, c, .str z])) s := e
    have e0 : startL f35.nl [(Wi.word z).d, t, c] = [.dat (.tup [.str sWord, .str z]), .dat t, .dat c, .no, .no, .no, .no] := rfl
    have eb : f35.body = b35 := rfl
    rw [e0, eb]
    unfold b35
    rw [step (c' := ⟨[.dat (.tup [.str sWord, .str z]), .dat t, .dat c, .dat (.str sWord), .dat (.str z), .no, .no], s⟩) (by simp only [es_asg, ev_v, get_mk, getS_zero, bind_ok, lay_tp2, set_mk, setS_succ, setS_zero])]
    rw [stop (v := .own (.lst [rgV [.str [119], t, c, .str z]])) (c' := ⟨[.dat (.tup [.str sWord, .str z]), .dat t, .dat c, .dat (.str sWord), .dat (.str z), .no, .no], s⟩) (by
      simp only [es_ife, evt_cmp, ev_v, ev_s, get_mk, getS_zero, getS_succ, bind_ok, rd_d, c_eq, shp_str, Bool.and_self, if_true, deq_ss, ofO_some, show (sWord == [119, 111, 114, 100]) = true from rfl, ess_cons, es_ret, ev_lst, ev_call, ev_tup, evs_cons, evs_nil, doCall_eq, List.map_cons, List.map_nil, frzs_cons, frzs_nil, frz_d, e, called_ok, vl_d, fr, rv_tmp, nxt_rt])]
    rfl
  | .beg z, n, hw, hs => by
    rw [show n + (Wi.beg z).ht + 3 = (n + 3) + 1 from by simp [Wi.ht], call_eq h35 rfl]
    have hz : z.length ≤ 1000 := by
      have : valOk (.str z) = true := hw
      simp only [valOk, Bool.and_eq_true, decide_eq_true_eq] at this
      exact this.1
    have e := call23 (n := n) (s := s) H (vs := [.str [119], t, c]) (z := z) (valOk_all (by simp only [List.all_cons, List.all_nil, ht, hc, Bool.and_true]; rfl)) (by simp) hz
    have fr : (Rv.d (rgT [.str [119], t, c] z)).free = true := flat_rgT _ _
    have e : callN P (n + 3) 23 [.tup [.str [119], t, c], .str z] s = .ok (.d (rgT [.str [119], t, c] z)) s := e
    have e0 : startL f35.nl [(Wi.beg z).d, t, c] = [.dat (.tup [.str sBegins, .str z]), .dat t, .dat c, .no, .no, .no, .no] := rfl
    have eb : f35.body = b35 := rfl
    rw [e0, eb]
    unfold b35
    rw [step (c' := ⟨[.dat (.tup [.str sBegins, .str z]), .dat t, .dat c, .dat (.str sBegins), .dat (.str z), .no, .no], s⟩) (by simp only [es_asg, ev_v, get_mk, getS_zero, bind_ok, lay_tp2, set_mk, setS_succ, setS_zero])]
    rw [step (ife_skip (by simp only [evt_cmp, ev_v, ev_s, get_mk, getS_zero, getS_succ, bind_ok, rd_d, c_eq, shp_str, Bool.and_self, if_true, deq_ss, ofO_some, show (sBegins == [119, 111, 114, 100]) = false from rfl]))]
    rw [stop (v := .own (.lst [rgT [.str [119], t, c] z])) (c' := ⟨[.dat (.tup [.str sBegins, .str z]), .dat t, .dat c, .dat (.str sBegins), .dat (.str z), .no, .no], s⟩) (by
      simp only [es_ife, evt_cmp, ev_v, ev_s, get_mk, getS_zero, getS_succ, bind_ok, rd_d, c_eq, shp_str, Bool.and_self, if_true, deq_ss, ofO_some, show (sBegins == [98, 101, 103, 105, 110, 115]) = true from rfl, ess_cons, es_ret, ev_lst, ev_call, ev_tup, evs_cons, evs_nil, doCall_eq, List.map_cons, List.map_nil, frzs_cons, frzs_nil, frz_d, e, called_ok, vl_d, fr, rv_tmp, nxt_rt])]
    rfl
  | .non w, n, hw, hs => by
    rw [show n + (Wi.non w).ht + 3 = (n + w.ht + 3) + 1 from by simp only [Wi.ht]; omega, call_eq h35 rfl]
    have hsz : w.size ≤ 1000 := by simp only [Wi.size] at hs; omega
    have ih := call35 H h35 ht hc w n hw hsz
    have e := call24 (n := n + w.ht) (s := s) H (vs := [.str [116], t]) (valOk_all (by simp only [List.all_cons, List.all_nil, ht, Bool.and_true]; rfl)) (by simp)
    have fr : (Rv.d (rgV [.str [116], t])).free = true := flat_rgV _
    have fr2 : (Rv.own (.lst (w.rg t c))).free = true := rg_flat t c w
    have hl := rg_len t c w
    have l1 : [rgV [.str [116], t]].length + (w.rg t c).length ≤ line := line_big (by simp only [List.length_cons, List.length_nil]; omega)
    have e : callN P (n + w.ht + 3) 24 [.tup [.str [116], t]] s = .ok (.d (rgV [.str [116], t])) s := e
    have e0 : startL f35.nl [(Wi.non w).d, t, c] = [.dat (.tup [.str sNone, w.d]), .dat t, .dat c, .no, .no, .no, .no] := rfl
    have eb : f35.body = b35 := rfl
    rw [e0, eb]
    unfold b35
    rw [step (c' := ⟨[.dat (.tup [.str sNone, w.d]), .dat t, .dat c, .dat (.str sNone), .dat w.d, .no, .no], s⟩) (by simp only [es_asg, ev_v, get_mk, getS_zero, bind_ok, lay_tp2, set_mk, setS_succ, setS_zero])]
    rw [step (ife_skip (by simp only [evt_cmp, ev_v, ev_s, get_mk, getS_zero, getS_succ, bind_ok, rd_d, c_eq, shp_str, Bool.and_self, if_true, deq_ss, ofO_some, show (sNone == [119, 111, 114, 100]) = false from rfl]))]
    rw [step (ife_skip (by simp only [evt_cmp, ev_v, ev_s, get_mk, getS_zero, getS_succ, bind_ok, rd_d, c_eq, shp_str, Bool.and_self, if_true, deq_ss, ofO_some, show (sNone == [98, 101, 103, 105, 110, 115]) = false from rfl]))]
    rw [stop (v := .own (.lst ([rgV [.str [116], t]] ++ w.rg t c))) (c' := ⟨[.dat (.tup [.str sNone, w.d]), .dat t, .dat c, .dat (.str sNone), .dat w.d, .no, .no], s⟩) (by
      simp only [es_ife, evt_cmp, ev_v, ev_s, get_mk, getS_zero, getS_succ, bind_ok, rd_d, rd_tmp, c_eq, shp_str, Bool.and_self, if_true, deq_ss, ofO_some, show (sNone == [110, 111, 110, 101]) = true from rfl, ess_cons, es_ret, ev_bin, ev_lst, ev_call, ev_tup, evs_cons, evs_nil, doCall_eq, List.map_cons, List.map_nil, frzs_cons, frzs_nil, frz_d, e, ih, called_ok, vl_d, vl_own, fr, fr2, add_l, l1, rv_tmp, nxt_rt])]
    rfl
  | .par b ws, n, hw, hs => by
    rw [show n + (Wi.par b ws).ht + 3 = (n + hts ws + 3) + 1 from by simp only [Wi.ht]; omega, call_eq h35 rfl]
    have hsz : sizes ws ≤ 1000 := by simp only [Wi.size] at hs; omega
    have e0 : startL f35.nl [(Wi.par b ws).d, t, c] = [.dat (.tup [.str (if b then sAll else sAny), .tup (dsW ws)]), .dat t, .dat c, .no, .no, .no, .no] := rfl
    have eb : f35.body = b35 := rfl
    have k1 : ((if b then sAll else sAny) == [119, 111, 114, 100]) = false := by cases b <;> rfl
    have k2 : ((if b then sAll else sAny) == [98, 101, 103, 105, 110, 115]) = false := by cases b <;> rfl
    have k3 : ((if b then sAll else sAny) == [110, 111, 110, 101]) = false := by cases b <;> rfl
    obtain ⟨v6, el⟩ := loop35 H h35 ht hc ws (n + hts ws) [] (.dat (.tup [.str (if b then sAll else sAny), .tup (dsW ws)])) (.dat (.str (if b then sAll else sAny))) (.dat (.tup (dsW ws))) .no (by omega) hw (by simp only [List.length_nil]; omega)
    rw [e0, eb]
    unfold b35
    generalize (if b then sAll else sAny) = kd at *
    rw [step (c' := ⟨[.dat (.tup [.str kd, .tup (dsW ws)]), .dat t, .dat c, .dat (.str kd), .dat (.tup (dsW ws)), .no, .no], s⟩) (by simp only [es_asg, ev_v, get_mk, getS_zero, bind_ok, lay_tp2, set_mk, setS_succ, setS_zero])]
    rw [step (ife_skip (by simp only [evt_cmp, ev_v, ev_s, get_mk, getS_zero, getS_succ, bind_ok, rd_d, c_eq, shp_str, Bool.and_self, if_true, deq_ss, ofO_some, k1]))]
    rw [step (ife_skip (by simp only [evt_cmp, ev_v, ev_s, get_mk, getS_zero, getS_succ, bind_ok, rd_d, c_eq, shp_str, Bool.and_self, if_true, deq_ss, ofO_some, k2]))]
    rw [step (ife_skip (by simp only [evt_cmp, ev_v, ev_s, get_mk, getS_zero, getS_succ, bind_ok, rd_d, c_eq, shp_str, Bool.and_self, if_true, deq_ss, ofO_some, k3]))]
    rw [step (c' := ⟨[.dat (.tup [.str kd, .tup (dsW ws)]), .dat t, .dat c, .dat (.str kd), .dat (.tup (dsW ws)), .own (.lst []), .no], s⟩) (by simp only [es_asg, ev_lst, evs_nil, bind_ok, List.map_nil, frzs_nil, lay_tmp, set_mk, setS_succ, setS_zero])]
    rw [step (c' := ⟨[.dat (.tup [.str kd, .tup (dsW ws)]), .dat t, .dat c, .dat (.str kd), .dat (.tup (dsW ws)), .own (.lst (rgs t c ws)), v6], s⟩) (by
      simp only [es_forr, evs_cons, evs_nil, ev_v, get_mk, getS_zero, getS_succ, bind_ok, doFor, List.map_cons, List.map_nil, rd_d, wk_t, ofO_some, keepsV_d, keepsV_nil, if_true]
      rw [List.nil_append] at el
      exact el)]
    simp only [ess_cons, es_ret, ev_v, get_mk, getS_zero, getS_succ, bind_ok, rv_bor, nxt_rt, endR_rt]
    rfl
theorem loop35 (H : Has1 P) (h35 : P.fns 35 = some f35) {t c : D} (ht : valOk t = true) (hc : valOk c = true) : ∀ (ws : List Wi) (m : Nat) (acc : List D) (v0 v3 v4 v6 : Sl), hts ws ≤ m → oks ws = true → acc.length + sizes ws ≤ 1000 →
    ∃ v6', forL (.nm 6) (evSs P (callN P (m + 3)) lp35) (dsW ws) ⟨[v0, .dat t, .dat c, v3, v4, .own (.lst acc), v6], s⟩ = .ok .nx ⟨[v0, .dat t, .dat c, v3, v4, .own (.lst (acc ++ rgs t c ws)), v6'], s⟩
  | [], m, acc, v0, v3, v4, v6, hm, hw, hs => ⟨v6, by simp [dsW, forL, rgs]⟩
  | w :: ws, m, acc, v0, v3, v4, v6, hm, hw, hs => by
    simp only [hts] at hm
    simp only [oks, Bool.and_eq_true] at hw
    simp only [sizes] at hs
    have h1 := call35 H h35 ht hc w (m - w.ht) hw.1 (by omega)
    rw [show m - w.ht + w.ht + 3 = m + 3 from by omega] at h1
    have hl := rg_len t c w
    obtain ⟨v6', ih⟩ := loop35 H h35 ht hc ws m (acc ++ w.rg t c) v0 v3 v4 (.dat w.d) (by omega) hw.2 (by rw [List.length_append]; omega)
    have fr : (Rv.own (.lst (w.rg t c))).free = true := rg_flat t c w
    have l1 : acc.length + (w.rg t c).length ≤ line := line_big (by omega)
    refine ⟨v6', ?_⟩
    simp only [dsW]
    unfold forL
    simp only [tgt_nm, set_mk, setS_succ, setS_zero]
    have e : evSs P (callN P (m + 3)) lp35 ⟨[v0, .dat t, .dat c, v3, v4, .own (.lst acc), .dat w.d], s⟩ = .ok .nx ⟨[v0, .dat t, .dat c, v3, v4, .own (.lst (acc ++ w.rg t c)), .dat w.d], s⟩ := by
      unfold lp35
      simp only [ess_cons, ess_nil, es_asg, ev_bin, ev_call, evs_cons, evs_nil, ev_v, get_mk, getS_zero, getS_succ, bind_ok, doCall_eq, List.map_cons, List.map_nil, rd_d, rd_bor, rd_tmp, h1, called_ok, vl_own, fr, if_true, add_l, l1, ofO_some, lay_tmp, set_mk, setS_succ, setS_zero, nxt_nx]
    rw [e, bind_ok]
    simp only [rgs, ← List.append_assoc]
    exact ih
end
end
end Ev
end
section
set_option maxRecDepth 100000
set_option maxHeartbeats 1000000
/-! K24c: the waiting list. -/
namespace Ev
section
variable {P : Pg} {n : Nat} {s : Sto}
end
end Ev
end
section
set_option maxRecDepth 100000
set_option maxHeartbeats 1000000
/-! K24d: the drawn wish. -/
namespace Ev
theorem cut_drop {α : Type} (xs : List α) {j : Nat} : cut xs (some (j : Int)) none = xs.drop j := by
  have h : ¬ ((j : Int) < 0) := by omega
  simp only [cut, sIx, h, if_false, Int.toNat_natCast]
  by_cases q : j ≤ xs.length
  · rw [Nat.min_eq_left q, List.take_of_length_le (by rw [List.length_drop]; omega)]
  · rw [Nat.min_eq_right (by omega), List.drop_eq_nil_of_le (by omega : xs.length ≤ j)]
    simp
/-- the list turned by a -/
theorem turned (l : List Int) (a : Nat) : cut (l.map D.int) (some (a : Int)) none ++ cut (l.map D.int) none (some (a : Int)) = (l.drop a ++ l.take a).map D.int := by
  rw [cut_drop, cut_take, List.map_append, List.map_drop, List.map_take]
end Ev
end
section
set_option maxRecDepth 100000
set_option maxHeartbeats 1000000
/-! K24e: _law_wish. -/
namespace Ev
section
variable {P : Pg} {s : Sto}
end
end Ev
end
section
set_option maxRecDepth 100000
set_option maxHeartbeats 1000000
/-! Ev16: reckoning from the left: what is still to come has a name and is left alone. -/
namespace Ev
@[simp] theorem okMul_l {i j : Int} (h : (decide (-(2 ^ 64) < i) && decide (i < 2 ^ 64)) = true) : okMul i j = true := by unfold okMul; rw [h, Bool.true_or]
section
variable (P : Pg) (call : CallT)
def kBin2 (o : BOp) (a : Vl) (b : Vl) (c : C) : R Vl := ofO (binD o a.rd b.rd) c
def kBin (o : BOp) (y : E) (a : Vl) (c : C) : R Vl := (evE P call y c).bind (kBin2 o a)
def kNeg (a : Vl) (c : C) : R Vl := match a.rd with
  | .int i => .ok (.d (.int (-i))) c
  | _ => .st
def kCmp2 (o : COp) (a : Vl) (b : Vl) (c : C) : R Vl := ofO ((cmpD o a.rd b.rd).map fun t => .d (.bl t)) c
def kCmp (o : COp) (y : E) (a : Vl) (c : C) : R Vl := (evE P call y c).bind (kCmp2 o a)
def kCh3 (p : COp) (z : E) (b : Vl) (t : Bool) (c : C) : R Vl := if t then (evE P call z c).bind (kCmp2 p b) else .ok (.d (.bl false)) c
def kCh2 (o p : COp) (z : E) (a : Vl) (b : Vl) (c : C) : R Vl := (ofO (cmpD o a.rd b.rd) c).bind (kCh3 P call p z b)
def kCh (o p : COp) (y z : E) (a : Vl) (c : C) : R Vl := (evE P call y c).bind (kCh2 P call o p z a)
def kAnd (y : E) (a : Vl) (c : C) : R Vl := match a.rd with
  | .bl true => evE P call y c
  | .bl false => .ok (.d (.bl false)) c
  | _ => .st
def kOr (y : E) (a : Vl) (c : C) : R Vl := match a.rd with
  | .bl true => .ok (.d (.bl true)) c
  | .bl false => evE P call y c
  | _ => .st
def kNot (a : Vl) (c : C) : R Vl := match a.rd with
  | .bl t => .ok (.d (.bl !t)) c
  | _ => .st
def kIte (x y : E) (b : Bool) (c : C) : R Vl := if b then evE P call x c else evE P call y c
def kIx (y : E) (a : Vl) (c : C) : R Vl := (evE P call y c).bind (doIx a)
def kSl3 (a : Vl) (l : Option Int) (h : Option Int) (c : C) : R Vl := ofO (slD a.rd l h) c
def kSl2 (hi : Option E) (a : Vl) (l : Option Int) (c : C) : R Vl := (evO P call hi c).bind (kSl3 a l)
def kSl (lo hi : Option E) (a : Vl) (c : C) : R Vl := (evO P call lo c).bind (kSl2 P call hi a)
def kRev (a : Vl) (c : C) : R Vl := match a.rd with
  | .lst xs => .ok (.tmp (.lst xs.reverse)) c
  | .tup xs => .ok (.d (.tup xs.reverse)) c
  | _ => .st
def kTup (vs : List Vl) (c : C) : R Vl := .ok (.d (.tup (vs.map Vl.rd))) (frzs vs c)
def kLst (vs : List Vl) (c : C) : R Vl := .ok (.tmp (.lst (vs.map Vl.rd))) (frzs vs c)
def kLc2 (e : E) (t : Tg) (vs : List Nat) (cs : List E) (its : List D) (c : C) : R Vl := doLc t vs (evTs P call cs) (evE P call e) its c
def kLc (e : E) (t : Tg) (vs : List Nat) (w : Wk) (cs : List E) (us : List Vl) (c : C) : R Vl := (ofO (wkD w (us.map Vl.rd)) c).bind (kLc2 P call e t vs cs)
def kEs2 (v : Vl) (vs : List Vl) (c : C) : R (List Vl) := .ok (v :: vs) c
def kEs (es : List E) (v : Vl) (c : C) : R (List Vl) := (evEs P call es c).bind (kEs2 v)
def kO (v : Vl) (c : C) : R (Option Int) := match v.rd with
  | .int i => .ok (some i) c
  | _ => .st
def kTand (y : E) (b : Bool) (c : C) : R Bool := if b then evT P call y c else .ok false c
def kTor (y : E) (b : Bool) (c : C) : R Bool := if b then .ok true c else evT P call y c
def kTnot (b : Bool) (c : C) : R Bool := .ok (!b) c
def kTcmp2 (o : COp) (a : Vl) (b : Vl) (c : C) : R Bool := ofO (cmpD o a.rd b.rd) c
def kTcmp (o : COp) (y : E) (a : Vl) (c : C) : R Bool := (evE P call y c).bind (kTcmp2 o a)
def kTch3 (p : COp) (z : E) (b : Vl) (t : Bool) (c : C) : R Bool := if t then (evE P call z c).bind (kTcmp2 p b) else .ok false c
def kTch2 (o p : COp) (z : E) (a : Vl) (b : Vl) (c : C) : R Bool := (ofO (cmpD o a.rd b.rd) c).bind (kTch3 P call p z b)
def kTch (o p : COp) (y z : E) (a : Vl) (c : C) : R Bool := (evE P call y c).bind (kTch2 P call o p z a)
def kIfe (a b : List S) (q : Bool) (c : C) : R Fl := if q then evSs P call a c else evSs P call b c
def kRet (v : Vl) (c : C) : R Fl := .ok (.rt (v.rv c)) c
def kExp (v : Vl) (c : C) : R Fl := .ok .nx c
def kSeq (r : List S) (f : Fl) (c : C) : R Fl := nxt f c (evSs P call r)
def kSet2 (i : Nat) (v : Vl) (x : E) (c : C) : R Fl := match c.get i with
    | .own (.lst _) => (evE P call x c).bind (doSet i v)
    | _ => .st
def kSet (i : Nat) (x : E) (v : Vl) (c : C) : R Fl := kSet2 P call i v x c
end
section
variable {P : Pg} {call : CallT} {c : C}
@[simp high] theorem deq_ii {i j : Int} : deq (.int i) (.int j) = decide (i = j) := by simp only [deq]; rfl
@[simp high] theorem deq_zz {x y : List Nat} : deq (.str x) (.str y) = decide (x = y) := by simp only [deq]; by_cases h : x = y <;> simp [h]
@[simp high] theorem deq_tt {x y : Bool} : deq (.bl x) (.bl y) = decide (x = y) := by simp only [deq]; rfl
@[simp] theorem shp_i {i : Int} : shp (.int i) = true := rfl
@[simp] theorem shp_s {i : List Nat} : shp (.str i) = true := rfl
@[simp] theorem shp_b {i : Bool} : shp (.bl i) = true := rfl
@[simp] theorem shp_n : shp .non = true := rfl
@[simp high] theorem lv_bin {o : BOp} {x y : E} : evE P call (.bin o x y) c = (evE P call x c).bind (kBin P call o y) := ev_bin
@[simp] theorem kq_bin {o : BOp} {y : E} {a : Vl} : kBin P call o y a c = (evE P call y c).bind (kBin2 o a) := rfl
@[simp] theorem kq_bin2 {o : BOp} {a b : Vl} : kBin2 o a b c = ofO (binD o a.rd b.rd) c := rfl
@[simp high] theorem lv_neg {x : E} : evE P call (.neg x) c = (evE P call x c).bind kNeg := ev_neg
@[simp] theorem kq_neg {a : Vl} : kNeg a c = match a.rd with
  | .int i => .ok (.d (.int (-i))) c
  | _ => .st := rfl
@[simp high] theorem lv_cmp {o : COp} {x y : E} : evE P call (.cmp o x y) c = (evE P call x c).bind (kCmp P call o y) := ev_cmp
@[simp] theorem kq_cmp {o : COp} {y : E} {a : Vl} : kCmp P call o y a c = (evE P call y c).bind (kCmp2 o a) := rfl
@[simp] theorem kq_cmp2 {o : COp} {a b : Vl} : kCmp2 o a b c = ofO ((cmpD o a.rd b.rd).map fun t => .d (.bl t)) c := rfl
@[simp high] theorem lv_chain {o p : COp} {x y z : E} : evE P call (.chain o p x y z) c = (evE P call x c).bind (kCh P call o p y z) := ev_chain
@[simp] theorem kq_ch {o p : COp} {y z : E} {a : Vl} : kCh P call o p y z a c = (evE P call y c).bind (kCh2 P call o p z a) := rfl
@[simp] theorem kq_ch2 {o p : COp} {z : E} {a b : Vl} : kCh2 P call o p z a b c = (ofO (cmpD o a.rd b.rd) c).bind (kCh3 P call p z b) := rfl
@[simp] theorem kq_ch3t {p : COp} {z : E} {b : Vl} : kCh3 P call p z b true c = (evE P call z c).bind (kCmp2 p b) := rfl
@[simp] theorem kq_ch3f {p : COp} {z : E} {b : Vl} : kCh3 P call p z b false c = .ok (.d (.bl false)) c := rfl
@[simp high] theorem lv_and {x y : E} : evE P call (.and x y) c = (evE P call x c).bind (kAnd P call y) := ev_and
@[simp] theorem kq_andt {y : E} : kAnd P call y (.d (.bl true)) c = evE P call y c := rfl
@[simp] theorem kq_andf {y : E} : kAnd P call y (.d (.bl false)) c = .ok (.d (.bl false)) c := rfl
@[simp high] theorem lv_or {x y : E} : evE P call (.or x y) c = (evE P call x c).bind (kOr P call y) := ev_or
@[simp] theorem kq_ort {y : E} : kOr P call y (.d (.bl true)) c = .ok (.d (.bl true)) c := rfl
@[simp] theorem kq_orf {y : E} : kOr P call y (.d (.bl false)) c = evE P call y c := rfl
@[simp high] theorem lv_not {x : E} : evE P call (.not x) c = (evE P call x c).bind kNot := ev_not
@[simp] theorem kq_not {t : Bool} : kNot (.d (.bl t)) c = .ok (.d (.bl !t)) c := rfl
@[simp high] theorem lv_ite {t x y : E} : evE P call (.ite t x y) c = (evT P call t c).bind (kIte P call x y) := ev_ite
@[simp] theorem kq_itet {x y : E} : kIte P call x y true c = evE P call x c := rfl
@[simp] theorem kq_itef {x y : E} : kIte P call x y false c = evE P call y c := rfl
@[simp high] theorem lv_ix {x y : E} : evE P call (.ix x y) c = (evE P call x c).bind (kIx P call y) := ev_ix
@[simp] theorem kq_ix {y : E} {a : Vl} : kIx P call y a c = (evE P call y c).bind (doIx a) := rfl
@[simp high] theorem lv_sl {x : E} {lo hi : Option E} : evE P call (.sl x lo hi) c = (evE P call x c).bind (kSl P call lo hi) := ev_sl
@[simp] theorem kq_sl {lo hi : Option E} {a : Vl} : kSl P call lo hi a c = (evO P call lo c).bind (kSl2 P call hi a) := rfl
@[simp] theorem kq_sl2 {hi : Option E} {a : Vl} {l : Option Int} : kSl2 P call hi a l c = (evO P call hi c).bind (kSl3 a l) := rfl
@[simp] theorem kq_sl3 {a : Vl} {l h : Option Int} : kSl3 a l h c = ofO (slD a.rd l h) c := rfl
@[simp high] theorem lv_rev {x : E} : evE P call (.rev x) c = (evE P call x c).bind kRev := ev_rev
@[simp] theorem kq_rev {a : Vl} : kRev a c = match a.rd with
  | .lst xs => .ok (.tmp (.lst xs.reverse)) c
  | .tup xs => .ok (.d (.tup xs.reverse)) c
  | _ => .st := rfl
@[simp high] theorem lv_tup {xs : List E} : evE P call (.tup xs) c = (evEs P call xs c).bind kTup := ev_tup
@[simp] theorem kq_tup {vs : List Vl} : kTup vs c = .ok (.d (.tup (vs.map Vl.rd))) (frzs vs c) := rfl
@[simp high] theorem lv_lst {xs : List E} : evE P call (.lst xs) c = (evEs P call xs c).bind kLst := ev_lst
@[simp] theorem kq_lst {vs : List Vl} : kLst vs c = .ok (.tmp (.lst (vs.map Vl.rd))) (frzs vs c) := rfl
@[simp] theorem kq_lc {e : E} {t : Tg} {vs : List Nat} {w : Wk} {cs : List E} {us : List Vl} : kLc P call e t vs w cs us c = (ofO (wkD w (us.map Vl.rd)) c).bind (kLc2 P call e t vs cs) := rfl
@[simp] theorem kq_lc2 {e : E} {t : Tg} {vs : List Nat} {cs : List E} {its : List D} : kLc2 P call e t vs cs its c = doLc t vs (evTs P call cs) (evE P call e) its c := rfl
@[simp high] theorem lvs_cons {e : E} {es : List E} : evEs P call (e :: es) c = (evE P call e c).bind (kEs P call es) := evs_cons
@[simp] theorem kq_es {es : List E} {v : Vl} : kEs P call es v c = (evEs P call es c).bind (kEs2 v) := rfl
@[simp] theorem kq_es2 {v : Vl} {vs : List Vl} : kEs2 v vs c = .ok (v :: vs) c := rfl
@[simp high] theorem lvo_some {e : E} : evO P call (some e) c = (evE P call e c).bind kO := evo_some
@[simp] theorem kq_o {v : Vl} : kO v c = match v.rd with
  | .int i => .ok (some i) c
  | _ => .st := rfl
@[simp high] theorem lvt_and {x y : E} : evT P call (.and x y) c = (evT P call x c).bind (kTand P call y) := evt_and
@[simp] theorem kq_tandt {y : E} : kTand P call y true c = evT P call y c := rfl
@[simp] theorem kq_tandf {y : E} : kTand P call y false c = .ok false c := rfl
@[simp high] theorem lvt_or {x y : E} : evT P call (.or x y) c = (evT P call x c).bind (kTor P call y) := evt_or
@[simp] theorem kq_tort {y : E} : kTor P call y true c = .ok true c := rfl
@[simp] theorem kq_torf {y : E} : kTor P call y false c = evT P call y c := rfl
@[simp high] theorem lvt_not {x : E} : evT P call (.not x) c = (evT P call x c).bind kTnot := evt_not
@[simp] theorem kq_tnot {b : Bool} : kTnot b c = .ok (!b) c := rfl
@[simp high] theorem lvt_cmp {o : COp} {x y : E} : evT P call (.cmp o x y) c = (evE P call x c).bind (kTcmp P call o y) := evt_cmp
@[simp] theorem kq_tcmp {o : COp} {y : E} {a : Vl} : kTcmp P call o y a c = (evE P call y c).bind (kTcmp2 o a) := rfl
@[simp] theorem kq_tcmp2 {o : COp} {a b : Vl} : kTcmp2 o a b c = ofO (cmpD o a.rd b.rd) c := rfl
@[simp high] theorem lvt_chain {o p : COp} {x y z : E} : evT P call (.chain o p x y z) c = (evE P call x c).bind (kTch P call o p y z) := evt_chain
@[simp] theorem kq_tch {o p : COp} {y z : E} {a : Vl} : kTch P call o p y z a c = (evE P call y c).bind (kTch2 P call o p z a) := rfl
@[simp] theorem kq_tch2 {o p : COp} {z : E} {a b : Vl} : kTch2 P call o p z a b c = (ofO (cmpD o a.rd b.rd) c).bind (kTch3 P call p z b) := rfl
@[simp] theorem kq_tch3t {p : COp} {z : E} {b : Vl} : kTch3 P call p z b true c = (evE P call z c).bind (kTcmp2 p b) := rfl
@[simp] theorem kq_tch3f {p : COp} {z : E} {b : Vl} : kTch3 P call p z b false c = .ok false c := rfl
@[simp high] theorem lvt_ix {x y : E} : evT P call (.ix x y) c = ((evE P call x c).bind (kIx P call y)).bind asB := evt_ix
@[simp high] theorem ls_ife {t : E} {a b : List S} : evS P call (.ife t a b) c = (evT P call t c).bind (kIfe P call a b) := es_ife
@[simp] theorem kq_ifet {a b : List S} : kIfe P call a b true c = evSs P call a c := rfl
@[simp] theorem kq_ifef {a b : List S} : kIfe P call a b false c = evSs P call b c := rfl
@[simp high] theorem ls_ret {e : E} : evS P call (.ret e) c = (evE P call e c).bind kRet := es_ret
@[simp] theorem kq_ret {v : Vl} : kRet v c = .ok (.rt (v.rv c)) c := rfl
@[simp high] theorem ls_exp {e : E} : evS P call (.exp e) c = (evE P call e c).bind kExp := es_exp
@[simp] theorem kq_exp {v : Vl} : kExp v c = .ok .nx c := rfl
@[simp high] theorem ls_setix {i : Nat} {x y : E} : evS P call (.setix i x y) c = (evE P call y c).bind (kSet P call i x) := es_setix
@[simp] theorem kq_set {i : Nat} {x : E} {v : Vl} : kSet P call i x v c = kSet2 P call i v x c := rfl
@[simp] theorem kq_set2 {i : Nat} {x : E} {v : Vl} : kSet2 P call i v x c = match c.get i with
    | .own (.lst _) => (evE P call x c).bind (doSet i v)
    | _ => .st := rfl
@[simp high] theorem lss_cons {a : S} {r : List S} : evSs P call (a :: r) c = (evS P call a c).bind (kSeq P call r) := ess_cons
@[simp] theorem kq_seq {r : List S} {f : Fl} : kSeq P call r f c = nxt f c (evSs P call r) := rfl
end
end Ev
end
section
set_option maxRecDepth 100000
set_option maxHeartbeats 1000000
/-! Ev17: comparing data; a law's own loop. -/
namespace Ev
mutual
/-- plain data without truth values -/
def nob : D → Bool
  | .non => true
  | .int _ => true
  | .str _ => true
  | .tup xs => nobs xs
  | .lst xs => nobs xs
  | _ => false
def nobs : List D → Bool
  | [] => true
  | x :: xs => nob x && nobs xs
end
mutual
theorem nob_pln : ∀ {x : D}, nob x = true → pln x = true
  | .non, _ => rfl
  | .int _, _ => rfl
  | .str _, _ => rfl
  | .tup xs, h => by simp only [nob] at h; simp only [pln, nobs_pln h]
  | .lst xs, h => by simp only [nob] at h; simp only [pln, nobs_pln h]
  | .bl _, h => by simp [nob] at h
  | .dct _ _, h => by simp [nob] at h
  | .obj _ _, h => by simp [nob] at h
  | .exn _ _, h => by simp [nob] at h
  | .fn _ _, h => by simp [nob] at h
theorem nobs_pln : ∀ {xs : List D}, nobs xs = true → plnA xs = true
  | [], _ => rfl
  | x :: xs, h => by
    simp only [nobs, Bool.and_eq_true] at h
    simp only [plnA, nob_pln h.1, nobs_pln h.2, Bool.and_self]
end
mutual
theorem deq_iff : ∀ {x y : D}, nob x = true → nob y = true → (deq x y = true ↔ x = y)
  | .non, y, _, hy => by cases y <;> simp_all [deq, nob]
  | .int i, y, _, hy => by cases y <;> simp_all [deq, nob]
  | .str i, y, _, hy => by cases y <;> simp_all [deq, nob]
  | .tup xs, y, hx, hy => by
    cases y with
    | tup ys =>
      simp only [nob] at hx hy
      simp only [deq, deqs_iff hx hy, D.tup.injEq]
    | _ => simp_all [deq, nob]
  | .lst xs, y, hx, hy => by
    cases y with
    | lst ys =>
      simp only [nob] at hx hy
      simp only [deq, deqs_iff hx hy, D.lst.injEq]
    | _ => simp_all [deq, nob]
  | .bl _, _, h, _ => by simp [nob] at h
  | .dct _ _, _, h, _ => by simp [nob] at h
  | .obj _ _, _, h, _ => by simp [nob] at h
  | .exn _ _, _, h, _ => by simp [nob] at h
  | .fn _ _, _, h, _ => by simp [nob] at h
theorem deqs_iff : ∀ {xs ys : List D}, nobs xs = true → nobs ys = true → (deqs xs ys = true ↔ xs = ys)
  | [], [], _, _ => by simp [deqs]
  | [], y :: ys, _, _ => by simp [deqs]
  | x :: xs, [], _, _ => by simp [deqs]
  | x :: xs, y :: ys, hx, hy => by
    simp only [nobs, Bool.and_eq_true] at hx hy
    simp only [deqs, Bool.and_eq_true, deq_iff hx.1 hy.1, deqs_iff hx.2 hy.2, List.cons.injEq]
end
mutual
theorem deq_refl : ∀ {x : D}, pln x = true → deq x x = true
  | .non, _ => by simp [deq]
  | .bl _, _ => by simp [deq]
  | .int _, _ => by simp [deq]
  | .str _, _ => by simp [deq]
  | .tup xs, h => by simp only [pln] at h; simp only [deq, deqs_refl h]
  | .lst xs, h => by simp only [pln] at h; simp only [deq, deqs_refl h]
  | .dct _ _, h => by simp [pln] at h
  | .obj _ _, h => by simp [pln] at h
  | .exn _ _, h => by simp [pln] at h
  | .fn _ _, h => by simp [pln] at h
theorem deqs_refl : ∀ {xs : List D}, plnA xs = true → deqs xs xs = true
  | [], _ => by simp [deqs]
  | x :: xs, h => by
    simp only [plnA, Bool.and_eq_true] at h
    simp only [deqs, deq_refl h.1, deqs_refl h.2, Bool.and_self]
end
end Ev
end
section
set_option maxRecDepth 100000
set_option maxHeartbeats 1000000
/-! Ev18: loops that may stop; more rules from the left. -/
namespace Ev
theorem forL_stop {t : Tg} {body : C → R Fl} {v : Rv} (p : D → Bool) (I J : C → Prop) : ∀ (xs : List D), (∀ x ∈ xs, ∀ c, I c → ∃ c1, tgt t x c = some c1 ∧ if p x = true then ∃ c2, body c1 = .ok .nx c2 ∧ I c2 else ∃ c2, body c1 = .ok (.rt v) c2 ∧ J c2) →
    ∀ c, I c → if xs.all p = true then ∃ c', forL t body xs c = .ok .nx c' ∧ I c' else ∃ c', forL t body xs c = .ok (.rt v) c' ∧ J c'
  | [], _, c, hc => by simp only [List.all_nil, if_true]; exact ⟨c, rfl, hc⟩
  | x :: xs, h, c, hc => by
    obtain ⟨c1, e1, hb⟩ := h x List.mem_cons_self c hc
    by_cases hp : p x = true
    · rw [if_pos hp] at hb
      obtain ⟨c2, e2, h2⟩ := hb
      have ih := forL_stop p I J xs (fun y hy => h y (List.mem_cons_of_mem _ hy)) c2 h2
      simp only [List.all_cons, hp, Bool.true_and]
      unfold forL
      rw [e1]
      simp only [e2, bind_ok]
      exact ih
    · rw [if_neg hp] at hb
      obtain ⟨c2, e2, h2⟩ := hb
      have : (x :: xs).all p = false := by simp [hp]
      rw [this]
      simp only [Bool.false_eq_true, if_false]
      refine ⟨c2, ?_, h2⟩
      unfold forL
      rw [e1]
      simp only [e2, bind_ok]
theorem atI_nat {α : Type} {xs : List α} {k : Nat} (h : k < xs.length) : atI xs (k : Int) = xs[k]? := by
  have h2 : ((k : Int) < (xs.length : Int)) := by omega
  simp [atI, ixN, h2]
@[simp] theorem atI_c0 {α : Type} {a0 : α} {r : List α} : atI (a0 :: r) 0 = some a0 := by
  have h := atI_nat (xs := a0 :: r) (k := 0) (by simp only [List.length_cons]; omega)
  exact h
@[simp] theorem atI_c1 {α : Type} {a0 a1 : α} {r : List α} : atI (a0 :: a1 :: r) 1 = some a1 := by
  have h := atI_nat (xs := a0 :: a1 :: r) (k := 1) (by simp only [List.length_cons]; omega)
  exact h
@[simp] theorem atI_c2 {α : Type} {a0 a1 a2 : α} {r : List α} : atI (a0 :: a1 :: a2 :: r) 2 = some a2 := by
  have h := atI_nat (xs := a0 :: a1 :: a2 :: r) (k := 2) (by simp only [List.length_cons]; omega)
  exact h
@[simp] theorem atI_c3 {α : Type} {a0 a1 a2 a3 : α} {r : List α} : atI (a0 :: a1 :: a2 :: a3 :: r) 3 = some a3 := by
  have h := atI_nat (xs := a0 :: a1 :: a2 :: a3 :: r) (k := 3) (by simp only [List.length_cons]; omega)
  exact h
@[simp] theorem atI_c4 {α : Type} {a0 a1 a2 a3 a4 : α} {r : List α} : atI (a0 :: a1 :: a2 :: a3 :: a4 :: r) 4 = some a4 := by
  have h := atI_nat (xs := a0 :: a1 :: a2 :: a3 :: a4 :: r) (k := 4) (by simp only [List.length_cons]; omega)
  exact h
@[simp] theorem atI_c5 {α : Type} {a0 a1 a2 a3 a4 a5 : α} {r : List α} : atI (a0 :: a1 :: a2 :: a3 :: a4 :: a5 :: r) 5 = some a5 := by
  have h := atI_nat (xs := a0 :: a1 :: a2 :: a3 :: a4 :: a5 :: r) (k := 5) (by simp only [List.length_cons]; omega)
  exact h
@[simp] theorem atI_c6 {α : Type} {a0 a1 a2 a3 a4 a5 a6 : α} {r : List α} : atI (a0 :: a1 :: a2 :: a3 :: a4 :: a5 :: a6 :: r) 6 = some a6 := by
  have h := atI_nat (xs := a0 :: a1 :: a2 :: a3 :: a4 :: a5 :: a6 :: r) (k := 6) (by simp only [List.length_cons]; omega)
  exact h
@[simp] theorem wk_s0 {x : List D} : wkD .seq [.tup x] = some x := rfl
@[simp] theorem wk_s1 {x : List D} : wkD .seq [.lst x] = some x := rfl
@[simp] theorem forL_d {t : Tg} {w : Wk} {b : List S} {body : C → R Fl} {x : D} {c : C} {its : List D} (h : wkD w [x] = some its) : doFor t w b body [.d x] c = forL t body its c := by
  simp only [doFor, List.map_cons, List.map_nil, rd_d, h, ofO_some, bind_ok]
  rfl
end Ev
end
section
set_option maxRecDepth 100000
set_option maxHeartbeats 1000000
/-! Ev19: objects, from the left. -/
namespace Ev
section
variable {P : Pg} {call : CallT} {c : C} {s : Sto}
def kMeth (call : CallT) (P : Pg) (g' g : Nat) (xs : List E) (a : Vl) (c : C) : R Vl := if isObj g' a then (evEs P call xs c).bind (doMeth call g a) else .st
@[simp high] theorem lv_meth {g' g : Nat} {x : E} {xs : List E} : evE P call (.meth g' g x xs) c = (evE P call x c).bind (kMeth call P g' g xs) := by (rw [evE.eq_def]) <;> rfl
@[simp] theorem kq_meth {g g2 : Nat} {fs : List D} {xs : List E} : kMeth call P g g2 xs (.d (.obj g fs)) c = (evEs P call xs c).bind (doMeth call g2 (.d (.obj g fs))) := by simp [kMeth, isObj]
@[simp high] theorem lv_new {g : Nat} {xs : List E} : evE P call (.new g xs) c = (evEs P call xs c).bind (doNew g) := by (rw [evE.eq_def]) <;> rfl
@[simp high] theorem lv_fld {g f : Nat} {x : E} : evE P call (.fld x g f) c = (evE P call x c).bind (doFld g f) := by (rw [evE.eq_def]) <;> rfl
@[simp] theorem fld_d {g f : Nat} {ds : List D} : doFld g f (.d (.obj g ds)) c = ofO ((ds[f]?).map Vl.d) c := by simp [doFld]
@[simp] theorem meth_eq {g : Nat} {fs : List D} {vs : List Vl} : doMeth call g (.d (.obj 0 fs)) vs c = noexc (called (.d (.obj 0 fs) :: vs) c (call g (.obj 0 fs :: vs.map Vl.rd) c.sto)) := rfl
@[simp] theorem noexc_ok {α : Type} {a : α} : noexc (.ok a c) = .ok a c := rfl
@[simp] theorem new_eq {vs : List Vl} : doNew 0 vs c = (ofO (newD 0 (vs.map Vl.rd)) c).bind fun ds c => .ok (.d (.obj 0 ds)) (frzs vs c) := rfl
@[simp] theorem new_eq1 {vs : List Vl} : doNew 1 vs c = (ofO (newD 1 (vs.map Vl.rd)) c).bind fun ds c => .ok (.d (.obj 1 ds)) (frzs vs c) := rfl
end
/-! while -/
/-! lists of one's own, from the left -/
@[simp] theorem for_bor {t : Tg} {w : Wk} {b : List S} {body : C → R Fl} {i : Nat} {x : D} {c : C} {its : List D} (h : wkD w [x] = some its) (hk : keepsV [.forr t w [] b] [.bor i x] = true) : doFor t w b body [.bor i x] c = forL t body its c := by
  simp only [doFor, List.map_cons, List.map_nil, rd_bor, h, ofO_some, bind_ok]
  rw [if_pos hk]
end Ev
namespace Ev
theorem ln_lt {n : Nat} (h : n ≤ 15999999) : (n < line) = True := eq_true (Nat.lt_of_le_of_lt h (by unfold line; decide))
theorem cut_to {α : Type} (xs : List α) (j : Nat) : cut xs none (some (j : Int)) = xs.take j := by
  have h : ¬ ((j : Int) < 0) := by omega
  simp only [cut, sIx, h, if_false, Int.toNat_natCast, List.drop_zero, Nat.sub_zero]
  by_cases q : j ≤ xs.length
  · rw [Nat.min_eq_left q]
  · rw [Nat.min_eq_right (by omega), List.take_of_length_le (Nat.le_refl _), List.take_of_length_le (by omega)]
theorem cut_from {α : Type} (xs : List α) (j : Nat) : cut xs (some (j : Int)) none = xs.drop j := by
  have h : ¬ ((j : Int) < 0) := by omega
  simp only [cut, sIx, h, if_false, Int.toNat_natCast]
  by_cases q : j ≤ xs.length
  · rw [Nat.min_eq_left q, List.take_of_length_le (by rw [List.length_drop]; omega)]
  · rw [Nat.min_eq_right (by omega), List.drop_eq_nil_of_le (by omega : xs.length ≤ j)]
    simp
@[simp] theorem sl_lit_t {xs : List D} {lo hi : Option Int} : slD (.tup xs) lo hi = some (.d (.tup (cut xs lo hi))) := rfl
@[simp] theorem sl_lit_l {xs : List D} {lo hi : Option Int} : slD (.lst xs) lo hi = some (.tmp (.lst (cut xs lo hi))) := rfl
end Ev
end
section
set_option maxRecDepth 100000
set_option maxHeartbeats 1000000
/-! K24f: deep drawn wishes. -/
namespace Ev
section
variable {P : Pg} {s : Sto}
end
end Ev
end
section
set_option maxRecDepth 100000
set_option maxHeartbeats 1000000
/-! K24g: _law_wish whole. -/
namespace Ev
section
variable {P : Pg} {s : Sto}
end
end Ev
end
section
set_option maxRecDepth 100000
set_option maxHeartbeats 1000000
/-! K24h: law k24, one turn. -/
namespace Ev
theorem pln_tI (xs : List Int) : pln (tpI xs) = true := pln_ints xs
theorem dep_tI (xs : List Int) : dep (tpI xs) ≤ 1 := by simp [tpI, dep, dep_ints]
theorem dep_two (a b : List Int) : dep (.tup [tpI a, tpI b]) ≤ 2 := by
  have h1 := dep_tI a
  have h2 := dep_tI b
  simp only [dep, depA]
  omega
mutual
theorem rg_pln (t c : D) : ∀ w : Wi, ∀ x ∈ w.rg t c, pln x = true ∧ dep x ≤ 2
  | .word z, x, h => by simp only [Wi.rg, List.mem_singleton] at h; subst h; exact ⟨by simp [rgV, pln, plnA, pln_tI], by simp only [rgV]; exact dep_two _ _⟩
  | .beg z, x, h => by simp only [Wi.rg, List.mem_singleton] at h; subst h; exact ⟨by simp [rgT, pln, plnA, pln_tI], by simp only [rgT]; exact dep_two _ _⟩
  | .non w, x, h => by
    simp only [Wi.rg, List.mem_cons] at h
    rcases h with rfl | h
    · exact ⟨by simp [rgV, pln, plnA, pln_tI], by simp only [rgV]; exact dep_two _ _⟩
    · exact rg_pln t c w x h
  | .par _ ws, x, h => by simp only [Wi.rg] at h; exact rgs_pln t c ws x h
theorem rgs_pln (t c : D) : ∀ ws : List Wi, ∀ x ∈ rgs t c ws, pln x = true ∧ dep x ≤ 2
  | [], x, h => by simp [rgs] at h
  | w :: ws, x, h => by
    simp only [rgs, List.mem_append] at h
    rcases h with h | h
    · exact rg_pln t c w x h
    · exact rgs_pln t c ws x h
end
section
variable {P : Pg} {s : Sto}
end
end Ev
end
section
set_option maxRecDepth 100000
set_option maxHeartbeats 1000000
/-! K23a: what is a wish. -/
namespace Ev
mutual
/-- plain data with short texts -/
def wv : D → Bool
  | .str z => decide (z.length ≤ 1000)
  | .tup xs => wvs xs
  | .lst xs => wvs xs
  | .non => true
  | .bl _ => true
  | .int _ => true
  | _ => false
def wvs : List D → Bool
  | [] => true
  | x :: xs => wv x && wvs xs
end
mutual
theorem wv_pln : ∀ {d : D}, wv d = true → pln d = true
  | .str z, _ => rfl
  | .tup xs, h => by simp only [wv] at h; simp only [pln, wvs_pln h]
  | .lst xs, h => by simp only [wv] at h; simp only [pln, wvs_pln h]
  | .non, _ => rfl
  | .bl _, _ => rfl
  | .int _, _ => rfl
  | .dct _ _, h => by simp [wv] at h
  | .obj _ _, h => by simp [wv] at h
  | .exn _ _, h => by simp [wv] at h
  | .fn _ _, h => by simp [wv] at h
theorem wvs_pln : ∀ {d : List D}, wvs d = true → plnA d = true
  | [], _ => rfl
  | x :: xs, h => by
    simp only [wvs, Bool.and_eq_true] at h
    simp only [plnA, wv_pln h.1, wvs_pln h.2, Bool.and_self]
end
theorem wvs_mem : ∀ {xs : List D}, wvs xs = true → ∀ x ∈ xs, wv x = true
  | [], _, x, h => by cases h
  | y :: xs, hx, x, h => by
    simp only [wvs, Bool.and_eq_true] at hx
    rcases List.mem_cons.mp h with rfl | h
    · exact hx.1
    · exact wvs_mem hx.2 x h
def sAbc : List Nat := [97, 98, 99, 100, 101, 102, 103, 104, 105, 106, 107, 108, 109, 110, 111, 112, 113, 114, 115, 116, 117, 118, 119, 120, 121, 122, 48, 49, 50, 51, 52, 53, 54, 55, 56, 57]
def isWd (z : List Nat) : Bool := !z.isEmpty && z.all fun c => sAbc.contains c
def wdL : D → Bool
  | .str z => isWd z && decide (z.length ≤ 40)
  | _ => false
def kindIs (d : D) (z : List Nat) : Bool := match d with
  | .str y => decide (y = z)
  | _ => false
def tkB (f : D → Bool) : D → Bool
  | .tup ps => decide (2 ≤ ps.length) && decide (ps.length ≤ 6) && ps.all f
  | _ => false
def tk : Nat → D → Bool
  | 0, _ => false
  | n + 1, .tup [a, b] => if kindIs a sNone then tk n b else if kindIs a sAll || kindIs a sAny then tkB (tk n) b else (kindIs a sWord || kindIs a sBegins) && wdL b
  | _ + 1, _ => false
structure Has23 (P : Pg) : Prop where
  f29 : P.fns 29 = some f29
  f30 : P.fns 30 = some f30
  f31 : P.fns 31 = some f31
  f32 : P.fns 32 = some f32
  f33 : P.fns 33 = some f33
  c3 : P.cs 3 = some (.int 40)
  c4 : P.cs 4 = some (.int 6)
  c5 : P.cs 5 = some (.str sAbc)
section
variable {P : Pg} {n : Nat} {s : Sto}
end
end Ev
end
section
set_option maxRecDepth 100000
set_option maxHeartbeats 1000000
/-! Drw: draws lie below 1000. -/
namespace Ev
def rng (l : List Int) : Prop := ∀ x ∈ l, 0 ≤ x ∧ x < 1000
theorem rng_app {l : List Int} {x : Int} (h : rng l) (h0 : 0 ≤ x) (h1 : x < 1000) : rng (l ++ [x]) := fun y hy => by
  rcases List.mem_append.mp hy with hy | hy
  · exact h y hy
  · simp only [List.mem_singleton] at hy; subst hy; exact ⟨h0, h1⟩
section
variable {P : Pg} {s : Sto} {call : CallT}
def dr1 : List S := [.ife (.cmp .gt (.v 3) (.i 0)) [.app 2 (.bin .mod (.blt .int [.v 3]) (.i 1000)), .asg (.nm 3) (.bin .fdiv (.v 3) (.i 1000))] []]
def dr2 : List S := [.asg (.nm 5) (.bin .mod (.blt .int [(.bin .add (.bin .add (.bin .mul (.v 5) (.i 48271)) (.bin .mul (.v 4) (.i 69621))) (.i 7))]) (.i 2147483647)),
    .ife (.cmp .lt (.blt .len [(.v 2)]) (.v 1))
      [.app 2 (.bin .mod (.blt .int [(.bin .mod (.blt .int [(.bin .add (.bin .mul (.v 5) (.i 69621)) (.i 5))]) (.i 2147483629))]) (.i 1000))]
      []]
theorem drs1 {a b st : Sl} : ∀ (m : Nat) (i : Int) (l : List Int) (r : Int) (v : Sl), l.length + m ≤ 1000 → rng l →
    ∃ (l' : List Int) (r' : Int) (v' : Sl), forL (.nm 4) (evSs P call dr1) (rngL i m) ⟨[a, b, .own (lsI l), .dat (.int r), v, st], s⟩ = .ok .nx ⟨[a, b, .own (lsI l'), .dat (.int r'), v', st], s⟩ ∧ l'.length ≤ l.length + m ∧ rng l'
  | 0, i, l, r, v, h, hr => ⟨l, r, v, rfl, Nat.le_refl _, hr⟩
  | m + 1, i, l, r, v, h, hr => by
    simp only [rngL]
    by_cases c : 0 < r
    · obtain ⟨l', r', v', e, h1, h2⟩ := drs1 (a := a) (b := b) (st := st) m (i + 1) (l ++ [r % 1000]) (r / 1000) (.dat (.int i)) (by simp only [List.length_append, List.length_cons, List.length_nil]; omega) (rng_app hr (by omega) (by omega))
      refine ⟨l', r', v', ?_, by simp only [List.length_append, List.length_cons, List.length_nil] at h1; omega, h2⟩
      rw [← e, forL]
      simp (disch := first | omega | (simp; done)) [dr1, c, lsI, doApp, ln_lt]
    · obtain ⟨l', r', v', e, h1, h2⟩ := drs1 (a := a) (b := b) (st := st) m (i + 1) l r (.dat (.int i)) (by omega) hr
      refine ⟨l', r', v', ?_, by omega, h2⟩
      rw [← e, forL]
      simp [dr1, c]
theorem drs2 {a rest : Sl} {k : Nat} (hk : k ≤ 1000) : ∀ (m : Nat) (i : Int) (l : List Int) (z : Int) (v : Sl), l.length ≤ k → rng l →
    ∃ (l' : List Int) (z' : Int) (v' : Sl), forL (.nm 4) (evSs P call dr2) (rngL i m) ⟨[a, .dat (.int k), .own (lsI l), rest, v, .dat (.int z)], s⟩ = .ok .nx ⟨[a, .dat (.int k), .own (lsI l'), rest, v', .dat (.int z')], s⟩ ∧ l'.length ≤ k ∧ (k ≤ l'.length ∨ l.length + m ≤ l'.length) ∧ rng l'
  | 0, i, l, z, v, h, hr => ⟨l, z, v, rfl, h, .inr (Nat.le_refl _), hr⟩
  | m + 1, i, l, z, v, h, hr => by
    simp only [rngL]
    by_cases c : (l.length : Int) < k
    · obtain ⟨l', z', v', e, h1, h2, h3⟩ := drs2 (a := a) (rest := rest) hk m (i + 1) (l ++ [((z * 48271 + i * 69621 + 7) % 2147483647 * 69621 + 5) % 2147483629 % 1000]) ((z * 48271 + i * 69621 + 7) % 2147483647) (.dat (.int i)) (by simp only [List.length_append, List.length_cons, List.length_nil]; omega) (rng_app hr (by omega) (by omega))
      refine ⟨l', z', v', ?_, h1, by simp only [List.length_append, List.length_cons, List.length_nil] at h2; omega, h3⟩
      rw [← e, forL]
      have c' : l.length < k := by omega
      have cl : l.length < line := by rw [ln_lt (by omega)]; trivial
      simp [dr2, c', lsI, doApp, cl, okMul_r]
    · obtain ⟨l', z', v', e, h1, h2, h3⟩ := drs2 (a := a) (rest := rest) hk m (i + 1) l ((z * 48271 + i * 69621 + 7) % 2147483647) (.dat (.int i)) h hr
      refine ⟨l', z', v', ?_, h1, by omega, h3⟩
      rw [← e, forL]
      have c' : ¬ l.length < k := by omega
      simp [dr2, c', lsI, okMul_r]
/-- the draws of a cell: as many as asked for, each below 1000 -/
theorem call0r (h0 : P.fns 0 = some f0) (c : Int) (k : Nat) (hk : k ≤ 1000) {m : Nat} (hm : 1 ≤ m) : ∃ l : List Int, l.length = k ∧ rng l ∧ callN P m 0 [.int c, .int k] s = .ok (.own (lsI l)) s := by
  obtain ⟨n, rfl⟩ : ∃ n, m = n + 1 := ⟨m - 1, by omega⟩
  rw [call_eq h0 rfl]
  have e0 : startL f0.nl [.int c, .int (k : Int)] = [.dat (.int c), .dat (.int k), .no, .no, .no, .no] := rfl
  have eb : f0.body = [.asg (.nm 2) (.lst []), .asg (.nm 3) (.blt .int [(.v 0)]), .ife (.cmp .ge (.v 3) (.bin .pow (.i 10) (.i 18))) [.forr (.nm 4) .rng1 [(.v 1)] dr1] [],
    .asg (.nm 5) (.bin .mod (.blt .int [(.bin .add (.bin .mul (.blt .int [(.v 0)]) (.i 48271)) (.i 11))]) (.i 2147483647)), .forr (.nm 4) .rng1 [(.v 1)] dr2, .ret (.v 2)] := rfl
  have hi := in62_small (i := (k : Int)) (by omega) (by omega)
  have hw : wkD .rng1 [.int (k : Int)] = some (rngL 0 k) := by simp [wkD, hi]
  have fin : ∀ (l : List Int) (r : Int) (v : Sl), l.length ≤ k → rng l → ∃ l' : List Int, l'.length = k ∧ rng l' ∧ endR (evSs P (callN P n) [.asg (.nm 5) (.bin .mod (.blt .int [(.bin .add (.bin .mul (.blt .int [(.v 0)]) (.i 48271)) (.i 11))]) (.i 2147483647)), .forr (.nm 4) .rng1 [(.v 1)] dr2, .ret (.v 2)] ⟨[.dat (.int c), .dat (.int k), .own (lsI l), .dat (.int r), v, .no], s⟩) = .ok (.own (lsI l')) s := fun l r v hl hr => by
    obtain ⟨l', z', v', e, h1, h2, h3⟩ := drs2 (P := P) (s := s) (call := callN P n) (a := .dat (.int c)) (rest := .dat (.int r)) hk k 0 l ((c * 48271 + 11) % 2147483647) v hl hr
    refine ⟨l', by omega, h3, ?_⟩
    simp [forL_d hw, e, okMul_r]
  rw [e0, eb, step (c' := ⟨[.dat (.int c), .dat (.int k), .own (lsI []), .no, .no, .no], s⟩) (by simp [lsI]), step (c' := ⟨[.dat (.int c), .dat (.int k), .own (lsI []), .dat (.int c), .no, .no], s⟩) (by simp)]
  by_cases q : c < 1000000000000000000
  · obtain ⟨l', h1, h2, h3⟩ := fin [] c .no (Nat.zero_le _) (fun x hx => by cases hx)
    refine ⟨l', h1, h2, ?_⟩
    rw [step (c' := ⟨[.dat (.int c), .dat (.int k), .own (lsI []), .dat (.int c), .no, .no], s⟩) (by simp [q])]
    exact h3
  · obtain ⟨l1, r1, v1, e1, hl1, hr1⟩ := drs1 (P := P) (s := s) (call := callN P n) (a := .dat (.int c)) (b := .dat (.int k)) (st := .no) k 0 [] c .no (by simp only [List.length_nil]; omega) (fun x hx => by cases hx)
    obtain ⟨l', h1, h2, h3⟩ := fin l1 r1 v1 (by simpa using hl1) hr1
    refine ⟨l', h1, h2, ?_⟩
    rw [step (c' := ⟨[.dat (.int c), .dat (.int k), .own (lsI l1), .dat (.int r1), v1, .no], s⟩) (by simp [q, forL_d hw, e1])]
    exact h3
end
end Ev
end
section
set_option maxRecDepth 100000
set_option maxHeartbeats 1000000
/-! Ky1: kinds of values; what is a key. -/
namespace Ev
def isNum (most : Int) : D → Bool
  | .int v => decide (0 ≤ v) && decide (v ≤ most)
  | _ => false
def okSign (c : Nat) : Bool := decide (32 ≤ c) && decide (c ≤ 126)
def isTxt : D → Bool
  | .str z => decide (z.length ≤ 40) && z.all okSign
  | _ => false
def isVal (d : D) : Bool := isNum 999999 d || isTxt d
def kindD (d : D) : D := if isNum 999999 d then .str [110, 117, 109, 98, 101, 114] else if isTxt d then .str [116, 101, 120, 116] else .non
def isKeyB : D → Bool
  | .tup xs => decide (1 ≤ xs.length) && decide (xs.length ≤ 12) && xs.all isVal
  | _ => false
structure HasK (P : Pg) : Prop where
  p10 : P.fns 10 = some f10
  p11 : P.fns 11 = some f11
  p12 : P.fns 12 = some f12
  p13 : P.fns 13 = some f13
  c1 : P.cs 1 = some (.int 12)
  c2 : P.cs 2 = some (.int 999999)
  c3 : P.cs 3 = some (.int 40)
section
variable {P : Pg} {s : Sto}
theorem call10 (H : HasK P) {d : D} (hd : wv d = true) (k : Int) {m : Nat} (hm : 1 ≤ m) : callN P m 10 [d, .int k] s = .ok (.d (.bl (isNum k d))) s := by
  obtain ⟨n, rfl⟩ : ∃ n, m = n + 1 := ⟨m - 1, by omega⟩
  rw [call_eq H.p10 rfl]
  cases d <;> first | (simp [wv] at hd; done) | skip
  case int v =>
    by_cases q : v < 0
    · simp [f10, b10, startL, isNum, q]
      intro h; omega
    · have q' : 0 ≤ v := by omega
      by_cases q2 : k < v
      · have q3 : ¬ v ≤ k := by omega
        simp [f10, b10, startL, isNum, q, q', q2, q3]
      · have q3 : v ≤ k := by omega
        simp [f10, b10, startL, isNum, q, q', q2, q3]
  all_goals simp [f10, b10, startL, isNum]
theorem sign_le1 {c : Nat} : cmpD .le (.str [32]) (.str [c]) = some (decide (32 ≤ c)) := by
  have : cmpD .le (.str [32]) (.str [c]) = some (!strLt [c] [32]) := rfl
  rw [this]
  simp only [strLt]
  by_cases h : c = 32
  · subst h; rfl
  · simp only [h, if_false, Option.some.injEq]
    by_cases h2 : c < 32
    · have : ¬ 32 ≤ c := by omega
      simp [h2, this]
    · have : 32 ≤ c := by omega
      simp [h2, this]
theorem sign_le2 {c : Nat} : cmpD .le (.str [c]) (.str [126]) = some (decide (c ≤ 126)) := by
  have : cmpD .le (.str [c]) (.str [126]) = some (!strLt [126] [c]) := rfl
  rw [this]
  simp only [strLt]
  by_cases h : 126 = c
  · subst h; rfl
  · simp only [h, if_false, Option.some.injEq]
    by_cases h2 : 126 < c
    · have : ¬ c ≤ 126 := by omega
      simp [h2, this]
    · have : c ≤ 126 := by omega
      simp [h2, this]
theorem bools_map {α : Type} (f : α → Bool) : ∀ z : List α, bools? (z.map fun c => D.bl (f c)) = some (z.map f)
  | [] => rfl
  | c :: z => by simp [bools?, bools_map f z]
theorem call11 (H : HasK P) {d : D} (hd : wv d = true) {m : Nat} (hm : 1 ≤ m) : callN P m 11 [d] s = .ok (.d (.bl (isTxt d))) s := by
  obtain ⟨n, rfl⟩ : ∃ n, m = n + 1 := ⟨m - 1, by omega⟩
  rw [call_eq H.p11 rfl]
  cases d <;> first | (simp [wv] at hd; done) | skip
  case str z =>
    simp only [wv, decide_eq_true_eq] at hd
    have hl : z.length ≤ line := line_big (by omega)
    have lc : evE P (callN P n) (.lc (.chain .le .le (.s [32]) (.v 1) (.s [126])) (.nm 1) [1] .seq [(.v 0)] []) ⟨[.dat (.str z), .no], s⟩ = .ok (.tmp (.lst (z.map fun c => .bl (okSign c)))) ⟨[.dat (.str z), .no], s⟩ := by
      simp only [ev_lc, evs_cons, evs_nil, ev_v, get_mk, getS_zero, bind_ok, List.map_cons, List.map_nil, rd_d, wk_s, if_pos hl, ofO_some]
      rw [doLc_map (fun x => match x with
        | .str [c] => .bl (okSign c)
        | _ => .non) (by simpa using hl) (by simp [isOwn]) ?_]
      · simp [Function.comp_def]
      · intro x hx
        obtain ⟨c, hc, rfl⟩ := List.mem_map.mp hx
        have a1 := sign_le1 (c := c)
        have a2 := sign_le2 (c := c)
        by_cases q : 32 ≤ c
        · simp only [q, decide_true] at a1
          simp only [lcF, noex, tgt_nm, wipe_cons, wipe_nil, set_mk, setS_succ, setS_zero, evts_nil, bind_ok, if_true, lv_chain, ev_s, ev_v, get_mk, getS_zero, getS_succ, kq_ch, kq_ch2, rd_d, a1, ofO_some, kq_ch3t, kq_cmp2, a2, Option.map_some, frz_d]
          simp [okSign, q]
        · simp only [q, decide_false] at a1
          simp only [lcF, noex, tgt_nm, wipe_cons, wipe_nil, set_mk, setS_succ, setS_zero, evts_nil, bind_ok, if_true, lv_chain, ev_s, ev_v, get_mk, getS_zero, getS_succ, kq_ch, kq_ch2, rd_d, a1, ofO_some, kq_ch3f, frz_d]
          simp [okSign, q]
    have bm := bools_map okSign z
    have al : (z.map okSign).all id = z.all okSign := by rw [List.all_map]; rfl
    by_cases q : (40 : Int) < z.length
    · have q2 : ¬ z.length ≤ 40 := by omega
      simp [f11, b11, startL, isTxt, H.c3, hl, q, q2]
    · have q2 : z.length ≤ 40 := by omega
      have ev : isTxt (.str z) = z.all okSign := by simp [isTxt, q2]
      rw [ev, ← al]
      generalize z.map okSign = bs at *
      generalize (z.map fun c => D.bl (okSign c)) = ds at *
      simp [f11, b11, startL, H.c3, hl, q, lc, bm]
  all_goals simp [f11, b11, startL, isTxt]
theorem call12 (H : HasK P) {d : D} (hd : wv d = true) {m : Nat} (hm : 2 ≤ m) : callN P m 12 [d] s = .ok (.d (kindD d)) s := by
  obtain ⟨n, rfl⟩ : ∃ n, m = n + 1 := ⟨m - 1, by omega⟩
  rw [call_eq H.p12 rfl]
  have e1 := call10 (s := s) H hd 999999 (m := n) (by omega)
  have e2 := call11 (s := s) H hd (m := n) (by omega)
  have fr : ∀ b, (Rv.d (.bl b)).free = true := fun _ => rfl
  unfold kindD
  cases q : isNum 999999 d with
  | true => rw [q] at e1; simp [f12, b12, startL, H.c2, e1, fr]
  | false =>
    rw [q] at e1
    cases q2 : isTxt d with
    | true => rw [q2] at e2; simp [f12, b12, startL, H.c2, e1, e2, fr]
    | false => rw [q2] at e2; simp [f12, b12, startL, H.c2, e1, e2, fr]
theorem kind_is (d : D) : isD (kindD d) .non = some (!isVal d) := by
  unfold kindD isVal
  cases isNum 999999 d
  · cases isTxt d <;> rfl
  · rfl
theorem kind_flat (d : D) : (Rv.d (kindD d)).free = true := by
  unfold kindD
  split
  · rfl
  · split <;> rfl
theorem call13 (H : HasK P) {d : D} (hd : wv d = true) {m : Nat} (hm : 3 ≤ m) : callN P m 13 [d] s = .ok (.d (.bl (isKeyB d))) s := by
  obtain ⟨n, rfl⟩ : ∃ n, m = n + 1 := ⟨m - 1, by omega⟩
  rw [call_eq H.p13 rfl]
  cases d <;> first | (simp [wv] at hd; done) | skip
  case tup xs =>
    have hx : wvs xs = true := by simpa [wv] using hd
    have b0 : f13.body = [.ife (.or (.not (.isi (.v 0) .tup)) (.not (.chain .le .le (.i 1) (.blt .len [(.v 0)]) (.k 1)))) [.ret (.b false)] [], .forr (.nm 1) .seq [(.v 0)] [.ife (.cmp .is (.call 12 [(.v 1)]) .n) [.ret (.b false)] []], .ret (.b true)] := rfl
    have f0 : startL f13.nl [.tup xs] = [.dat (.tup xs), .no] := rfl
    rw [f0, b0]
    by_cases q : (xs.length : Int) < 1
    · have q2 : ¬ 1 ≤ xs.length := by omega
      simp [isKeyB, q, q2]
    · by_cases q3 : (12 : Int) < xs.length
      · have q4 : ¬ xs.length ≤ 12 := by omega
        simp [isKeyB, q, q3, q4, H.c1]
      · have q2 : 1 ≤ xs.length := by omega
        have q4 : xs.length ≤ 12 := by omega
        have key := forL_stop (t := .nm 1) (v := .d (.bl false)) (body := evSs P (callN P n) [.ife (.cmp .is (.call 12 [(.v 1)]) .n) [.ret (.b false)] []]) isVal (fun c => ∃ w, c = ⟨[.dat (.tup xs), w], s⟩) (fun c => ∃ w, c = ⟨[.dat (.tup xs), w], s⟩) xs (by
          rintro x hxm c ⟨w, rfl⟩
          have e := call12 (s := s) H (wvs_mem hx x hxm) (m := n) (by omega)
          have fr := kind_flat x
          have ki := kind_is x
          refine ⟨_, rfl, ?_⟩
          cases hv : isVal x with
          | true =>
            rw [hv] at ki
            generalize kindD x = kd at *
            exact ⟨⟨[.dat (.tup xs), .dat x], s⟩, by simp [e, fr, ki], _, rfl⟩
          | false =>
            rw [hv] at ki
            generalize kindD x = kd at *
            exact ⟨⟨[.dat (.tup xs), .dat x], s⟩, by simp [e, fr, ki], _, rfl⟩) ⟨[.dat (.tup xs), .no], s⟩ ⟨_, rfl⟩
        have ev : isKeyB (.tup xs) = xs.all isVal := by simp [isKeyB, q2, q4]
        rw [ev]
        have st : ∀ c, c = (⟨[.dat (.tup xs), .no], s⟩ : C) → evS P (callN P n) (.ife (.or (.not (.isi (.v 0) .tup)) (.not (.chain .le .le (.i 1) (.blt .len [(.v 0)]) (.k 1)))) [.ret (.b false)] []) c = .ok .nx c := fun c hc => by
          subst hc; simp [q, q3, H.c1]
        rw [step (st _ rfl)]
        cases hall : xs.all isVal with
        | true =>
          rw [hall, if_pos rfl] at key
          obtain ⟨c', e, w, rfl⟩ := key
          simp [e]
        | false =>
          rw [hall, if_neg (by simp)] at key
          obtain ⟨c', e, w, rfl⟩ := key
          simp [e]
  all_goals simp [f13, b13, startL, isKeyB]
end
end Ev
end
section
set_option maxRecDepth 100000
/-! the clean functions -/
namespace Ev
def l115_0 : List S :=
   [.asg (.nm 3) (.bin .add (.bin .add (.v 3) (.ix (.v 1) (.bin .mod (.blt .int [(.ix (.v 0) (.bin .add (.i 2) (.v 4)))]) (.i 12)))) (.ix (.v 2) (.bin .mod (.bin .fdiv (.blt .int [(.ix (.v 0) (.bin .add (.i 2) (.v 4)))]) (.i 12)) (.i 13))))]
/-- _law_text; 0 _law_draws_here, 1 _law_words_here, 2 _law_marks, 3 _law_text_here, 4 _law_k -/
def b115 : List S :=
   [.asg (.nm 1) (.lst [(.s [111, 108, 100]), (.s [109, 105, 108, 108]), (.s [79, 108, 100]), (.s [116, 101]), (.s [116, 101, 97]), (.s [116, 101, 97, 108]), (.s [120, 49]), (.s [49]), (.s [110, 101, 119]), (.s [77, 105, 108, 108]), (.s [97]), (.s [119, 101, 105, 114])]),
    .asg (.nm 2) (.lst [(.s [32]), (.s [45]), (.s [44, 32]), (.s [46]), (.s [32, 32]), (.s []), (.s [39]), (.s [95]), (.s [47]), (.s [58]), (.s [64]), (.s [91]), (.s [123])]),
    .asg (.nm 3) (.ite (.cmp .eq (.bin .mod (.blt .int [(.ix (.v 0) (.i 0))]) (.i 3)) (.i 0)) (.ix (.v 2) (.bin .mod (.blt .int [(.ix (.v 0) (.i 0))]) (.i 13))) (.s [])),
    .forr (.nm 4) .rng1 [(.bin .mod (.blt .int [(.ix (.v 0) (.i 1))]) (.i 5))]
    l115_0,
    .ret (.sl (.v 3) none (some (.i 40)))]
def f115 : Fn := ⟨1, 5, b115⟩
def l116_0 : List S :=
   [.asg (.nm 4) (.call 901 [(.v 3)]),
    .ife (.cmp .ne (.v 4) (.s []))
      [.asg (.nm 2) (.bin .add (.v 2) (.v 4))]
      [.ife (.cmp .ne (.v 2) (.s []))
        [.app 1 (.v 2),
        .asg (.nm 2) (.s [])]
        []]]
/-- all_words; 0 text, 1 found, 2 word, 3 sign, 4 letter -/
def b116 : List S :=
   [.asg (.nm 1) (.lst []),
    .asg (.nm 2) (.s []),
    .forr (.nm 3) .seq [(.bin .add (.v 0) (.s [32]))]
    l116_0,
    .ret (.v 1)]
def f116 : Fn := ⟨1, 5, b116⟩
def l117_0 : List S :=
   [.ife (.cmp .nin (.v 2) (.v 1))
      [.app 1 (.v 2)]
      []]
/-- words_of; 0 text, 1 found, 2 word -/
def b117 : List S :=
   [.asg (.nm 1) (.lst []),
    .forr (.nm 2) .seq [(.call 116 [(.v 0)])]
    l117_0,
    .ret (.blt .tuple [(.v 1)])]
def f117 : Fn := ⟨1, 3, b117⟩
def l118_0 : List S :=
   [.ife (.not (.call 29 [(.v 5)]))
        [.ret (.b false)]
        []]
def l118_1 : List S :=
   [.asg (.nm 2) (.call 115 [(.call 0 [(.v 1), (.i 7)])]),
    .asg (.nm 3) (.call 900 [(.v 2)]),
    .asg (.nm 4) (.lc (.v 5) (.tp [6, 5]) [6, 5] .enum [(.v 3)] [(.cmp .nin (.v 5) (.sl (.v 3) none (some (.v 6))))]),
    .ife (.or (.cmp .ne (.call 116 [(.v 2)]) (.v 3)) (.cmp .ne (.call 117 [(.v 2)]) (.blt .tuple [(.v 4)])))
      [.ret (.b false)]
      [],
    .forr (.nm 5) .seq [(.v 3)]
      l118_0,
    .ife (.or (.cmp .ne (.call 29 [(.v 2)]) (.cmp .eq (.v 3) (.lst [(.v 2)]))) (.or (.call 29 [(.i 7)]) (.call 29 [(.tup [])])))
      [.ret (.b false)]
      [],
    .ife (.and (.cmp .lt (.blt .len [(.v 2)]) (.i 20)) (.cmp .ne (.call 117 [(.bin .add (.bin .add (.v 2) (.s [32])) (.v 2))]) (.blt .tuple [(.v 4)])))
      [.ret (.b false)]
      []]
/-- law; 0 _law_script, 1 _law_cell, 2 _law_text_here, 3 _law_words_here, 4 _law_once, 5 _law_word, 6 _law_k -/
def b118 : List S :=
   [.forr (.nm 1) .seq [(.v 0)]
    l118_1,
    .ret (.b true)]
def f118 : Fn := ⟨1, 7, b118⟩
def l119_0 : List S :=
   [.asg (.nm 3) (.bin .add (.bin .add (.v 3) (.ix (.v 1) (.bin .mod (.blt .int [(.ix (.v 0) (.bin .add (.i 2) (.v 4)))]) (.i 12)))) (.ix (.v 2) (.bin .mod (.bin .fdiv (.blt .int [(.ix (.v 0) (.bin .add (.i 2) (.v 4)))]) (.i 12)) (.i 8))))]
/-- _law_text; 0 _law_draws_here, 1 _law_words_here, 2 _law_marks, 3 _law_text_here, 4 _law_k -/
def b119 : List S :=
   [.asg (.nm 1) (.lst [(.s [111, 108, 100]), (.s [109, 105, 108, 108]), (.s [79, 108, 100]), (.s [116, 101]), (.s [116, 101, 97]), (.s [116, 101, 97, 108]), (.s [120, 49]), (.s [49]), (.s [110, 101, 119]), (.s [77, 105, 108, 108]), (.s [97]), (.s [119, 101, 105, 114])]),
    .asg (.nm 2) (.lst [(.s [32]), (.s [45]), (.s [44, 32]), (.s [46]), (.s [32, 32]), (.s []), (.s [39]), (.s [95])]),
    .asg (.nm 3) (.ite (.cmp .eq (.bin .mod (.blt .int [(.ix (.v 0) (.i 0))]) (.i 3)) (.i 0)) (.ix (.v 2) (.bin .mod (.blt .int [(.ix (.v 0) (.i 0))]) (.i 8))) (.s [])),
    .forr (.nm 4) .rng1 [(.bin .mod (.blt .int [(.ix (.v 0) (.i 1))]) (.i 5))]
    l119_0,
    .ret (.sl (.v 3) none (some (.i 40)))]
def f119 : Fn := ⟨1, 5, b119⟩
/-- words_fulfil; 0 words, 1 wish, 2 kind, 3 inner, 4 word, 5 told, 6 part -/
def b120 : List S :=
   [.asg (.tp [2, 3]) (.v 1),
    .ife (.cmp .eq (.v 2) (.s [119, 111, 114, 100]))
    [.ret (.cmp .isin (.v 3) (.v 0))]
    [],
    .ife (.cmp .eq (.v 2) (.s [98, 101, 103, 105, 110, 115]))
    [.ret (.blt .any [(.lc (.cmp .eq (.sl (.v 4) none (some (.blt .len [(.v 3)]))) (.v 3)) (.nm 4) [4] .seq [(.v 0)] [])])]
    [],
    .ife (.cmp .eq (.v 2) (.s [110, 111, 110, 101]))
    [.ret (.not (.call 120 [(.v 0), (.v 3)]))]
    [],
    .asg (.nm 5) (.lc (.call 120 [(.v 0), (.v 6)]) (.nm 6) [6] .seq [(.v 3)] []),
    .ret (.ite (.cmp .eq (.v 2) (.s [97, 108, 108])) (.blt .all [(.v 5)]) (.blt .any [(.v 5)]))]
def f120 : Fn := ⟨2, 7, b120⟩
/-- fulfils; 0 text, 1 wish -/
def b121 : List S :=
   [.ret (.call 120 [(.call 117 [(.v 0)]), (.v 1)])]
def f121 : Fn := ⟨2, 2, b121⟩
/-- _law_fulfils; 0 _law_text_here, 1 _law_wish_here, 2 _law_kind, 3 _law_inner, 4 _law_word, 5 _law_told, 6 _law_part -/
def b122 : List S :=
   [.asg (.tp [2, 3]) (.v 1),
    .ife (.cmp .eq (.v 2) (.s [119, 111, 114, 100]))
    [.ret (.cmp .isin (.v 3) (.call 900 [(.v 0)]))]
    [],
    .ife (.cmp .eq (.v 2) (.s [98, 101, 103, 105, 110, 115]))
    [.ret (.cmp .isin (.v 3) (.lc (.sl (.v 4) none (some (.blt .len [(.v 3)]))) (.nm 4) [4] .seq [(.call 900 [(.v 0)])] []))]
    [],
    .ife (.cmp .eq (.v 2) (.s [110, 111, 110, 101]))
    [.ret (.not (.call 122 [(.v 0), (.v 3)]))]
    [],
    .asg (.nm 5) (.lc (.v 6) (.nm 6) [6] .seq [(.v 3)] [(.call 122 [(.v 0), (.v 6)])]),
    .ret (.ite (.cmp .eq (.v 2) (.s [97, 108, 108])) (.cmp .eq (.blt .len [(.v 5)]) (.blt .len [(.v 3)])) (.cmp .gt (.blt .len [(.v 5)]) (.i 0)))]
def f122 : Fn := ⟨2, 7, b122⟩
def l123_0 : List S :=
   [.ife (.or (.cmp .ne (.call 121 [(.v 5), (.v 4)]) (.call 122 [(.v 5), (.v 4)])) (.cmp .eq (.call 121 [(.v 5), (.tup [(.s [110, 111, 110, 101]), (.v 4)])]) (.call 121 [(.v 5), (.v 4)])))
        [.ret (.b false)]
        []]
def l123_1 : List S :=
   [.asg (.nm 4) (.call 28 [(.call 0 [(.v 2), (.i 24)]), (.i 3)]),
    .ife (.not (.call 32 [(.v 4)]))
      [.ret (.b false)]
      [],
    .forr (.nm 5) .seq [(.sl (.v 1) (some (.blt .max [(.i 0), (.bin .sub (.v 3) (.i 3))])) (some (.bin .add (.v 3) (.i 1))))]
      l123_0]
/-- law; 0 _law_script, 1 _law_texts, 2 _law_cell, 3 _law_k, 4 _law_wish_here, 5 _law_text_here -/
def b123 : List S :=
   [.asg (.nm 1) (.lc (.call 119 [(.call 0 [(.v 2), (.i 7)])]) (.nm 2) [2] .seq [(.v 0)] []),
    .forr (.tp [3, 2]) .enum [(.v 0)]
    l123_1,
    .ret (.b true)]
def f123 : Fn := ⟨1, 6, b123⟩
end Ev
end
section
set_option maxRecDepth 100000
/-! the clean functions -/
namespace Ev
def l124_0 : List S :=
   [.ife (.not (.call 124 [(.ix (.v 0) (.v 2)), (.ix (.v 1) (.v 2))]))
      [.ret (.b false)]
      []]
/-- _law_same; 0 _law_told, 1 _law_due, 2 _law_k -/
def b124 : List S :=
   [.ife (.cmp .is (.v 1) .n)
    [.ret (.cmp .is (.v 0) .n)]
    [],
    .ife (.cmp .is (.v 1) (.b true))
    [.ret (.cmp .is (.v 0) (.b true))]
    [],
    .ife (.cmp .is (.v 1) (.b false))
    [.ret (.cmp .is (.v 0) (.b false))]
    [],
    .ife (.isi (.v 1) .int)
    [.ret (.and (.isi (.v 0) .int) (.and (.not (.isi (.v 0) .bool)) (.cmp .eq (.v 0) (.v 1))))]
    [],
    .ife (.isi (.v 1) .str)
    [.ret (.and (.isi (.v 0) .str) (.cmp .eq (.v 0) (.v 1)))]
    [],
    .ife (.and (.isi (.v 1) .tup) (.not (.isi (.v 0) .tup)))
    [.ret (.b false)]
    [],
    .ife (.and (.isi (.v 1) .lst) (.not (.isi (.v 0) .lst)))
    [.ret (.b false)]
    [],
    .ife (.cmp .ne (.blt .len [(.v 0)]) (.blt .len [(.v 1)]))
    [.ret (.b false)]
    [],
    .forr (.nm 2) .rng1 [(.blt .len [(.v 1)])]
    l124_0,
    .ret (.b true)]
def f124 : Fn := ⟨2, 3, b124⟩
/-- _law_points;  -/
def b125 : List S :=
   [.ret (.lst [(.i 0), (.i 1), (.i 2), (.i 3), (.i 4), (.i 7), (.i 9998), (.i 9999), (.i 10000)])]
def f125 : Fn := ⟨0, 0, b125⟩
/-- _law_set; 0 _law_cell, 1 _law_draws_here, 2 _law_n -/
def b126 : List S :=
   [.asg (.nm 1) (.call 0 [(.v 0), (.i 9)]),
    .ret (.lc (.cmp .eq (.bin .mod (.blt .int [(.v 2)]) (.i 2)) (.i 1)) (.nm 2) [2] .seq [(.sl (.v 1) none (some (.i 8)))] [])]
def f126 : Fn := ⟨1, 3, b126⟩
def l127_0 : List S :=
   [.ife (.ix (.v 0) (.v 3))
      [.ife (.and (.cmp .gt (.v 3) (.i 0)) (.ix (.v 0) (.bin .sub (.v 3) (.i 1))))
        [.setix 2 (.neg (.i 1)) (.tup [(.ix (.ix (.v 2) (.neg (.i 1))) (.i 0)), (.ix (.v 1) (.bin .add (.v 3) (.i 1)))])]
        [.app 2 (.tup [(.ix (.v 1) (.v 3)), (.ix (.v 1) (.bin .add (.v 3) (.i 1)))])]]
      []]
/-- _law_spans; 0 _law_told, 1 _law_points_here, 2 _law_spans_here, 3 _law_k -/
def b127 : List S :=
   [.asg (.nm 1) (.call 125 []),
    .asg (.nm 2) (.lst []),
    .forr (.nm 3) .rng1 [(.i 8)]
    l127_0,
    .ret (.blt .tuple [(.v 2)])]
def f127 : Fn := ⟨1, 4, b127⟩
/-- pieces; 0 points, 1 k -/
def b128 : List S :=
   [.ret (.lc (.tup [(.ix (.v 0) (.v 1)), (.ix (.v 0) (.bin .add (.v 1) (.i 1)))]) (.nm 1) [1] .rng1 [(.bin .sub (.blt .len [(.v 0)]) (.i 1))] [])]
def f128 : Fn := ⟨1, 2, b128⟩
def l129_0 : List S :=
   [.ife (.and (.v 1) (.cmp .eq (.ix (.ix (.v 1) (.neg (.i 1))) (.i 1)) (.v 2)))
      [.setix 1 (.neg (.i 1)) (.tup [(.ix (.ix (.v 1) (.neg (.i 1))) (.i 0)), (.v 3)])]
      [.app 1 (.tup [(.v 2), (.v 3)])]]
/-- joined; 0 pairs, 1 spans, 2 start, 3 stop -/
def b129 : List S :=
   [.asg (.nm 1) (.lst []),
    .forr (.tp [2, 3]) .seq [(.v 0)]
    l129_0,
    .ret (.blt .tuple [(.v 1)])]
def f129 : Fn := ⟨1, 4, b129⟩
def l130_0 : List S :=
   [.asg (.nm 9) (.bin .add (.v 9) (.lst [(.ix (.v 10) (.i 0)), (.ix (.v 10) (.i 1))]))]
def l130_1 : List S :=
   [.asg (.nm 5) (.call 126 [(.v 4)]),
    .asg (.nm 6) (.call 127 [(.v 5)]),
    .asg (.nm 7) (.call 127 [(.call 126 [(.bin .add (.blt .int [(.v 4)]) (.i 1))])]),
    .asg (.nm 8) (.lst [(.bin .add (.v 6) (.tup [(.tup [(.i 3), (.i 3)])])), (.bin .add (.v 6) (.tup [(.tup [(.neg (.i 1)), (.i 5)])])), (.bin .add (.v 6) (.tup [(.tup [(.i 5), (.i 10001)])])), (.bin .add (.v 6) (.tup [(.lst [(.i 9999), (.i 10000)])])), (.bin .add (.v 6) (.tup [(.tup [(.i 4), (.i 2)])]))]),
    .asg (.nm 8) (.bin .add (.v 8) (.lst [(.blt .list [(.v 6)]), (.bin .add (.v 6) (.tup [(.tup [(.b true), (.i 7)])])), (.bin .add (.v 6) (.tup [(.tup [(.i 1), (.i 2), (.i 3)])])), (.bin .add (.tup [(.i 5)]) (.v 6)), (.bin .add (.v 6) (.tup [(.tup [(.i 0), (.i 1)]), (.tup [(.i 1), (.i 2)])])), .n])),
    .asg (.nm 8) (.bin .add (.v 8) (.lst [(.tup [(.tup [(.i 0), (.i 5)]), (.tup [(.i 3), (.i 7)])]), (.tup [(.tup [(.i 5), (.i 9)]), (.tup [(.i 0), (.i 2)])]), (.tup [(.tup [(.i 0), (.i 5)]), (.tup [(.i 5), (.i 7)])])])),
    .ife (.and (.cmp .ne (.v 6) (.tup [])) (.cmp .lt (.ix (.ix (.v 6) (.neg (.i 1))) (.i 1)) (.i 10000)))
      [.app 8 (.bin .add (.v 6) (.tup [(.tup [(.ix (.ix (.v 6) (.neg (.i 1))) (.i 1)), (.bin .add (.ix (.ix (.v 6) (.neg (.i 1))) (.i 1)) (.i 1))])]))]
      [],
    .ife (.or (.not (.call 105 [(.v 6)])) (.cmp .isin (.b true) (.lc (.call 105 [(.v 14)]) (.nm 14) [14] .seq [(.v 8)] [])))
      [.ret (.b false)]
      [],
    .asg (.nm 9) (.lst []),
    .forr (.nm 10) .seq [(.bin .add (.v 6) (.v 7))]
      l130_0,
    .asg (.nm 2) (.lc (.v 12) (.nm 12) [12] .seq [(.v 3)] [(.cmp .isin (.v 12) (.v 9))]),
    .ife (.not (.call 124 [(.call 902 [(.lst [(.v 6), (.v 7)])]), (.v 2)]))
      [.ret (.b false)]
      [],
    .ife (.not (.call 124 [(.call 128 [(.v 2)]), (.lc (.tup [(.ix (.v 2) (.v 13)), (.ix (.v 2) (.bin .add (.v 13) (.i 1)))]) (.nm 13) [13] .rng1 [(.bin .sub (.blt .len [(.v 2)]) (.i 1))] [])]))
      [.ret (.b false)]
      [],
    .asg (.nm 11) (.lc (.tup [(.ix (.v 3) (.v 13)), (.ix (.v 3) (.bin .add (.v 13) (.i 1)))]) (.nm 13) [13] .rng1 [(.i 8)] [(.ix (.v 5) (.v 13))]),
    .ife (.not (.call 124 [(.call 129 [(.v 11)]), (.v 6)]))
      [.ret (.b false)]
      []]
/-- law; 0 _law_script, 1 _law_told, 2 _law_due, 3 _law_points_here, 4 _law_cell, 5 _law_one, 6 _law_first, 7 _law_second, 8 _law_bad, 9 _law_flat, 10 _law_pair, 11 _law_parts, 12 _law_point, 13 _law_k, 14 _law_value_here -/
def b130 : List S :=
   [.asg (.nm 1) (.lst [(.call 102 [(.i 0)]), (.call 102 [(.i 9999)]), (.call 102 [(.i 10000)]), (.call 102 [(.neg (.i 1))]), (.call 102 [(.b true)]), (.call 102 [(.s [49])]), (.call 103 [(.i 0), (.i 10000)]), (.call 103 [(.i 5), (.i 5)])]),
    .asg (.nm 1) (.bin .add (.v 1) (.lst [(.call 103 [(.i 9999), (.i 10001)]), (.call 103 [(.i 10000), (.i 10000)]), (.call 103 [(.i 0), (.b true)]), (.call 105 [(.tup [])]), (.call 105 [(.lst [])])])),
    .asg (.nm 2) (.lst [(.b true), (.b true), (.b false), (.b false), (.b false), (.b false), (.b true), (.b false), (.b false), (.b false), (.b false), (.b true), (.b false)]),
    .ife (.not (.call 124 [(.v 1), (.v 2)]))
    [.ret (.b false)]
    [],
    .asg (.nm 3) (.call 125 []),
    .forr (.nm 4) .seq [(.bin .add (.lst [(.i 1), (.i 2)]) (.blt .list [(.v 0)]))]
    l130_1,
    .ret (.b true)]
def f130 : Fn := ⟨1, 15, b130⟩
end Ev
end
section
set_option maxRecDepth 100000
/-! the clean functions -/
namespace Ev
/-- holds; 0 spans, 1 day, 2 start, 3 stop -/
def b131 : List S :=
   [.ret (.blt .any [(.lc (.chain .le .lt (.v 2) (.v 1) (.v 3)) (.tp [2, 3]) [2, 3] .seq [(.v 0)] [])])]
def f131 : Fn := ⟨2, 4, b131⟩
/-- unite; 0 first, 1 second, 2 found, 3 pair -/
def b132 : List S :=
   [.asg (.nm 2) (.call 128 [(.call 902 [(.lst [(.v 0), (.v 1)])])]),
    .ret (.call 129 [(.lc (.v 3) (.nm 3) [3] .seq [(.v 2)] [(.or (.call 131 [(.v 0), (.ix (.v 3) (.i 0))]) (.call 131 [(.v 1), (.ix (.v 3) (.i 0))]))])])]
def f132 : Fn := ⟨2, 4, b132⟩
/-- meet; 0 first, 1 second, 2 found, 3 pair -/
def b133 : List S :=
   [.asg (.nm 2) (.call 128 [(.call 902 [(.lst [(.v 0), (.v 1)])])]),
    .ret (.call 129 [(.lc (.v 3) (.nm 3) [3] .seq [(.v 2)] [(.and (.call 131 [(.v 0), (.ix (.v 3) (.i 0))]) (.call 131 [(.v 1), (.ix (.v 3) (.i 0))]))])])]
def f133 : Fn := ⟨2, 4, b133⟩
/-- less; 0 first, 1 second, 2 found, 3 pair -/
def b134 : List S :=
   [.asg (.nm 2) (.call 128 [(.call 902 [(.lst [(.v 0), (.v 1)])])]),
    .ret (.call 129 [(.lc (.v 3) (.nm 3) [3] .seq [(.v 2)] [(.and (.call 131 [(.v 0), (.ix (.v 3) (.i 0))]) (.not (.call 131 [(.v 1), (.ix (.v 3) (.i 0))])))])])]
def f134 : Fn := ⟨2, 4, b134⟩
def l135_0 : List S :=
   [.ife (.not (.call 124 [(.lst [(.call 131 [(.v 5), (.ix (.v 1) (.v 9))]), (.call 131 [(.v 5), (.bin .sub (.ix (.v 1) (.bin .add (.v 9) (.i 1))) (.i 1))])]), (.lst [(.ix (.v 3) (.v 9)), (.ix (.v 3) (.v 9))])]))
        [.ret (.b false)]
        []]
def l135_1 : List S :=
   [.asg (.nm 3) (.call 126 [(.v 2)]),
    .asg (.nm 4) (.call 126 [(.bin .add (.blt .int [(.v 2)]) (.i 1))]),
    .asg (.nm 5) (.call 127 [(.v 3)]),
    .asg (.nm 6) (.call 127 [(.v 4)]),
    .asg (.nm 7) (.lst [(.call 132 [(.v 5), (.v 6)]), (.call 133 [(.v 5), (.v 6)]), (.call 134 [(.v 5), (.v 6)]), (.call 134 [(.k 8), (.v 5)]), (.call 132 [(.v 5), (.k 7)])]),
    .asg (.nm 8) (.lst [(.call 127 [(.lc (.or (.ix (.v 3) (.v 9)) (.ix (.v 4) (.v 9))) (.nm 9) [9] .rng1 [(.i 8)] [])]), (.call 127 [(.lc (.and (.ix (.v 3) (.v 9)) (.ix (.v 4) (.v 9))) (.nm 9) [9] .rng1 [(.i 8)] [])])]),
    .app 8 (.call 127 [(.lc (.and (.ix (.v 3) (.v 9)) (.not (.ix (.v 4) (.v 9)))) (.nm 9) [9] .rng1 [(.i 8)] [])]),
    .asg (.nm 8) (.bin .add (.v 8) (.lst [(.call 127 [(.lc (.not (.ix (.v 3) (.v 9))) (.nm 9) [9] .rng1 [(.i 8)] [])]), (.v 5)])),
    .ife (.or (.not (.call 124 [(.v 7), (.v 8)])) (.not (.call 124 [(.lc (.call 105 [(.v 10)]) (.nm 10) [10] .seq [(.v 7)] []), (.lst [(.b true), (.b true), (.b true), (.b true), (.b true)])])))
      [.ret (.b false)]
      [],
    .forr (.nm 9) .rng1 [(.i 8)]
      l135_0]
/-- law; 0 _law_script, 1 _law_points_here, 2 _law_cell, 3 _law_one, 4 _law_other, 5 _law_first, 6 _law_second, 7 _law_told, 8 _law_due, 9 _law_k, 10 _law_spans_here -/
def b135 : List S :=
   [.asg (.nm 1) (.call 125 []),
    .ife (.not (.call 124 [(.lst [(.k 6), (.k 7), (.k 8)]), (.lst [(.i 10000), (.tup []), (.tup [(.tup [(.i 0), (.i 10000)])])])]))
    [.ret (.b false)]
    [],
    .forr (.nm 2) .seq [(.bin .add (.lst [(.i 0), (.i 1), (.i 2)]) (.blt .list [(.v 0)]))]
    l135_1,
    .ret (.b true)]
def f135 : Fn := ⟨1, 11, b135⟩
end Ev
end
section
set_option maxRecDepth 100000
/-! the clean functions -/
namespace Ev
/-- _law_world; 0 _law_script, 1 _law_hasher_here, 2 _law_rows_here, 3 _law_tree, 4 _law_row -/
def b136 : List S :=
   [.asg (.nm 1) (.call 38 [(.call 39 [(.v 0), (.i 0)])]),
    .asg (.nm 2) (.call 41 [(.v 0), (.i 2)]),
    .asg (.nm 3) (.call 59 [(.v 1), (.v 2)]),
    .ret (.tup [(.v 1), (.v 3), (.bin .add (.lc (.ix (.v 4) (.i 0)) (.nm 4) [4] .seq [(.v 2)] []) (.lst [(.tup [(.s [113])])])), (.call 903 [(.v 2)])])]
def f136 : Fn := ⟨1, 5, b136⟩
def l137_0 : List S :=
   [.ife (.not (.call 109 [(.v 3)]))
      [.nev]
      []]
def l137_1 : List S :=
   [.asg (.nm 2) (.bin .sub (.bin .sub (.blt .len [(.v 1)]) (.i 1)) (.v 5)),
    .ife (.cmp .eq (.ix (.v 3) (.i 0)) (.s [110, 111, 100, 101]))
      [.ife (.or (.cmp .lt (.blt .len [(.v 4)]) (.i 2)) (.not (.call 111 [(.ix (.v 4) (.neg (.i 1))), (.ix (.v 4) (.neg (.i 2)))])))
        [.nev]
        [],
      .pop (.nm 6) 4,
      .pop (.nm 7) 4,
      .app 4 (.call 47 [(.v 0), (.v 6), (.v 7)])]
      [.ife (.cmp .eq (.ix (.v 3) (.i 0)) (.s [108, 101, 97, 102]))
        [.app 4 (.call 44 [(.v 0), (.ix (.v 3) (.i 1)), (.ix (.v 3) (.i 2))])]
        [.app 4 (.v 3)]]]
/-- tree_of_paper; 0 hasher, 1 parts, 2 at, 3 part, 4 done, 5 turn, 6 left, 7 right -/
def b137 : List S :=
   [.forr (.tp [2, 3]) .enum [(.v 1)]
    l137_0,
    .asg (.nm 4) (.lst []),
    .forr (.tp [5, 3]) .revdr [(.v 1)]
    l137_1,
    .ife (.cmp .gt (.blt .len [(.v 4)]) (.i 1))
    [.nev]
    [],
    .ret (.ite (.v 4) (.ix (.v 4) (.i 0)) .n)]
def f137 : Fn := ⟨2, 8, b137⟩
/-- _law_parts; 0 _law_rows_here, 1 _law_low, 2 _law_high, 3 _law_split, 4 _law_k, 5 _law_left_here, 6 _law_row -/
def b138 : List S :=
   [.ife (.not (.v 0))
    [.ret (.lst [])]
    [],
    .ife (.cmp .eq (.blt .len [(.v 0)]) (.i 1))
    [.ret (.lst [(.tup [(.s [108, 101, 97, 102]), (.ix (.ix (.v 0) (.i 0)) (.i 0)), (.ix (.ix (.v 0) (.i 0)) (.i 1))])])]
    [],
    .asg (.nm 1) (.call 6 [(.call 16 [(.ix (.ix (.v 0) (.i 0)) (.i 0))])]),
    .asg (.nm 2) (.call 6 [(.call 16 [(.ix (.ix (.v 0) (.neg (.i 1))) (.i 0))])]),
    .asg (.nm 3) (.blt .min [(.lc (.v 4) (.nm 4) [4] .rng1 [(.blt .min [(.blt .len [(.v 1)]), (.blt .len [(.v 2)])])] [(.cmp .ne (.ix (.v 1) (.v 4)) (.ix (.v 2) (.v 4)))])]),
    .asg (.nm 5) (.lc (.v 6) (.nm 6) [6] .seq [(.v 0)] [(.cmp .eq (.ix (.call 6 [(.call 16 [(.ix (.v 6) (.i 0))])]) (.v 3)) (.i 0))]),
    .ret (.bin .add (.bin .add (.lst [(.tup [(.s [110, 111, 100, 101])])]) (.call 138 [(.v 5)])) (.call 138 [(.sl (.v 0) (some (.blt .len [(.v 5)])) none)]))]
def f138 : Fn := ⟨1, 7, b138⟩
def l139_0 : List S :=
   [.app 2 (.tup [(.ix (.v 4) (.i 2)), (.ix (.v 4) (.i 3))])]
def l139_1 : List S :=
   [.forr (.tp [4, 5]) .seq [(.ix (.call 45 [(.v 0), (.call 3 [(.v 3)])]) (.i 0))]
      l139_0]
def l139_2 : List S :=
   [.pop (.nm 8) 7,
    .ife (.or (.cmp .ne (.ix (.v 8) (.i 0)) (.s [110, 111, 100, 101])) (.cmp .nin (.tup [(.ix (.v 8) (.i 2)), (.ix (.v 8) (.i 3))]) (.v 2)))
      [.asg (.nm 8) (.call 62 [(.v 8)])]
      [],
    .app 6 (.v 8),
    .ife (.cmp .eq (.ix (.v 8) (.i 0)) (.s [110, 111, 100, 101]))
      [.app 7 (.ix (.v 8) (.i 6)),
      .app 7 (.ix (.v 8) (.i 5))]
      []]
/-- prune_for; 0 tree, 1 keys, 2 passed, 3 key, 4 node, 5 right, 6 parts, 7 waiting, 8 part -/
def b139 : List S :=
   [.ife (.cmp .is (.v 0) .n)
    [.ret .n]
    [],
    .asg (.nm 2) (.lst []),
    .forr (.nm 3) .seq [(.v 1)]
    l139_1,
    .asg (.nm 6) (.lst []),
    .asg (.nm 7) (.lst [(.v 0)]),
    .whl (.v 7)
    l139_2,
    .ret (.call 63 [(.v 6)])]
def f139 : Fn := ⟨2, 9, b139⟩
def l140_0 : List S :=
   [.asg (.nm 7) (.call 50 [(.v 6)]),
    .ife (.or (.cmp .ne (.call 137 [(.v 1), (.v 7)]) (.v 6)) (.cmp .ne (.call 50 [(.call 137 [(.v 1), (.blt .list [(.v 7)])])]) (.v 7)))
      [.ret (.b false)]
      [],
    .asg (.nm 8) (.blt .len [(.lc (.v 9) (.nm 9) [9] .seq [(.v 7)] [(.cmp .eq (.v 9) (.tup [(.s [110, 111, 100, 101])]))])]),
    .ife (.and (.cmp .gt (.blt .len [(.v 7)]) (.i 0)) (.cmp .ne (.bin .sub (.blt .len [(.v 7)]) (.v 8)) (.bin .add (.v 8) (.i 1))))
      [.ret (.b false)]
      []]
/-- law; 0 _law_script, 1 _law_hasher_here, 2 _law_tree, 3 _law_keys, 4 _law_rows_here, 5 _law_turn, 6 _law_told, 7 _law_parts_here, 8 _law_nodes, 9 _law_part -/
def b140 : List S :=
   [.asg (.tp [1, 2, 3, 4]) (.call 136 [(.v 0)]),
    .ife (.or (.cmp .ne (.call 50 [(.v 2)]) (.call 138 [(.v 4)])) (.cmp .ne (.call 137 [(.v 1), (.call 138 [(.v 4)])]) (.v 2)))
    [.ret (.b false)]
    [],
    .asg (.nm 5) (.ix (.call 0 [(.call 39 [(.v 0), (.i 1)]), (.i 1)]) (.i 0)),
    .forr (.nm 6) .seq [(.tup [(.v 2), (.call 64 [(.v 2), (.call 65 [(.call 39 [(.v 0), (.i 1)]), (.v 3)])]), (.call 139 [(.v 2), (.sl (.sl (.v 3) (some (.bin .mod (.v 5) (.blt .len [(.v 3)]))) none) none (some (.i 4)))])])]
    l140_0,
    .ret (.b true)]
def f140 : Fn := ⟨1, 10, b140⟩
def l141_0 : List S :=
   [.ife (.and (.cmp .lt (.v 0) (.v 4)) (.cmp .ge (.v 1) (.v 3)))
      [.ret (.b false)]
      []]
/-- _law_outside; 0 _law_low, 1 _law_high, 2 _law_bounds, 3 _law_first, 4 _law_last -/
def b141 : List S :=
   [.forr (.tp [3, 4]) .seq [(.v 2)]
    l141_0,
    .ret (.b true)]
def f141 : Fn := ⟨3, 5, b141⟩
/-- _law_left; 0 _law_rows_here, 1 _law_low, 2 _law_high, 3 _law_split, 4 _law_k, 5 _law_row -/
def b142 : List S :=
   [.asg (.nm 1) (.call 6 [(.call 16 [(.ix (.ix (.v 0) (.i 0)) (.i 0))])]),
    .asg (.nm 2) (.call 6 [(.call 16 [(.ix (.ix (.v 0) (.neg (.i 1))) (.i 0))])]),
    .asg (.nm 3) (.blt .min [(.lc (.v 4) (.nm 4) [4] .rng1 [(.blt .min [(.blt .len [(.v 1)]), (.blt .len [(.v 2)])])] [(.cmp .ne (.ix (.v 1) (.v 4)) (.ix (.v 2) (.v 4)))])]),
    .ret (.lc (.v 5) (.nm 5) [5] .seq [(.v 0)] [(.cmp .eq (.ix (.call 6 [(.call 16 [(.ix (.v 5) (.i 0))])]) (.v 3)) (.i 0))])]
def f142 : Fn := ⟨1, 6, b142⟩
/-- _law_pruned; 0 _law_hasher_here, 1 _law_rows_here, 2 _law_bounds, 3 _law_parts_here, 4 _law_many -/
def b143 : List S :=
   [.ife (.not (.v 1))
    [.ret (.lst [])]
    [],
    .asg (.nm 3) (.call 138 [(.v 1)]),
    .ife (.call 141 [(.call 16 [(.ix (.ix (.v 1) (.i 0)) (.i 0))]), (.call 16 [(.ix (.ix (.v 1) (.neg (.i 1))) (.i 0))]), (.v 2)])
    [.ret (.lst [(.bin .add (.tup [(.s [112, 114, 117, 110, 101, 100])]) (.call 53 [(.v 0), (.v 3)]))])]
    [],
    .ife (.cmp .eq (.blt .len [(.v 1)]) (.i 1))
    [.ret (.v 3)]
    [],
    .asg (.nm 4) (.blt .len [(.call 142 [(.v 1)])]),
    .ret (.bin .add (.bin .add (.lst [(.tup [(.s [110, 111, 100, 101])])]) (.call 143 [(.v 0), (.sl (.v 1) none (some (.v 4))), (.v 2)])) (.call 143 [(.v 0), (.sl (.v 1) (some (.v 4)) none), (.v 2)]))]
def f143 : Fn := ⟨3, 5, b143⟩
def l144_0 : List S :=
   [.pop (.nm 5) 4,
    .ife (.call 60 [(.v 5), (.v 1), (.v 2)])
      [.ife (.cmp .eq (.ix (.v 5) (.i 0)) (.s [112, 114, 117, 110, 101, 100]))
        [.nev]
        [],
      .ife (.cmp .eq (.ix (.v 5) (.i 0)) (.s [108, 101, 97, 102]))
        [.app 3 (.tup [(.ix (.v 5) (.i 5)), (.ix (.v 5) (.i 6))])]
        [.app 4 (.ix (.v 5) (.i 6)),
        .app 4 (.ix (.v 5) (.i 5))]]
      []]
/-- entries; 0 tree, 1 first, 2 last, 3 found, 4 waiting, 5 part -/
def b144 : List S :=
   [.asg (.nm 3) (.lst []),
    .asg (.nm 4) (.ite (.cmp .is (.v 0) .n) (.lst []) (.lst [(.v 0)])),
    .whl (.v 4)
    l144_0,
    .ret (.v 3)]
def f144 : Fn := ⟨3, 6, b144⟩
def l145_0 : List S :=
   [.asg (.nm 10) (.lc (.v 11) (.nm 11) [11] .seq [(.v 4)] [(.chain .le .lt (.v 8) (.call 16 [(.ix (.v 11) (.i 0))]) (.v 9))]),
      .ife (.cmp .ne (.call 144 [(.v 7), (.v 8), (.v 9)]) (.v 10))
        [.ret (.b false)]
        []]
def l145_1 : List S :=
   [.asg (.nm 6) (.call 65 [(.bin .add (.call 39 [(.v 0), (.i 1)]) (.v 5)), (.v 3)]),
    .asg (.nm 7) (.call 64 [(.v 2), (.blt .list [(.v 6)])]),
    .ife (.or (.cmp .ne (.call 55 [(.v 1), (.v 7)]) (.call 55 [(.v 1), (.v 2)])) (.cmp .ne (.call 50 [(.v 7)]) (.call 143 [(.v 1), (.v 4), (.v 6)])))
      [.ret (.b false)]
      [],
    .forr (.tp [8, 9]) .seq [(.v 6)]
      l145_0]
/-- law; 0 _law_script, 1 _law_hasher_here, 2 _law_tree, 3 _law_keys, 4 _law_rows_here, 5 _law_k, 6 _law_bounds, 7 _law_told, 8 _law_first, 9 _law_last, 10 _law_due, 11 _law_row -/
def b145 : List S :=
   [.asg (.tp [1, 2, 3, 4]) (.call 136 [(.v 0)]),
    .forr (.nm 5) .rng1 [(.i 3)]
    l145_1,
    .ret (.cmp .eq (.v 2) (.call 59 [(.v 1), (.v 4)]))]
def f145 : Fn := ⟨1, 12, b145⟩
def l146_0 : List S :=
   [.asg (.nm 4) (.call 0 [(.bin .add (.v 0) (.bin .mul (.i 31) (.v 3))), (.i 8)]),
    .asg (.nm 5) (.ite (.cmp .gt (.bin .mod (.ix (.v 4) (.i 0)) (.i 3)) (.i 0)) (.ix (.v 1) (.bin .mod (.ix (.v 4) (.i 1)) (.blt .len [(.v 1)]))) (.call 5 [(.sl (.v 4) (some (.i 2)) none)])),
    .ife (.cmp .nin (.v 5) (.lc (.ix (.v 6) (.i 0)) (.nm 6) [6] .seq [(.v 2)] []))
      [.app 2 (.tup [(.v 5), (.ite (.cmp .eq (.bin .mod (.ix (.v 4) (.i 6)) (.i 3)) (.i 0)) (.tup []) (.call 40 [(.ix (.v 4) (.i 6)), (.ix (.v 4) (.i 7))]))])]
      []]
/-- _law_puts; 0 _law_cell_here, 1 _law_keys, 2 _law_puts_here, 3 _law_k, 4 _law_draws_here, 5 _law_key_here, 6 _law_other -/
def b146 : List S :=
   [.asg (.nm 2) (.lst []),
    .forr (.nm 3) .rng1 [(.bin .add (.i 1) (.bin .mod (.ix (.call 0 [(.v 0), (.i 1)]) (.i 0)) (.i 6)))]
    l146_0,
    .ret (.v 2)]
def f146 : Fn := ⟨2, 7, b146⟩
/-- _law_kept; 0 _law_rows_here, 1 _law_keys, 2 _law_low, 3 _law_high, 4 _law_split, 5 _law_going, 6 _law_left, 7 _law_one, 8 _law_other, 9 _law_key_here, 10 _law_k, 11 _law_row -/
def b147 : List S :=
   [.ife (.not (.v 0))
    [.ret (.lst [])]
    [],
    .ife (.cmp .gt (.blt .len [(.v 0)]) (.i 1))
    [.asg (.nm 2) (.call 6 [(.call 16 [(.ix (.ix (.v 0) (.i 0)) (.i 0))])]),
    .asg (.nm 3) (.call 6 [(.call 16 [(.ix (.ix (.v 0) (.neg (.i 1))) (.i 0))])]),
    .asg (.nm 4) (.blt .min [(.lc (.v 10) (.nm 10) [10] .rng1 [(.blt .min [(.blt .len [(.v 2)]), (.blt .len [(.v 3)])])] [(.cmp .ne (.ix (.v 2) (.v 10)) (.ix (.v 3) (.v 10)))])]),
    .asg (.nm 5) (.lc (.call 6 [(.call 16 [(.v 9)])]) (.nm 9) [9] .seq [(.v 1)] []),
    .asg (.nm 5) (.lc (.v 9) (.tp [10, 9]) [10, 9] .enum [(.v 1)] [(.cmp .eq (.sl (.ix (.v 5) (.v 10)) none (some (.v 4))) (.sl (.v 2) none (some (.v 4))))]),
    .ife (.v 5)
      [.asg (.nm 6) (.lc (.v 11) (.nm 11) [11] .seq [(.v 0)] [(.cmp .eq (.ix (.call 6 [(.call 16 [(.ix (.v 11) (.i 0))])]) (.v 4)) (.i 0))]),
      .asg (.nm 7) (.lc (.v 9) (.nm 9) [9] .seq [(.v 5)] [(.cmp .eq (.ix (.call 6 [(.call 16 [(.v 9)])]) (.v 4)) (.i 0))]),
      .asg (.nm 8) (.lc (.v 9) (.nm 9) [9] .seq [(.v 5)] [(.cmp .nin (.v 9) (.v 7))]),
      .ret (.bin .add (.bin .add (.lst [(.s [110, 111, 100, 101])]) (.call 147 [(.v 6), (.v 7)])) (.call 147 [(.sl (.v 0) (some (.blt .len [(.v 6)])) none), (.v 8)]))]
      []]
    [],
    .ret (.lst [(.tup [(.blt .len [(.v 0)]), (.call 16 [(.ix (.ix (.v 0) (.i 0)) (.i 0))]), (.call 16 [(.ix (.ix (.v 0) (.neg (.i 1))) (.i 0))])])])]
def f147 : Fn := ⟨2, 12, b147⟩
/-- _law_unknown; 0 _law_tree, 1 _law_keys -/
def b148 : List S :=
   [.tri
    [.exp (.call 139 [(.call 64 [(.v 0), (.lst [])]), (.v 1)])] 4 none
    [.ret (.b true)],
    .ret (.b false)]
def f148 : Fn := ⟨2, 2, b148⟩
/-- _law_shape; 0 _law_parts_here, 1 _law_part -/
def b149 : List S :=
   [.ret (.lc (.ite (.cmp .eq (.ix (.v 1) (.i 0)) (.s [110, 111, 100, 101])) (.ix (.v 1) (.i 0)) (.sl (.v 1) (some (.i 1)) (some (.i 4)))) (.nm 1) [1] .seq [(.v 0)] [])]
def f149 : Fn := ⟨1, 2, b149⟩
def l150_0 : List S :=
   [.asg (.nm 9) (.call 49 [(.v 1), (.v 9), (.v 11), (.v 12)])]
def l150_1 : List S :=
   [.asg (.nm 13) (.call 49 [(.v 1), (.v 13), (.v 11), (.v 12)])]
def l150_2 : List S :=
   [.asg (.nm 13) (.v 7),
      .forr (.tp [11, 12]) .seq [(.v 10)]
        l150_1,
      .ife (.cmp .ne (.call 55 [(.v 1), (.v 13)]) (.call 55 [(.v 1), (.v 9)]))
        [.ret (.b false)]
        []]
def l150_3 : List S :=
   [.asg (.nm 6) (.call 146 [(.bin .add (.call 39 [(.v 0), (.i 1)]) (.bin .mul (.i 1000) (.v 5))), (.v 3)]),
    .asg (.nm 7) (.call 139 [(.v 2), (.lc (.ix (.v 14) (.i 0)) (.nm 14) [14] .seq [(.v 6)] [])]),
    .ife (.cmp .ne (.call 55 [(.v 1), (.v 7)]) (.call 55 [(.v 1), (.v 2)]))
      [.ret (.b false)]
      [],
    .ife (.cmp .ne (.lc (.v 13) (.nm 13) [13] .seq [(.call 50 [(.v 7)])] [(.cmp .eq (.ix (.v 13) (.i 0)) (.s [108, 101, 97, 102]))]) (.lst []))
      [.ret (.b false)]
      [],
    .asg (.nm 8) (.call 147 [(.v 4), (.lc (.ix (.v 14) (.i 0)) (.nm 14) [14] .seq [(.v 6)] [])]),
    .ife (.or (.cmp .ne (.call 149 [(.call 50 [(.v 7)])]) (.v 8)) (.cmp .ne (.call 148 [(.v 2), (.lc (.ix (.v 14) (.i 0)) (.nm 14) [14] .seq [(.v 6)] [])]) (.cmp .eq (.sl (.v 8) none (some (.i 1))) (.lst [(.s [110, 111, 100, 101])]))))
      [.ret (.b false)]
      [],
    .asg (.nm 9) (.v 2),
    .forr (.tp [11, 12]) .seq [(.v 6)]
      l150_0,
    .forr (.nm 10) .seq [(.tup [(.v 6), (.rev (.v 6)), (.bin .add (.sl (.v 6) (some (.i 1)) none) (.sl (.v 6) none (some (.i 1))))])]
      l150_2]
/-- law; 0 _law_script, 1 _law_hasher_here, 2 _law_tree, 3 _law_keys, 4 _law_rows_here, 5 _law_k, 6 _law_puts_here, 7 _law_told, 8 _law_kept_here, 9 _law_due, 10 _law_order, 11 _law_key_here, 12 _law_spans_here, 13 _law_part, 14 _law_row -/
def b150 : List S :=
   [.asg (.tp [1, 2, 3, 4]) (.call 136 [(.v 0)]),
    .forr (.nm 5) .rng1 [(.i 4)]
    l150_3,
    .ret (.b true)]
def f150 : Fn := ⟨1, 15, b150⟩
def l151_0 : List S :=
   [.asg (.nm 2) (.bin .add (.v 2) (.ite (.cmp .eq (.ix (.ix (.v 0) (.v 3)) (.i 0)) (.s [110, 111, 100, 101])) (.i 1) (.bin .sub (.i 0) (.i 1)))),
    .ife (.cmp .eq (.v 2) (.i 0))
      [.ret (.bin .add (.v 3) (.i 1))]
      []]
/-- _law_end; 0 _law_parts_here, 1 _law_at, 2 _law_open_parts, 3 _law_k -/
def b151 : List S :=
   [.asg (.nm 2) (.i 1),
    .forr (.nm 3) .rng2 [(.v 1), (.blt .len [(.v 0)])]
    l151_0,
    .ret (.blt .len [(.v 0)])]
def f151 : Fn := ⟨2, 4, b151⟩
def l152_0 : List S :=
   [.tri
      [.exp (.call 144 [(.v 0), (.v 2), (.v 3)])] 4 none
      [.ret (.b true)]]
/-- _law_unknown; 0 _law_tree, 1 _law_bounds, 2 _law_first, 3 _law_last -/
def b152 : List S :=
   [.forr (.tp [2, 3]) .seq [(.v 1)]
    l152_0,
    .ret (.b false)]
def f152 : Fn := ⟨2, 4, b152⟩
def l153_0 : List S :=
   [.ife (.cmp .ne (.ix (.ix (.v 6) (.v 7)) (.i 0)) (.s [112, 114, 117, 110, 101, 100]))
      [.asg (.nm 8) (.call 151 [(.v 6), (.v 7)]),
      .asg (.nm 9) (.bin .add (.tup [(.s [112, 114, 117, 110, 101, 100])]) (.call 53 [(.v 1), (.sl (.v 6) (some (.v 7)) (some (.v 8)))])),
      .asg (.nm 10) (.call 137 [(.v 1), (.bin .add (.bin .add (.sl (.v 6) none (some (.v 7))) (.lst [(.v 9)])) (.sl (.v 6) (some (.v 8)) none))]),
      .ife (.not (.call 152 [(.v 10), (.v 5)]))
        [.ret (.b false)]
        []]
      []]
/-- law; 0 _law_script, 1 _law_hasher_here, 2 _law_tree, 3 _law_keys, 4 _law_rows_here, 5 _law_bounds, 6 _law_parts_here, 7 _law_at, 8 _law_end_here, 9 _law_hidden, 10 _law_less -/
def b153 : List S :=
   [.asg (.tp [1, 2, 3, 4]) (.call 136 [(.v 0)]),
    .asg (.nm 5) (.call 65 [(.call 39 [(.v 0), (.i 1)]), (.v 3)]),
    .asg (.nm 6) (.call 50 [(.call 64 [(.v 2), (.v 5)])]),
    .forr (.nm 7) .rng1 [(.blt .len [(.v 6)])]
    l153_0,
    .ret (.not (.call 152 [(.call 64 [(.v 2), (.v 5)]), (.v 5)]))]
def f153 : Fn := ⟨1, 11, b153⟩
def l154_0 : List S :=
   [.ife (.cmp .ne (.ix (.v 2) (.v 4)) (.ix (.v 3) (.v 4)))
      [.ret (.v 4)]
      []]
/-- _law_same_bits; 0 _law_one, 1 _law_other, 2 _law_first, 3 _law_second, 4 _law_k -/
def b154 : List S :=
   [.asg (.nm 2) (.call 6 [(.v 0)]),
    .asg (.nm 3) (.call 6 [(.v 1)]),
    .forr (.nm 4) .rng1 [(.blt .min [(.blt .len [(.v 2)]), (.blt .len [(.v 3)])])]
    l154_0,
    .ret (.blt .min [(.blt .len [(.v 2)]), (.blt .len [(.v 3)])])]
def f154 : Fn := ⟨2, 5, b154⟩
def l155_0 : List S :=
   [.ife (.and (.cmp .eq (.ix (.v 3) (.i 0)) (.s [112, 114, 117, 110, 101, 100])) (.cmp .gt (.ix (.v 3) (.i 1)) (.i 1)))
      [.ife (.cmp .ge (.call 154 [(.ix (.v 3) (.i 2)), (.v 2)]) (.call 154 [(.ix (.v 3) (.i 2)), (.ix (.v 3) (.i 3))]))
        [.ret (.b true)]
        []]
      []]
/-- _law_unknown; 0 _law_tree, 1 _law_key_here, 2 _law_octets_here, 3 _law_part -/
def b155 : List S :=
   [.asg (.nm 2) (.call 16 [(.v 1)]),
    .forr (.nm 3) .seq [(.call 50 [(.v 0)])]
    l155_0,
    .ret (.b false)]
def f155 : Fn := ⟨2, 4, b155⟩
def l156_0 : List S :=
   [.asg (.nm 7) (.call 0 [(.bin .add (.bin .mul (.call 39 [(.v 0), (.i 1)]) (.i 3)) (.v 6)), (.i 9)]),
    .asg (.nm 8) (.ite (.cmp .gt (.bin .mod (.ix (.v 7) (.i 1)) (.i 3)) (.i 0)) (.ix (.v 3) (.bin .mod (.ix (.v 7) (.i 0)) (.blt .len [(.v 3)]))) (.call 5 [(.sl (.v 7) (some (.i 2)) none)])),
    .asg (.nm 9) (.ite (.cmp .eq (.bin .mod (.ix (.v 7) (.i 7)) (.i 3)) (.i 0)) (.tup []) (.call 40 [(.ix (.v 7) (.i 7)), (.ix (.v 7) (.i 8))])),
    .asg (.nm 10) (.call 155 [(.v 5), (.v 8)]),
    .tri
      [.asg (.nm 5) (.call 49 [(.v 1), (.v 5), (.v 8), (.v 9)])] 4 none
      [.ife (.not (.v 10))
        [.ret (.b false)]
        [],
      .cnt],
    .asg (.nm 2) (.call 49 [(.v 1), (.v 2), (.v 8), (.v 9)]),
    .ife (.or (.v 10) (.cmp .ne (.call 55 [(.v 1), (.v 5)]) (.call 55 [(.v 1), (.v 2)])))
      [.ret (.b false)]
      []]
/-- law; 0 _law_script, 1 _law_hasher_here, 2 _law_tree, 3 _law_keys, 4 _law_rows_here, 5 _law_told, 6 _law_k, 7 _law_draws_here, 8 _law_key_here, 9 _law_spans_here, 10 _law_unknown_here -/
def b156 : List S :=
   [.asg (.tp [1, 2, 3, 4]) (.call 136 [(.v 0)]),
    .asg (.nm 5) (.call 64 [(.v 2), (.call 65 [(.call 39 [(.v 0), (.i 1)]), (.v 3)])]),
    .forr (.nm 6) .rng1 [(.i 12)]
    l156_0,
    .ret (.b true)]
def f156 : Fn := ⟨1, 11, b156⟩
end Ev
end
section
set_option maxRecDepth 100000
/-! the clean functions -/
namespace Ev
def l157_0 : List S :=
   [.pop (.nm 5) 4,
    .ife (.call 60 [(.v 5), (.v 1), (.v 2)])
      [.ife (.cmp .eq (.ix (.v 5) (.i 0)) (.s [112, 114, 117, 110, 101, 100]))
        [.rai 4 []]
        [],
      .ife (.cmp .eq (.ix (.v 5) (.i 0)) (.s [108, 101, 97, 102]))
        [.app 3 (.tup [(.ix (.v 5) (.i 5)), (.ix (.v 5) (.i 6))])]
        [.app 4 (.ix (.v 5) (.i 6)),
        .app 4 (.ix (.v 5) (.i 5))]]
      []]
/-- entries; 0 tree, 1 first, 2 last, 3 found, 4 waiting, 5 part -/
def b157 : List S :=
   [.asg (.nm 3) (.lst []),
    .asg (.nm 4) (.ite (.cmp .is (.v 0) .n) (.lst []) (.lst [(.v 0)])),
    .whl (.v 4)
    l157_0,
    .ret (.v 3)]
def f157 : Fn := ⟨3, 6, b157⟩
def l158_0 : List S :=
   [.tri
      [.exp (.call 157 [(.v 0), (.v 2), (.v 3)])] 4 none
      [.ret (.b true)]]
/-- _law_unknown; 0 _law_tree, 1 _law_bounds, 2 _law_first, 3 _law_last -/
def b158 : List S :=
   [.forr (.tp [2, 3]) .seq [(.v 1)]
    l158_0,
    .ret (.b false)]
def f158 : Fn := ⟨2, 4, b158⟩
def l159_0 : List S :=
   [.ife (.cmp .ne (.ix (.ix (.v 6) (.v 7)) (.i 0)) (.s [112, 114, 117, 110, 101, 100]))
      [.asg (.nm 8) (.call 151 [(.v 6), (.v 7)]),
      .asg (.nm 9) (.bin .add (.tup [(.s [112, 114, 117, 110, 101, 100])]) (.call 53 [(.v 1), (.sl (.v 6) (some (.v 7)) (some (.v 8)))])),
      .asg (.nm 10) (.call 137 [(.v 1), (.bin .add (.bin .add (.sl (.v 6) none (some (.v 7))) (.lst [(.v 9)])) (.sl (.v 6) (some (.v 8)) none))]),
      .ife (.not (.call 158 [(.v 10), (.v 5)]))
        [.ret (.b false)]
        []]
      []]
/-- law; 0 _law_script, 1 _law_hasher_here, 2 _law_tree, 3 _law_keys, 4 _law_rows_here, 5 _law_bounds, 6 _law_parts_here, 7 _law_at, 8 _law_end_here, 9 _law_hidden, 10 _law_less -/
def b159 : List S :=
   [.asg (.tp [1, 2, 3, 4]) (.call 136 [(.v 0)]),
    .asg (.nm 5) (.call 65 [(.call 39 [(.v 0), (.i 1)]), (.v 3)]),
    .asg (.nm 6) (.call 50 [(.call 64 [(.v 2), (.v 5)])]),
    .forr (.nm 7) .rng1 [(.blt .len [(.v 6)])]
    l159_0,
    .ret (.not (.call 158 [(.call 64 [(.v 2), (.v 5)]), (.v 5)]))]
def f159 : Fn := ⟨1, 11, b159⟩
end Ev
end
section
set_option maxRecDepth 100000
/-! the clean functions -/
namespace Ev
def l160_0 : List S :=
   [.asg (.nm 3) (.call 7 [(.ix (.v 0) (.i 2)), (.v 1)]),
    .asg (.nm 4) (.call 7 [(.ix (.v 0) (.i 2)), (.ix (.v 0) (.i 3))]),
    .ife (.and (.cmp .isnot (.v 3) .n) (.cmp .lt (.v 3) (.v 4)))
      [.ret (.tup [(.v 2), (.v 0)])]
      [],
    .ife (.cmp .eq (.ix (.v 0) (.i 0)) (.s [112, 114, 117, 110, 101, 100]))
      [.rai 4 []]
      [],
    .asg (.nm 5) (.call 8 [(.v 1), (.v 4)]),
    .app 2 (.tup [(.v 0), (.v 5)]),
    .asg (.nm 0) (.ite (.v 5) (.ix (.v 0) (.i 6)) (.ix (.v 0) (.i 5)))]
/-- way_to; 0 tree, 1 octets, 2 way, 3 own, 4 split, 5 right -/
def b160 : List S :=
   [.asg (.nm 2) (.lst []),
    .whl (.cmp .gt (.ix (.v 0) (.i 1)) (.i 1))
    l160_0,
    .ret (.tup [(.v 2), (.v 0)])]
def f160 : Fn := ⟨2, 6, b160⟩
def l161_0 : List S :=
   [.asg (.nm 10) (.ite (.v 9) (.ix (.v 8) (.i 5)) (.ix (.v 8) (.i 6))),
    .ife (.cmp .is (.v 7) .n)
      [.asg (.nm 7) (.v 10)]
      [.ife (.v 9)
        [.asg (.nm 7) (.call 47 [(.v 0), (.v 10), (.v 7)])]
        [.asg (.nm 7) (.call 47 [(.v 0), (.v 7), (.v 10)])]]]
/-- put; 0 hasher, 1 tree, 2 key, 3 spans, 4 octets, 5 way, 6 place, 7 new, 8 node, 9 right, 10 sibling -/
def b161 : List S :=
   [.ife (.cmp .is (.v 1) .n)
    [.ret (.ite (.v 3) (.call 44 [(.v 0), (.v 2), (.v 3)]) .n)]
    [],
    .asg (.nm 4) (.call 3 [(.v 2)]),
    .asg (.tp [5, 6]) (.call 160 [(.v 1), (.v 4)]),
    .asg (.nm 7) .n,
    .ife (.or (.cmp .ne (.ix (.v 6) (.i 2)) (.v 4)) (.cmp .ne (.ix (.v 6) (.i 3)) (.v 4)))
    [.ife (.not (.v 3))
      [.ret (.v 1)]
      [],
    .asg (.nm 7) (.call 48 [(.v 0), (.v 6), (.call 44 [(.v 0), (.v 2), (.v 3)])])]
    [.ife (.v 3)
      [.asg (.nm 7) (.call 44 [(.v 0), (.v 2), (.v 3)])]
      []],
    .forr (.tp [8, 9]) .revd [(.v 5)]
    l161_0,
    .ret (.v 7)]
def f161 : Fn := ⟨4, 11, b161⟩
def l162_0 : List S :=
   [.asg (.nm 2) (.call 161 [(.v 0), (.v 2), (.v 3), (.v 4)])]
/-- tree_of; 0 hasher, 1 rows, 2 tree, 3 key, 4 spans -/
def b162 : List S :=
   [.asg (.nm 2) .n,
    .forr (.tp [3, 4]) .seq [(.v 1)]
    l162_0,
    .ret (.v 2)]
def f162 : Fn := ⟨2, 5, b162⟩
/-- _law_world; 0 _law_script, 1 _law_hasher_here, 2 _law_rows_here, 3 _law_tree, 4 _law_row -/
def b163 : List S :=
   [.asg (.nm 1) (.call 38 [(.call 39 [(.v 0), (.i 0)])]),
    .asg (.nm 2) (.call 41 [(.v 0), (.i 2)]),
    .asg (.nm 3) (.call 162 [(.v 1), (.v 2)]),
    .ret (.tup [(.v 1), (.v 3), (.bin .add (.lc (.ix (.v 4) (.i 0)) (.nm 4) [4] .seq [(.v 2)] []) (.lst [(.tup [(.s [113])])])), (.call 903 [(.v 2)])])]
def f163 : Fn := ⟨1, 5, b163⟩
def l164_0 : List S :=
   [.asg (.nm 7) (.call 0 [(.bin .add (.bin .mul (.call 39 [(.v 0), (.i 1)]) (.i 3)) (.v 6)), (.i 9)]),
    .asg (.nm 8) (.ite (.cmp .gt (.bin .mod (.ix (.v 7) (.i 1)) (.i 3)) (.i 0)) (.ix (.v 3) (.bin .mod (.ix (.v 7) (.i 0)) (.blt .len [(.v 3)]))) (.call 5 [(.sl (.v 7) (some (.i 2)) none)])),
    .asg (.nm 9) (.ite (.cmp .eq (.bin .mod (.ix (.v 7) (.i 7)) (.i 3)) (.i 0)) (.tup []) (.call 40 [(.ix (.v 7) (.i 7)), (.ix (.v 7) (.i 8))])),
    .asg (.nm 10) (.call 155 [(.v 5), (.v 8)]),
    .tri
      [.asg (.nm 5) (.call 161 [(.v 1), (.v 5), (.v 8), (.v 9)])] 4 none
      [.ife (.not (.v 10))
        [.ret (.b false)]
        [],
      .cnt],
    .asg (.nm 2) (.call 161 [(.v 1), (.v 2), (.v 8), (.v 9)]),
    .ife (.or (.v 10) (.cmp .ne (.call 55 [(.v 1), (.v 5)]) (.call 55 [(.v 1), (.v 2)])))
      [.ret (.b false)]
      []]
/-- law; 0 _law_script, 1 _law_hasher_here, 2 _law_tree, 3 _law_keys, 4 _law_rows_here, 5 _law_told, 6 _law_k, 7 _law_draws_here, 8 _law_key_here, 9 _law_spans_here, 10 _law_unknown_here -/
def b164 : List S :=
   [.asg (.tp [1, 2, 3, 4]) (.call 163 [(.v 0)]),
    .asg (.nm 5) (.call 64 [(.v 2), (.call 65 [(.call 39 [(.v 0), (.i 1)]), (.v 3)])]),
    .forr (.nm 6) .rng1 [(.i 12)]
    l164_0,
    .ret (.b true)]
def f164 : Fn := ⟨1, 11, b164⟩
def l165_0 : List S :=
   [.app 2 (.tup [(.ix (.v 4) (.i 2)), (.ix (.v 4) (.i 3))])]
def l165_1 : List S :=
   [.forr (.tp [4, 5]) .seq [(.ix (.call 160 [(.v 0), (.call 3 [(.v 3)])]) (.i 0))]
      l165_0]
def l165_2 : List S :=
   [.pop (.nm 8) 7,
    .ife (.or (.cmp .ne (.ix (.v 8) (.i 0)) (.s [110, 111, 100, 101])) (.cmp .nin (.tup [(.ix (.v 8) (.i 2)), (.ix (.v 8) (.i 3))]) (.v 2)))
      [.asg (.nm 8) (.call 62 [(.v 8)])]
      [],
    .app 6 (.v 8),
    .ife (.cmp .eq (.ix (.v 8) (.i 0)) (.s [110, 111, 100, 101]))
      [.app 7 (.ix (.v 8) (.i 6)),
      .app 7 (.ix (.v 8) (.i 5))]
      []]
/-- prune_for; 0 tree, 1 keys, 2 passed, 3 key, 4 node, 5 right, 6 parts, 7 waiting, 8 part -/
def b165 : List S :=
   [.ife (.cmp .is (.v 0) .n)
    [.ret .n]
    [],
    .asg (.nm 2) (.lst []),
    .forr (.nm 3) .seq [(.v 1)]
    l165_1,
    .asg (.nm 6) (.lst []),
    .asg (.nm 7) (.lst [(.v 0)]),
    .whl (.v 7)
    l165_2,
    .ret (.call 63 [(.v 6)])]
def f165 : Fn := ⟨2, 9, b165⟩
/-- _law_unknown; 0 _law_tree, 1 _law_keys -/
def b166 : List S :=
   [.tri
    [.exp (.call 165 [(.call 64 [(.v 0), (.lst [])]), (.v 1)])] 4 none
    [.ret (.b true)],
    .ret (.b false)]
def f166 : Fn := ⟨2, 2, b166⟩
def l167_0 : List S :=
   [.asg (.nm 9) (.call 161 [(.v 1), (.v 9), (.v 11), (.v 12)])]
def l167_1 : List S :=
   [.asg (.nm 13) (.call 161 [(.v 1), (.v 13), (.v 11), (.v 12)])]
def l167_2 : List S :=
   [.asg (.nm 13) (.v 7),
      .forr (.tp [11, 12]) .seq [(.v 10)]
        l167_1,
      .ife (.cmp .ne (.call 55 [(.v 1), (.v 13)]) (.call 55 [(.v 1), (.v 9)]))
        [.ret (.b false)]
        []]
def l167_3 : List S :=
   [.asg (.nm 6) (.call 146 [(.bin .add (.call 39 [(.v 0), (.i 1)]) (.bin .mul (.i 1000) (.v 5))), (.v 3)]),
    .asg (.nm 7) (.call 165 [(.v 2), (.lc (.ix (.v 14) (.i 0)) (.nm 14) [14] .seq [(.v 6)] [])]),
    .ife (.cmp .ne (.call 55 [(.v 1), (.v 7)]) (.call 55 [(.v 1), (.v 2)]))
      [.ret (.b false)]
      [],
    .ife (.cmp .ne (.lc (.v 13) (.nm 13) [13] .seq [(.call 50 [(.v 7)])] [(.cmp .eq (.ix (.v 13) (.i 0)) (.s [108, 101, 97, 102]))]) (.lst []))
      [.ret (.b false)]
      [],
    .asg (.nm 8) (.call 147 [(.v 4), (.lc (.ix (.v 14) (.i 0)) (.nm 14) [14] .seq [(.v 6)] [])]),
    .ife (.or (.cmp .ne (.call 149 [(.call 50 [(.v 7)])]) (.v 8)) (.cmp .ne (.call 166 [(.v 2), (.lc (.ix (.v 14) (.i 0)) (.nm 14) [14] .seq [(.v 6)] [])]) (.cmp .eq (.sl (.v 8) none (some (.i 1))) (.lst [(.s [110, 111, 100, 101])]))))
      [.ret (.b false)]
      [],
    .asg (.nm 9) (.v 2),
    .forr (.tp [11, 12]) .seq [(.v 6)]
      l167_0,
    .forr (.nm 10) .seq [(.tup [(.v 6), (.rev (.v 6)), (.bin .add (.sl (.v 6) (some (.i 1)) none) (.sl (.v 6) none (some (.i 1))))])]
      l167_2]
/-- law; 0 _law_script, 1 _law_hasher_here, 2 _law_tree, 3 _law_keys, 4 _law_rows_here, 5 _law_k, 6 _law_puts_here, 7 _law_told, 8 _law_kept_here, 9 _law_due, 10 _law_order, 11 _law_key_here, 12 _law_spans_here, 13 _law_part, 14 _law_row -/
def b167 : List S :=
   [.asg (.tp [1, 2, 3, 4]) (.call 163 [(.v 0)]),
    .forr (.nm 5) .rng1 [(.i 4)]
    l167_3,
    .ret (.b true)]
def f167 : Fn := ⟨1, 15, b167⟩
end Ev
end
section
set_option maxRecDepth 100000
/-! the clean functions -/
namespace Ev
/-- TreeSource.entries; 0 self, 1 first, 2 last -/
def b168 : List S :=
   [.ret (.call 157 [(.fld (.v 0) 1 0), (.v 1), (.v 2)])]
def f168 : Fn := ⟨3, 3, b168⟩
def l169_0 : List S :=
   [.asg (.nm 11) (.lc (.v 14) (.nm 14) [14] .seq [(.v 4)] [(.chain .le .lt (.v 9) (.call 16 [(.ix (.v 14) (.i 0))]) (.v 10))]),
      .asg (.nm 12) (.cmp .ne (.lc (.v 7) (.nm 7) [7] .seq [(.v 6)] [(.not (.call 141 [(.ix (.v 7) (.i 2)), (.ix (.v 7) (.i 3)), (.lst [(.tup [(.v 9), (.v 10)])])]))]) (.lst [])),
      .tri
        [.asg (.nm 13) (.meth 1 168 (.new 1 [(.v 5)]) [(.v 9), (.v 10)])] 4 none
        [.ife (.not (.v 12))
          [.ret (.b false)]
          [],
        .cnt],
      .ife (.or (.v 12) (.or (.cmp .ne (.v 13) (.v 11)) (.cmp .ne (.call 157 [(.v 2), (.v 9), (.v 10)]) (.v 11))))
        [.ret (.b false)]
        []]
def l169_1 : List S :=
   [.forr (.tp [9, 10]) .seq [(.call 65 [(.bin .add (.bin .add (.bin .mul (.call 39 [(.v 0), (.i 1)]) (.i 7)) (.v 8)) (.i 1)), (.v 3)])]
      l169_0]
/-- law; 0 _law_script, 1 _law_hasher_here, 2 _law_tree, 3 _law_keys, 4 _law_rows_here, 5 _law_told, 6 _law_hidden, 7 _law_part, 8 _law_k, 9 _law_first, 10 _law_last, 11 _law_due, 12 _law_unknown, 13 _law_found, 14 _law_row -/
def b169 : List S :=
   [.asg (.tp [1, 2, 3, 4]) (.call 136 [(.v 0)]),
    .asg (.nm 5) (.call 64 [(.v 2), (.call 65 [(.call 39 [(.v 0), (.i 1)]), (.v 3)])]),
    .asg (.nm 6) (.lc (.v 7) (.nm 7) [7] .seq [(.call 50 [(.v 5)])] [(.cmp .eq (.ix (.v 7) (.i 0)) (.s [112, 114, 117, 110, 101, 100]))]),
    .forr (.nm 8) .rng1 [(.i 8)]
    l169_1,
    .ret (.b true)]
def f169 : Fn := ⟨1, 15, b169⟩
end Ev
end
section
set_option maxRecDepth 100000
/-! the clean functions -/
namespace Ev
def l170_0 : List S :=
   [.ife (.cmp .eq (.v 2) (.v 1))
      [.ret (.v 3)]
      []]
/-- columns_of; 0 schema, 1 name, 2 table, 3 columns -/
def b170 : List S :=
   [.forr (.tp [2, 3]) .seq [(.v 0)]
    l170_0,
    .ret .n]
def f170 : Fn := ⟨2, 4, b170⟩
/-- is_row; 0 columns, 1 row, 2 k -/
def b171 : List S :=
   [.ife (.or (.not (.isi (.v 1) .tup)) (.cmp .ne (.blt .len [(.v 1)]) (.blt .len [(.v 0)])))
    [.ret (.b false)]
    [],
    .ret (.blt .all [(.lc (.cmp .eq (.call 12 [(.ix (.v 1) (.v 2))]) (.ix (.ix (.v 0) (.v 2)) (.i 1))) (.nm 2) [2] .rng1 [(.blt .len [(.v 0)])] [])])]
def f171 : Fn := ⟨2, 3, b171⟩
/-- is_row_of; 0 schema, 1 table, 2 row, 3 found -/
def b172 : List S :=
   [.asg (.nm 3) (.call 170 [(.v 0), (.v 1)]),
    .ret (.and (.cmp .isnot (.v 3) .n) (.call 171 [(.v 3), (.v 2)]))]
def f172 : Fn := ⟨3, 4, b172⟩
def l173_0 : List S :=
   [.ife (.cmp .eq (.ix (.v 3) (.i 0)) (.v 1))
      [.ret (.v 2)]
      []]
/-- place_of; 0 columns, 1 name, 2 place, 3 column -/
def b173 : List S :=
   [.forr (.tp [2, 3]) .enum [(.v 0)]
    l173_0,
    .ret .n]
def f173 : Fn := ⟨2, 4, b173⟩
/-- fits; 0 schema, 1 key, 2 found, 3 place -/
def b174 : List S :=
   [.ife (.cmp .lt (.blt .len [(.v 1)]) (.i 2))
    [.ret (.b false)]
    [],
    .ife (.cmp .eq (.ix (.v 1) (.i 0)) (.s [116]))
    [.ret (.call 172 [(.v 0), (.ix (.v 1) (.i 1)), (.sl (.v 1) (some (.i 2)) none)])]
    [],
    .ife (.or (.cmp .ne (.ix (.v 1) (.i 0)) (.s [119])) (.or (.cmp .lt (.blt .len [(.v 1)]) (.i 4)) (.not (.call 172 [(.v 0), (.ix (.v 1) (.i 1)), (.sl (.v 1) (some (.i 4)) none)]))))
    [.ret (.b false)]
    [],
    .asg (.nm 2) (.call 170 [(.v 0), (.ix (.v 1) (.i 1))]),
    .asg (.nm 3) (.call 173 [(.v 2), (.ix (.v 1) (.i 2))]),
    .ret (.and (.cmp .isnot (.v 3) .n) (.and (.cmp .eq (.ix (.ix (.v 2) (.v 3)) (.i 1)) (.s [116, 101, 120, 116])) (.call 29 [(.ix (.v 1) (.i 3))])))]
def f174 : Fn := ⟨2, 4, b174⟩
/-- _law_fits; 0 _law_key, 1 _law_tables, 2 _law_columns, 3 _law_row, 4 _law_kinds, 5 _law_value, 6 _law_sign -/
def b175 : List S :=
   [.asg (.nm 1) (.dsp [[110, 111, 116, 101, 115], [116, 97, 103, 115]] [(.lst [(.s [116, 101, 120, 116]), (.s [110, 117, 109, 98, 101, 114])]), (.lst [(.s [110, 117, 109, 98, 101, 114]), (.s [116, 101, 120, 116])])]),
    .asg (.nm 2) (.dsp [[110, 111, 116, 101, 115], [116, 97, 103, 115]] [(.s [116, 101, 120, 116]), (.s [108, 97, 98, 101, 108])]),
    .asg (.nm 3) (.ite (.cmp .eq (.ix (.v 0) (.i 0)) (.s [116])) (.sl (.v 0) (some (.i 2)) none) (.sl (.v 0) (some (.i 4)) none)),
    .ife (.or (.cmp .nin (.ix (.v 0) (.i 0)) (.tup [(.s [116]), (.s [119])])) (.or (.cmp .lt (.blt .len [(.v 0)]) (.i 2)) (.cmp .nin (.ix (.v 0) (.i 1)) (.v 1))))
    [.ret (.b false)]
    [],
    .asg (.nm 4) (.lc (.ite (.isi (.v 5) .str) (.s [116, 101, 120, 116]) (.s [110, 117, 109, 98, 101, 114])) (.nm 5) [5] .seq [(.v 3)] []),
    .ife (.cmp .ne (.v 4) (.ix (.v 1) (.ix (.v 0) (.i 1))))
    [.ret (.b false)]
    [],
    .ife (.cmp .eq (.ix (.v 0) (.i 0)) (.s [116]))
    [.ret (.b true)]
    [],
    .ife (.or (.cmp .ne (.ix (.v 0) (.i 2)) (.ix (.v 2) (.ix (.v 0) (.i 1)))) (.or (.not (.isi (.ix (.v 0) (.i 3)) .str)) (.cmp .eq (.ix (.v 0) (.i 3)) (.s []))))
    [.ret (.b false)]
    [],
    .ret (.cmp .eq (.lc (.v 6) (.nm 6) [6] .seq [(.ix (.v 0) (.i 3))] [(.cmp .nin (.v 6) (.s [97, 98, 99, 100, 101, 102, 103, 104, 105, 106, 107, 108, 109, 110, 111, 112, 113, 114, 115, 116, 117, 118, 119, 120, 121, 122, 48, 49, 50, 51, 52, 53, 54, 55, 56, 57]))]) (.lst []))]
def f175 : Fn := ⟨1, 7, b175⟩
def l176_0 : List S :=
   [.asg (.nm 3) (.call 0 [(.v 2), (.i 9)]),
    .asg (.nm 4) (.lst [(.s [111, 108, 100]), (.s [120, 49]), (.s []), (.s [79, 108, 100]), (.s [97, 32, 98]), (.s [116, 101])]),
    .asg (.nm 5) (.lst [(.tup [(.s [116]), (.s [110, 111, 116, 101, 115]), (.s [111, 108, 100]), (.i 1)]), (.tup [(.s [116]), (.s [116, 97, 103, 115]), (.i 1), (.s [97])]), (.tup [(.s [119]), (.s [110, 111, 116, 101, 115]), (.s [116, 101, 120, 116]), (.ix (.v 4) (.bin .mod (.ix (.v 3) (.i 1)) (.i 6))), (.s [111, 108, 100, 32, 109, 105, 108, 108]), (.i 1)])]),
    .asg (.nm 5) (.bin .add (.v 5) (.lst [(.tup [(.s [119]), (.s [116, 97, 103, 115]), (.s [108, 97, 98, 101, 108]), (.ix (.v 4) (.bin .mod (.ix (.v 3) (.i 1)) (.i 6))), (.i 1), (.s [97])]), (.tup [(.s [119]), (.s [110, 111, 116, 101, 115]), (.s [115, 105, 122, 101]), (.s [111, 108, 100]), (.s [111, 108, 100]), (.i 1)])])),
    .asg (.nm 6) (.ix (.v 5) (.bin .mod (.ix (.v 3) (.i 0)) (.i 5))),
    .asg (.nm 7) (.bin .mod (.ix (.v 3) (.i 2)) (.blt .len [(.v 6)])),
    .asg (.nm 8) (.ix (.lst [(.s [116]), (.s [119]), (.s [110, 111, 116, 101, 115]), (.s [116, 97, 103, 115]), (.s [116, 101, 120, 116]), (.s [108, 97, 98, 101, 108]), (.i 1), (.i 0), (.s [111, 108, 100]), (.s [120]), (.i 999999)]) (.bin .mod (.ix (.v 3) (.i 3)) (.i 11))),
    .ife (.cmp .eq (.bin .mod (.ix (.v 3) (.i 4)) (.i 4)) (.i 1))
      [.asg (.nm 6) (.bin .add (.bin .add (.sl (.v 6) none (some (.v 7))) (.tup [(.v 8)])) (.sl (.v 6) (some (.bin .add (.v 7) (.i 1))) none))]
      [],
    .ife (.cmp .eq (.bin .mod (.ix (.v 3) (.i 4)) (.i 4)) (.i 2))
      [.asg (.nm 6) (.bin .add (.sl (.v 6) none (some (.v 7))) (.sl (.v 6) (some (.bin .add (.v 7) (.i 1))) none))]
      [],
    .ife (.cmp .eq (.bin .mod (.ix (.v 3) (.i 4)) (.i 4)) (.i 3))
      [.asg (.nm 6) (.bin .add (.bin .add (.sl (.v 6) none (some (.v 7))) (.tup [(.v 8)])) (.sl (.v 6) (some (.v 7)) none))]
      [],
    .ife (.and (.v 6) (.or (.cmp .ne (.call 174 [(.v 1), (.v 6)]) (.call 175 [(.v 6)])) (.not (.call 13 [(.v 6)]))))
      [.ret (.b false)]
      []]
/-- law; 0 _law_script, 1 _law_schema, 2 _law_cell, 3 _law_draws_here, 4 _law_words, 5 _law_keys, 6 _law_key, 7 _law_at, 8 _law_new -/
def b176 : List S :=
   [.asg (.nm 1) (.tup [(.tup [(.s [110, 111, 116, 101, 115]), (.tup [(.tup [(.s [116, 101, 120, 116]), (.s [116, 101, 120, 116])]), (.tup [(.s [115, 105, 122, 101]), (.s [110, 117, 109, 98, 101, 114])])])]), (.tup [(.s [116, 97, 103, 115]), (.tup [(.tup [(.s [115, 105, 122, 101]), (.s [110, 117, 109, 98, 101, 114])]), (.tup [(.s [108, 97, 98, 101, 108]), (.s [116, 101, 120, 116])])])])]),
    .forr (.nm 2) .seq [(.v 0)]
    l176_0,
    .ret (.b true)]
def f176 : Fn := ⟨1, 9, b176⟩
end Ev
end
section
set_option maxRecDepth 100000
set_option maxHeartbeats 1000000
/-! the equations of functions 176 -/
namespace Ev
def j176_2 : List S :=
   [.ife (.and (.v 6) (.or (.cmp .ne (.call 174 [(.v 1), (.v 6)]) (.call 175 [(.v 6)])) (.not (.call 13 [(.v 6)]))))
    [.ret (.b false)]
    []]
def J176_2 (P : Pg) (cq : CallQ) (fl : Nat) {β : Type} (kn kb kc : List D → Q β) (kr : D → Q β) (ρ : List D) : Q β := cSs P cq fl j176_2 β ρ kn kb kc kr
theorem J176_2_eq {P : Pg} {cq : CallQ} {fl : Nat} {β : Type} {kn kb kc : List D → Q β} {kr : D → Q β} (script schema cell draws words keys key at_ new : D) : J176_2 P cq fl kn kb kc kr [script, schema, cell, draws, words, keys, key, at_, new] = ((q1 (truD key)).bind fun b => if b then ((cq 174 [schema, key]).bind fun t26 => (cq 175 [key]).bind fun t27 => q1 (cmpD .ne t26 t27)).bind fun b => if b then .ok true else ((cq 13 [key]).bind fun a28 => q1 (truD a28)).bind fun b => .ok (!b) else .ok false).bind fun b => if b then kr (.bl false) else kn [script, schema, cell, draws, words, keys, key, at_, new] := by kernel_rfl
def j176_1 : List S :=
   [.ife (.cmp .eq (.bin .mod (.ix (.v 3) (.i 4)) (.i 4)) (.i 3))
    [.asg (.nm 6) (.bin .add (.bin .add (.sl (.v 6) none (some (.v 7))) (.tup [(.v 8)])) (.sl (.v 6) (some (.v 7)) none))]
    [],
    .ife (.and (.v 6) (.or (.cmp .ne (.call 174 [(.v 1), (.v 6)]) (.call 175 [(.v 6)])) (.not (.call 13 [(.v 6)]))))
    [.ret (.b false)]
    []]
def J176_1 (P : Pg) (cq : CallQ) (fl : Nat) {β : Type} (kn kb kc : List D → Q β) (kr : D → Q β) (ρ : List D) : Q β := cSs P cq fl j176_1 β ρ kn kb kc kr
theorem J176_1_eq {P : Pg} {cq : CallQ} {fl : Nat} {β : Type} {kn kb kc : List D → Q β} {kr : D → Q β} (script schema cell draws words keys key at_ new : D) : J176_1 P cq fl kn kb kc kr [script, schema, cell, draws, words, keys, key, at_, new] = (((q1 (ixD draws (.int 4))).bind fun t29 => q1 (rdo (binD .mod t29 (.int 4)))).bind fun t30 => q1 (cmpD .eq t30 (.int 3))).bind fun b => if b then (((((q1 (iD at_)).bind fun i => .ok (some i)).bind fun i31 => q1 (rdo (slD key none i31))).bind fun t32 => q1 (rdo (binD .add t32 (.tup [new])))).bind fun t33 => (((q1 (iD at_)).bind fun i => .ok (some i)).bind fun i34 => q1 (rdo (slD key i34 none))).bind fun t35 => q1 (rdo (binD .add t33 t35))).bind fun key36 => J176_2 P cq fl kn kb kc kr [script, schema, cell, draws, words, keys, key36, at_, new] else J176_2 P cq fl kn kb kc kr [script, schema, cell, draws, words, keys, key, at_, new] := by kernel_rfl
def j176_0 : List S :=
   [.ife (.cmp .eq (.bin .mod (.ix (.v 3) (.i 4)) (.i 4)) (.i 2))
    [.asg (.nm 6) (.bin .add (.sl (.v 6) none (some (.v 7))) (.sl (.v 6) (some (.bin .add (.v 7) (.i 1))) none))]
    [],
    .ife (.cmp .eq (.bin .mod (.ix (.v 3) (.i 4)) (.i 4)) (.i 3))
    [.asg (.nm 6) (.bin .add (.bin .add (.sl (.v 6) none (some (.v 7))) (.tup [(.v 8)])) (.sl (.v 6) (some (.v 7)) none))]
    [],
    .ife (.and (.v 6) (.or (.cmp .ne (.call 174 [(.v 1), (.v 6)]) (.call 175 [(.v 6)])) (.not (.call 13 [(.v 6)]))))
    [.ret (.b false)]
    []]
def J176_0 (P : Pg) (cq : CallQ) (fl : Nat) {β : Type} (kn kb kc : List D → Q β) (kr : D → Q β) (ρ : List D) : Q β := cSs P cq fl j176_0 β ρ kn kb kc kr
theorem J176_0_eq {P : Pg} {cq : CallQ} {fl : Nat} {β : Type} {kn kb kc : List D → Q β} {kr : D → Q β} (script schema cell draws words keys key at_ new : D) : J176_0 P cq fl kn kb kc kr [script, schema, cell, draws, words, keys, key, at_, new] = (((q1 (ixD draws (.int 4))).bind fun t37 => q1 (rdo (binD .mod t37 (.int 4)))).bind fun t38 => q1 (cmpD .eq t38 (.int 2))).bind fun b => if b then ((((q1 (iD at_)).bind fun i => .ok (some i)).bind fun i39 => q1 (rdo (slD key none i39))).bind fun t40 => (((q1 (rdo (binD .add at_ (.int 1)))).bind fun t42 => (q1 (iD t42)).bind fun i => .ok (some i)).bind fun i41 => q1 (rdo (slD key i41 none))).bind fun t43 => q1 (rdo (binD .add t40 t43))).bind fun key44 => J176_1 P cq fl kn kb kc kr [script, schema, cell, draws, words, keys, key44, at_, new] else J176_1 P cq fl kn kb kc kr [script, schema, cell, draws, words, keys, key, at_, new] := by kernel_rfl
def y176_0 : List S :=
   [.asg (.nm 3) (.call 0 [(.v 2), (.i 9)]),
  .asg (.nm 4) (.lst [(.s [111, 108, 100]), (.s [120, 49]), (.s []), (.s [79, 108, 100]), (.s [97, 32, 98]), (.s [116, 101])]),
  .asg (.nm 5) (.lst [(.tup [(.s [116]), (.s [110, 111, 116, 101, 115]), (.s [111, 108, 100]), (.i 1)]), (.tup [(.s [116]), (.s [116, 97, 103, 115]), (.i 1), (.s [97])]), (.tup [(.s [119]), (.s [110, 111, 116, 101, 115]), (.s [116, 101, 120, 116]), (.ix (.v 4) (.bin .mod (.ix (.v 3) (.i 1)) (.i 6))), (.s [111, 108, 100, 32, 109, 105, 108, 108]), (.i 1)])]),
  .asg (.nm 5) (.bin .add (.v 5) (.lst [(.tup [(.s [119]), (.s [116, 97, 103, 115]), (.s [108, 97, 98, 101, 108]), (.ix (.v 4) (.bin .mod (.ix (.v 3) (.i 1)) (.i 6))), (.i 1), (.s [97])]), (.tup [(.s [119]), (.s [110, 111, 116, 101, 115]), (.s [115, 105, 122, 101]), (.s [111, 108, 100]), (.s [111, 108, 100]), (.i 1)])])),
  .asg (.nm 6) (.ix (.v 5) (.bin .mod (.ix (.v 3) (.i 0)) (.i 5))),
  .asg (.nm 7) (.bin .mod (.ix (.v 3) (.i 2)) (.blt .len [(.v 6)])),
  .asg (.nm 8) (.ix (.lst [(.s [116]), (.s [119]), (.s [110, 111, 116, 101, 115]), (.s [116, 97, 103, 115]), (.s [116, 101, 120, 116]), (.s [108, 97, 98, 101, 108]), (.i 1), (.i 0), (.s [111, 108, 100]), (.s [120]), (.i 999999)]) (.bin .mod (.ix (.v 3) (.i 3)) (.i 11))),
  .ife (.cmp .eq (.bin .mod (.ix (.v 3) (.i 4)) (.i 4)) (.i 1))
    [.asg (.nm 6) (.bin .add (.bin .add (.sl (.v 6) none (some (.v 7))) (.tup [(.v 8)])) (.sl (.v 6) (some (.bin .add (.v 7) (.i 1))) none))]
    [],
  .ife (.cmp .eq (.bin .mod (.ix (.v 3) (.i 4)) (.i 4)) (.i 2))
    [.asg (.nm 6) (.bin .add (.sl (.v 6) none (some (.v 7))) (.sl (.v 6) (some (.bin .add (.v 7) (.i 1))) none))]
    [],
  .ife (.cmp .eq (.bin .mod (.ix (.v 3) (.i 4)) (.i 4)) (.i 3))
    [.asg (.nm 6) (.bin .add (.bin .add (.sl (.v 6) none (some (.v 7))) (.tup [(.v 8)])) (.sl (.v 6) (some (.v 7)) none))]
    [],
  .ife (.and (.v 6) (.or (.cmp .ne (.call 174 [(.v 1), (.v 6)]) (.call 175 [(.v 6)])) (.not (.call 13 [(.v 6)]))))
    [.ret (.b false)]
    []]
def L176_0 (P : Pg) (cq : CallQ) (fl : Nat) {β : Type} (kr : D → Q β) (k : List D → Q β) (its ρ : List D) : Q β := pfor (.nm 2) (fun ρ kn kb kc => cSs P cq fl y176_0 β ρ kn kb kc kr) k its ρ
theorem L176_0_nil {P : Pg} {cq : CallQ} {fl : Nat} {β : Type} {kr : D → Q β} {k : List D → Q β} {ρ : List D} : L176_0 P cq fl kr k [] ρ = k ρ := rfl
theorem L176_0_cons {P : Pg} {cq : CallQ} {fl : Nat} {β : Type} {kr : D → Q β} {k : List D → Q β} (it : D) (its : List D) (script schema cell draws words keys key at_ new : D) : L176_0 P cq fl kr k (it :: its) [script, schema, cell, draws, words, keys, key, at_, new] = (cq 0 [it, (.int 9)]).bind fun draws1 => ((((((((((((q1 (ixD draws1 (.int 1))).bind fun t2 => q1 (rdo (binD .mod t2 (.int 6)))).bind fun t3 => q1 (ixD (.lst [(.str [111, 108, 100]), (.str [120, 49]), (.str []), (.str [79, 108, 100]), (.str [97, 32, 98]), (.str [116, 101])]) t3)).bind fun v5 => .ok [v5, (.str [111, 108, 100, 32, 109, 105, 108, 108]), (.int 1)]).bind fun vs => .ok ((.str [116, 101, 120, 116]) :: vs)).bind fun vs => .ok ((.str [110, 111, 116, 101, 115]) :: vs)).bind fun vs => .ok ((.str [119]) :: vs)).bind fun vs4 => .ok (.tup vs4)).bind fun v7 => .ok [v7]).bind fun vs => .ok ((.tup [(.str [116]), (.str [116, 97, 103, 115]), (.int 1), (.str [97])]) :: vs)).bind fun vs => .ok ((.tup [(.str [116]), (.str [110, 111, 116, 101, 115]), (.str [111, 108, 100]), (.int 1)]) :: vs)).bind fun vs6 => .ok (.lst vs6)).bind fun keys8 => (((((((((((q1 (ixD draws1 (.int 1))).bind fun t9 => q1 (rdo (binD .mod t9 (.int 6)))).bind fun t10 => q1 (ixD (.lst [(.str [111, 108, 100]), (.str [120, 49]), (.str []), (.str [79, 108, 100]), (.str [97, 32, 98]), (.str [116, 101])]) t10)).bind fun v12 => .ok [v12, (.int 1), (.str [97])]).bind fun vs => .ok ((.str [108, 97, 98, 101, 108]) :: vs)).bind fun vs => .ok ((.str [116, 97, 103, 115]) :: vs)).bind fun vs => .ok ((.str [119]) :: vs)).bind fun vs11 => .ok (.tup vs11)).bind fun v14 => .ok [v14, (.tup [(.str [119]), (.str [110, 111, 116, 101, 115]), (.str [115, 105, 122, 101]), (.str [111, 108, 100]), (.str [111, 108, 100]), (.int 1)])]).bind fun vs13 => .ok (.lst vs13)).bind fun t15 => q1 (rdo (binD .add keys8 t15))).bind fun keys16 => (((q1 (ixD draws1 (.int 0))).bind fun t17 => q1 (rdo (binD .mod t17 (.int 5)))).bind fun t18 => q1 (ixD keys16 t18)).bind fun key19 => ((q1 (ixD draws1 (.int 2))).bind fun t20 => (q1 (rdo (bltD .len [key19]))).bind fun t21 => q1 (rdo (binD .mod t20 t21))).bind fun at_22 => (((q1 (ixD draws1 (.int 3))).bind fun t23 => q1 (rdo (binD .mod t23 (.int 11)))).bind fun t24 => q1 (ixD (.lst [(.str [116]), (.str [119]), (.str [110, 111, 116, 101, 115]), (.str [116, 97, 103, 115]), (.str [116, 101, 120, 116]), (.str [108, 97, 98, 101, 108]), (.int 1), (.int 0), (.str [111, 108, 100]), (.str [120]), (.int 999999)]) t24)).bind fun new25 => (((q1 (ixD draws1 (.int 4))).bind fun t45 => q1 (rdo (binD .mod t45 (.int 4)))).bind fun t46 => q1 (cmpD .eq t46 (.int 1))).bind fun b => if b then (((((q1 (iD at_22)).bind fun i => .ok (some i)).bind fun i47 => q1 (rdo (slD key19 none i47))).bind fun t48 => q1 (rdo (binD .add t48 (.tup [new25])))).bind fun t49 => (((q1 (rdo (binD .add at_22 (.int 1)))).bind fun t51 => (q1 (iD t51)).bind fun i => .ok (some i)).bind fun i50 => q1 (rdo (slD key19 i50 none))).bind fun t52 => q1 (rdo (binD .add t49 t52))).bind fun key53 => J176_0 P cq fl (L176_0 P cq fl kr k its) k (L176_0 P cq fl kr k its) kr [script, schema, it, draws1, (.lst [(.str [111, 108, 100]), (.str [120, 49]), (.str []), (.str [79, 108, 100]), (.str [97, 32, 98]), (.str [116, 101])]), keys16, key53, at_22, new25] else J176_0 P cq fl (L176_0 P cq fl kr k its) k (L176_0 P cq fl kr k its) kr [script, schema, it, draws1, (.lst [(.str [111, 108, 100]), (.str [120, 49]), (.str []), (.str [79, 108, 100]), (.str [97, 32, 98]), (.str [116, 101])]), keys16, key19, at_22, new25] := by kernel_rfl
def j176_3 : List S :=
   [.ret (.b true)]
def J176_3 (P : Pg) (cq : CallQ) (fl : Nat) {β : Type} (kn kb kc : List D → Q β) (kr : D → Q β) (ρ : List D) : Q β := cSs P cq fl j176_3 β ρ kn kb kc kr
theorem J176_3_eq {P : Pg} {cq : CallQ} {fl : Nat} {β : Type} {kn kb kc : List D → Q β} {kr : D → Q β} (script schema cell draws words keys key at_ new : D) : J176_3 P cq fl kn kb kc kr [script, schema, cell, draws, words, keys, key, at_, new] = kr (.bl true) := by kernel_rfl
/-- law -/
theorem B176 {P : Pg} {cq : CallQ} {fl : Nat} {β : Type} {kn kb kc : List D → Q β} {kr : D → Q β} (script : D) : cSs P cq fl b176 β [script, .non, .non, .non, .non, .non, .non, .non, .non] kn kb kc kr = (q1 (wkD .seq [script])).bind fun its54 => L176_0 P cq fl kr (J176_3 P cq fl kn kb kc kr) its54 [script, (.tup [(.tup [(.str [110, 111, 116, 101, 115]), (.tup [(.tup [(.str [116, 101, 120, 116]), (.str [116, 101, 120, 116])]), (.tup [(.str [115, 105, 122, 101]), (.str [110, 117, 109, 98, 101, 114])])])]), (.tup [(.str [116, 97, 103, 115]), (.tup [(.tup [(.str [115, 105, 122, 101]), (.str [110, 117, 109, 98, 101, 114])]), (.tup [(.str [108, 97, 98, 101, 108]), (.str [116, 101, 120, 116])])])])]), .non, .non, .non, .non, .non, .non, .non] := by kernel_rfl
theorem F176 {X : Px} (h : New X 176 f176) (n : Nat) (script : D) : pc X (n + 1) 176 [script] = cSs X.P (pc X n) fuel b176 D [script, .non, .non, .non, .non, .non, .non, .non, .non] (Kn X 176) Kst Kst .ok := pc_new h.fns h.old h.kp rfl

end Ev
end
section
set_option maxRecDepth 100000
set_option maxHeartbeats 1000000
/-! L32a: law k32: the keys that are asked for. -/
namespace Ev
def words32 : List D := [.str [111, 108, 100], .str [120, 49], .str [], .str [79, 108, 100], .str [97, 32, 98], .str [116, 101]]
def news32 : List D := [.str [116], .str [119], .str [110, 111, 116, 101, 115], .str [116, 97, 103, 115], .str [116, 101, 120, 116], .str [108, 97, 98, 101, 108], .int 1, .int 0, .str [111, 108, 100], .str [120], .int 999999]
def key0 : List D := [.str [116], .str [110, 111, 116, 101, 115], .str [111, 108, 100], .int 1]
def key1 : List D := [.str [116], .str [116, 97, 103, 115], .int 1, .str [97]]
def key2 (w : D) : List D := [.str [119], .str [110, 111, 116, 101, 115], .str [116, 101, 120, 116], w, .str [111, 108, 100, 32, 109, 105, 108, 108], .int 1]
def key3 (w : D) : List D := [.str [119], .str [116, 97, 103, 115], .str [108, 97, 98, 101, 108], w, .int 1, .str [97]]
def key4 : List D := [.str [119], .str [110, 111, 116, 101, 115], .str [115, 105, 122, 101], .str [111, 108, 100], .str [111, 108, 100], .int 1]
def five32 (w : D) : List (List D) := [key0, key1, key2 w, key3 w, key4]
def way32 (b : List D) (t : Nat) (n : D) : List (List D) := [b, b.take t ++ [n] ++ b.drop (t + 1), b.take t ++ b.drop (t + 1), b.take t ++ [n] ++ b.drop t]
def some32 (b : List D) : List (List D) := b :: (List.range b.length).flatMap fun t => (b.take t ++ b.drop (t + 1)) :: news32.flatMap fun n => [b.take t ++ [n] ++ b.drop (t + 1), b.take t ++ [n] ++ b.drop t]
def keys32 : List (List D) := words32.flatMap fun w => (five32 w).flatMap some32
theorem way_some {b : List D} {t : Nat} {n : D} (ht : t < b.length) (hn : n ∈ news32) : ∀ x ∈ way32 b t n, x ∈ some32 b := fun x hx => by
  have ht := List.mem_range.mpr ht
  unfold way32 at hx
  unfold some32
  simp only [List.mem_cons, List.not_mem_nil, or_false] at hx
  rcases hx with rfl | rfl | rfl | rfl
  · exact List.mem_cons_self
  · exact List.mem_cons_of_mem _ (List.mem_flatMap.mpr ⟨t, ht, List.mem_cons_of_mem _ (List.mem_flatMap.mpr ⟨n, hn, by simp⟩)⟩)
  · exact List.mem_cons_of_mem _ (List.mem_flatMap.mpr ⟨t, ht, List.mem_cons_self⟩)
  · exact List.mem_cons_of_mem _ (List.mem_flatMap.mpr ⟨t, ht, List.mem_cons_of_mem _ (List.mem_flatMap.mpr ⟨n, hn, by simp⟩)⟩)
theorem keys_all {p : List D → Bool} (h0 : (some32 key0).all p = true) (h1 : (some32 key1).all p = true) (h4 : (some32 key4).all p = true) (h2 : ∀ w ∈ words32, (some32 (key2 w)).all p = true) (h3 : ∀ w ∈ words32, (some32 (key3 w)).all p = true) : ∀ k ∈ keys32, p k = true := fun k hk => by
  obtain ⟨w, hw, hk⟩ := List.mem_flatMap.mp hk
  obtain ⟨b, hb, hk⟩ := List.mem_flatMap.mp hk
  unfold five32 at hb
  simp only [List.mem_cons, List.not_mem_nil, or_false] at hb
  rcases hb with rfl | rfl | rfl | rfl | rfl
  · exact List.all_eq_true.mp h0 k hk
  · exact List.all_eq_true.mp h1 k hk
  · exact List.all_eq_true.mp (h2 w hw) k hk
  · exact List.all_eq_true.mp (h3 w hw) k hk
  · exact List.all_eq_true.mp h4 k hk
def sch32 : D := .tup [(.tup [(.str [110, 111, 116, 101, 115]), (.tup [(.tup [(.str [116, 101, 120, 116]), (.str [116, 101, 120, 116])]), (.tup [(.str [115, 105, 122, 101]), (.str [110, 117, 109, 98, 101, 114])])])]), (.tup [(.str [116, 97, 103, 115]), (.tup [(.tup [(.str [115, 105, 122, 101]), (.str [110, 117, 109, 98, 101, 114])]), (.tup [(.str [108, 97, 98, 101, 108]), (.str [116, 101, 120, 116])])])])]
def okK (cq : CallQ) (k : List D) : Bool := match cq 174 [sch32, .tup k], cq 175 [.tup k] with
  | .ok (.bl a), .ok (.bl b) => a == b && !k.isEmpty && wv (.tup k) && isKeyB (.tup k)
  | _, _ => false
theorem okK_iff {cq : CallQ} {k : List D} (h : okK cq k = true) : ∃ b, cq 174 [sch32, .tup k] = .ok (.bl b) ∧ cq 175 [.tup k] = .ok (.bl b) ∧ wv (.tup k) = true ∧ isKeyB (.tup k) = true ∧ k ≠ [] := by
  unfold okK at h
  split at h
  · rename_i a b e1 e2
    simp only [Bool.and_eq_true, beq_iff_eq, Bool.not_eq_true', List.isEmpty_eq_false_iff] at h
    obtain ⟨⟨⟨rfl, h2⟩, h3⟩, h4⟩ := h
    exact ⟨_, e1, e2, h3, h4, h2⟩
  · cases h
theorem ix_get {xs : List D} {i : Nat} (h : i < xs.length) : ∃ x ∈ xs, ixD (.lst xs) (.int (i : Nat)) = some x := by
  refine ⟨xs[i], List.getElem_mem h, ?_⟩
  have e : ixN xs.length (i : Int) = some i := by
    simp only [ixN]
    rw [if_pos (by omega), if_pos (by omega)]
    rfl
  simp only [ixD, atI, e, Option.bind_some]
  simp [h]
theorem ix_gett {xs : List (List D)} {i : Nat} (h : i < xs.length) : ∃ x ∈ xs, ixD (.lst (xs.map .tup)) (.int (i : Nat)) = some (.tup x) := by
  obtain ⟨y, hy, e⟩ := ix_get (xs := xs.map D.tup) (i := i) (by rw [List.length_map]; exact h)
  obtain ⟨x, hx, rfl⟩ := List.mem_map.mp hy
  exact ⟨x, hx, e⟩
theorem mod_n {a : Int} {k : Nat} (hk : 0 < k) : ∃ n : Nat, n < k ∧ binD .mod (.int a) (.int (k : Nat)) = some (.d (.int (n : Nat))) := by
  have h0 : 0 ≤ a % (k : Int) := Int.emod_nonneg _ (by omega)
  have h1 : a % (k : Int) < k := Int.emod_lt_of_pos _ (by omega)
  refine ⟨(a % (k : Int)).toNat, by omega, ?_⟩
  rw [mod_i, if_pos (by omega), Int.toNat_of_nonneg h0]
structure HasL32 (X : Px) : Prop where
  hK : HasK X.P
  o13 : Old X 13
  p0 : X.P.fns 0 = some f0
  o0 : Old X 0
  n176 : New X 176 f176
section
variable {X : Px} {β : Type}
theorem z0 (H : HasL32 X) (c : Int) (k : Nat) (hk : k ≤ 1000) {m : Nat} (hm : 1 ≤ m) : ∃ l : List Int, l.length = k ∧ rng l ∧ pc X m 0 [.int c, .int k] = .ok (lsI l) := by
  obtain ⟨l, h1, h2, e⟩ := call0r (s := []) H.p0 c k hk hm
  exact ⟨l, h1, h2, H.o0.own (by omega) e⟩
theorem len_five {w : D} {b : List D} (h : b ∈ five32 w) : 1 ≤ b.length ∧ b.length ≤ 6 := by
  unfold five32 at h
  simp only [List.mem_cons, List.not_mem_nil, or_false] at h
  rcases h with rfl | rfl | rfl | rfl | rfl <;> simp [key0, key1, key2, key3, key4]
theorem fin32 (H : HasL32 X) {m : Nat} (hm : 3 ≤ m) (chk : ∀ k ∈ keys32, okK (pc X m) k = true) {k : List D} (hk : k ∈ keys32) {kn kb kc : List D → Q β} {kr : D → Q β} {s c d w ks a n : D} :
    J176_2 X.P (pc X m) fuel kn kb kc kr [s, sch32, c, d, w, ks, .tup k, a, n] = kn [s, sch32, c, d, w, ks, .tup k, a, n] := by
  obtain ⟨b, e1, e2, wk, ik, ne⟩ := okK_iff (chk k hk)
  have e3 : pc X m 13 [.tup k] = .ok (.bl true) := by
    have := H.o13.d (by omega) (call13 (s := []) H.hK wk hm)
    rw [this, ik]
  have tr : truD (.tup k) = some true := by
    cases k with
    | nil => exact absurd rfl ne
    | cons _ _ => rfl
  have nb : cmpD .ne (.bl b) (.bl b) = some false := by cases b <;> decide +kernel
  rw [J176_2_eq]
  simp only [tr, q1_some, Q.bind_ok, if_true, e1, e2, nb, Bool.false_eq_true, if_false, e3, tru_b, Bool.not_true]
theorem turn176 (H : HasL32 X) {m : Nat} (hm : 3 ≤ m) (chk : ∀ k ∈ keys32, okK (pc X m) k = true) {kr : D → Q β} {k : List D → Q β} {s : D} (c : Int) (its : List D) (c0 d w ks ky a n : D) :
    ∃ d' w' ks' ky' a' n', L176_0 X.P (pc X m) fuel kr k (.int c :: its) [s, sch32, c0, d, w, ks, ky, a, n] = L176_0 X.P (pc X m) fuel kr k its [s, sch32, .int c, d', w', ks', ky', a', n'] := by
  obtain ⟨l, hl, _, e0⟩ := z0 H c 9 (by decide) (m := m) (by omega)
  have e0 : pc X m 0 [.int c, .int 9] = .ok (lsI l) := e0
  match l, hl with
  | [x0, x1, x2, x3, x4, x5, x6, x7, x8], _ =>
  generalize hdr : lsI [x0, x1, x2, x3, x4, x5, x6, x7, x8] = dr at *
  have i0 : ixD dr (.int 0) = some (.int x0) := by rw [← hdr]; rfl
  have i1 : ixD dr (.int 1) = some (.int x1) := by rw [← hdr]; rfl
  have i2 : ixD dr (.int 2) = some (.int x2) := by rw [← hdr]; rfl
  have i3 : ixD dr (.int 3) = some (.int x3) := by rw [← hdr]; rfl
  have i4 : ixD dr (.int 4) = some (.int x4) := by rw [← hdr]; rfl
  obtain ⟨n1, l1, m1⟩ := mod_n (a := x1) (k := 6) (by decide)
  obtain ⟨n0, l0, m0⟩ := mod_n (a := x0) (k := 5) (by decide)
  obtain ⟨n3, l3, m3⟩ := mod_n (a := x3) (k := 11) (by decide)
  obtain ⟨n4, l4, m4⟩ := mod_n (a := x4) (k := 4) (by decide)
  have m1 : binD .mod (.int x1) (.int 6) = some (.d (.int (n1 : Nat))) := m1
  have m0 : binD .mod (.int x0) (.int 5) = some (.d (.int (n0 : Nat))) := m0
  have m3 : binD .mod (.int x3) (.int 11) = some (.d (.int (n3 : Nat))) := m3
  have m4 : binD .mod (.int x4) (.int 4) = some (.d (.int (n4 : Nat))) := m4
  obtain ⟨wd, hw, ew⟩ := ix_get (xs := words32) (i := n1) l1
  have ew : ixD (.lst [(.str [111, 108, 100]), (.str [120, 49]), (.str []), (.str [79, 108, 100]), (.str [97, 32, 98]), (.str [116, 101])]) (.int (n1 : Nat)) = some wd := ew
  obtain ⟨nw, hn, en⟩ := ix_get (xs := news32) (i := n3) l3
  have en : ixD (.lst [(.str [116]), (.str [119]), (.str [110, 111, 116, 101, 115]), (.str [116, 97, 103, 115]), (.str [116, 101, 120, 116]), (.str [108, 97, 98, 101, 108]), (.int 1), (.int 0), (.str [111, 108, 100]), (.str [120]), (.int 999999)]) (.int (n3 : Nat)) = some nw := en
  obtain ⟨b, hb, eb⟩ := ix_gett (xs := five32 wd) (i := n0) l0
  obtain ⟨bl, bu⟩ := len_five hb
  have ad : binD .add (.lst [.tup key0, .tup key1, .tup (key2 wd)]) (.lst [.tup (key3 wd), .tup key4]) = some (.tmp (.lst ((five32 wd).map .tup))) := rfl
  unfold key0 key1 key2 key3 key4 at ad
  have ln : bltD .len [.tup b] = some (.d (.int ((b.length : Nat) : Int))) := rfl
  obtain ⟨t, lt, mt⟩ := mod_n (a := x2) (k := b.length) (by omega)
  have s1 : slD (.tup b) none (some (t : Nat)) = some (.d (.tup (b.take t))) := by
    show some (Vl.d (.tup (cut b none (some ((t : Nat) : Int))))) = _
    rw [cut_to]
  have s2 : slD (.tup b) (some ((t : Int) + 1)) none = some (.d (.tup (b.drop (t + 1)))) := by
    have : (t : Int) + 1 = ((t + 1 : Nat) : Int) := by omega
    rw [this]
    show some (Vl.d (.tup (cut b (some ((t + 1 : Nat) : Int)) none))) = _
    rw [cut_from]
  have s3 : slD (.tup b) (some (t : Nat)) none = some (.d (.tup (b.drop t))) := by
    show some (Vl.d (.tup (cut b (some ((t : Nat) : Int)) none))) = _
    rw [cut_from]
  have adt : ∀ x y : List D, x.length + y.length ≤ 1000 → binD .add (.tup x) (.tup y) = some (.d (.tup (x ++ y))) := fun x y h => by
    rw [add_t, if_pos (by unfold line; omega)]
  have at1 := adt (b.take t) [nw] (by rw [List.length_take]; simp only [List.length_cons, List.length_nil]; omega)
  have at2 := adt (b.take t ++ [nw]) (b.drop (t + 1)) (by rw [List.length_append, List.length_take, List.length_drop]; simp only [List.length_cons, List.length_nil]; omega)
  have at3 := adt (b.take t) (b.drop (t + 1)) (by rw [List.length_take, List.length_drop]; omega)
  have at4 := adt (b.take t ++ [nw]) (b.drop t) (by rw [List.length_append, List.length_take, List.length_drop]; simp only [List.length_cons, List.length_nil]; omega)
  have mem : ∀ x ∈ way32 b t nw, x ∈ keys32 := fun x hx => List.mem_flatMap.mpr ⟨wd, hw, List.mem_flatMap.mpr ⟨b, hb, way_some lt hn x hx⟩⟩
  have f0 : ∀ {kn kb kc : List D → Q β} {kr : D → Q β} {s c d w ks a n : D}, J176_2 X.P (pc X m) fuel kn kb kc kr [s, sch32, c, d, w, ks, .tup b, a, n] = kn [s, sch32, c, d, w, ks, .tup b, a, n] := fin32 H hm chk (mem _ (by unfold way32; simp))
  have f1 : ∀ {kn kb kc : List D → Q β} {kr : D → Q β} {s c d w ks a n : D}, J176_2 X.P (pc X m) fuel kn kb kc kr [s, sch32, c, d, w, ks, .tup (b.take t ++ [nw] ++ b.drop (t + 1)), a, n] = kn [s, sch32, c, d, w, ks, .tup (b.take t ++ [nw] ++ b.drop (t + 1)), a, n] := fin32 H hm chk (mem _ (by unfold way32; simp))
  have f2 : ∀ {kn kb kc : List D → Q β} {kr : D → Q β} {s c d w ks a n : D}, J176_2 X.P (pc X m) fuel kn kb kc kr [s, sch32, c, d, w, ks, .tup (b.take t ++ b.drop (t + 1)), a, n] = kn [s, sch32, c, d, w, ks, .tup (b.take t ++ b.drop (t + 1)), a, n] := fin32 H hm chk (mem _ (by unfold way32; simp))
  have f3 : ∀ {kn kb kc : List D → Q β} {kr : D → Q β} {s c d w ks a n : D}, J176_2 X.P (pc X m) fuel kn kb kc kr [s, sch32, c, d, w, ks, .tup (b.take t ++ [nw] ++ b.drop t), a, n] = kn [s, sch32, c, d, w, ks, .tup (b.take t ++ [nw] ++ b.drop t), a, n] := fin32 H hm chk (mem _ (by unfold way32; simp))
  have c11 : cmpD .eq (.int 0) (.int 1) = some false := by decide +kernel
  have cc : ∀ i j : Nat, cmpD .eq (.int (i : Nat)) (.int (j : Nat)) = some (decide (i = j)) := fun i j => by
    rw [c_eq]
    have a1 : shp (.int (i : Nat)) = true := rfl
    have a2 : shp (.int (j : Nat)) = true := rfl
    have a3 : deq (.int (i : Nat)) (.int (j : Nat)) = ((i : Int) == (j : Int)) := rfl
    rw [a1, a2, a3]
    simp only [Bool.and_self, if_true]
    congr 1
    rw [Bool.eq_iff_iff]
    simp only [beq_iff_eq, decide_eq_true_eq]
    omega
  have q1' : cmpD .eq (.int (n4 : Nat)) (.int 1) = some (decide (n4 = 1)) := cc n4 1
  have q2' : cmpD .eq (.int (n4 : Nat)) (.int 2) = some (decide (n4 = 2)) := cc n4 2
  have q3' : cmpD .eq (.int (n4 : Nat)) (.int 3) = some (decide (n4 = 3)) := cc n4 3
  have ii : iD (.int (t : Nat)) = some (t : Int) := rfl
  have ij : iD (.int ((t : Int) + 1)) = some ((t : Int) + 1) := rfl
  have pre : ∃ w', L176_0 X.P (pc X m) fuel kr k (.int c :: its) [s, sch32, c0, d, w, ks, ky, a, n] = (if n4 = 1 then J176_0 X.P (pc X m) fuel (L176_0 X.P (pc X m) fuel kr k its) k (L176_0 X.P (pc X m) fuel kr k its) kr [s, sch32, .int c, dr, w', .lst ((five32 wd).map .tup), .tup (b.take t ++ [nw] ++ b.drop (t + 1)), .int (t : Nat), nw]
      else J176_0 X.P (pc X m) fuel (L176_0 X.P (pc X m) fuel kr k its) k (L176_0 X.P (pc X m) fuel kr k its) kr [s, sch32, .int c, dr, w', .lst ((five32 wd).map .tup), .tup b, .int (t : Nat), nw]) := by
    refine ⟨.lst words32, ?_⟩
    rw [L176_0_cons]
    simp only [e0, Q.bind_ok, i0, i1, i2, i3, i4, q1_some, m0, m1, m3, m4, rdo_d, ew, ad, rdo_t, eb, ln, mt, en, q1', s1, at1, add_i, ij, ii, s2, at2]
    by_cases h : n4 = 1
    · rw [decide_eq_true h, if_pos h]; rfl
    · rw [decide_eq_false h, if_neg h]; rfl
  obtain ⟨w', pre⟩ := pre
  by_cases h1 : n4 = 1
  · rw [if_pos h1] at pre
    refine ⟨dr, w', .lst ((five32 wd).map .tup), .tup (b.take t ++ [nw] ++ b.drop (t + 1)), .int (t : Nat), nw, pre.trans ?_⟩
    rw [J176_0_eq]
    simp only [i4, q1_some, Q.bind_ok, m4, rdo_d, (show cmpD .eq (.int (n4 : Nat)) (.int 2) = some false by rw [q2', h1]; rfl), Bool.false_eq_true, if_false]
    rw [J176_1_eq]
    simp only [i4, q1_some, Q.bind_ok, m4, rdo_d, (show cmpD .eq (.int (n4 : Nat)) (.int 3) = some false by rw [q3', h1]; rfl), Bool.false_eq_true, if_false]
    rw [f1]
  · rw [if_neg h1] at pre
    by_cases h2 : n4 = 2
    · refine ⟨dr, w', .lst ((five32 wd).map .tup), .tup (b.take t ++ b.drop (t + 1)), .int (t : Nat), nw, pre.trans ?_⟩
      rw [J176_0_eq]
      simp only [i4, q1_some, Q.bind_ok, m4, rdo_d, (show cmpD .eq (.int (n4 : Nat)) (.int 2) = some true by rw [q2', h2]; rfl), if_true, ii, s1, add_i, ij, s2, at3]
      rw [J176_1_eq]
      simp only [i4, q1_some, Q.bind_ok, m4, rdo_d, (show cmpD .eq (.int (n4 : Nat)) (.int 3) = some false by rw [q3', h2]; rfl), Bool.false_eq_true, if_false]
      rw [f2]
    · by_cases h3 : n4 = 3
      · refine ⟨dr, w', .lst ((five32 wd).map .tup), .tup (b.take t ++ [nw] ++ b.drop t), .int (t : Nat), nw, pre.trans ?_⟩
        rw [J176_0_eq]
        simp only [i4, q1_some, Q.bind_ok, m4, rdo_d, (show cmpD .eq (.int (n4 : Nat)) (.int 2) = some false by rw [q2', h3]; rfl), Bool.false_eq_true, if_false]
        rw [J176_1_eq]
        simp only [i4, q1_some, Q.bind_ok, m4, rdo_d, (show cmpD .eq (.int (n4 : Nat)) (.int 3) = some true by rw [q3', h3]; rfl), if_true, ii, s1, at1, s3, at4]
        rw [f3]
      · refine ⟨dr, w', .lst ((five32 wd).map .tup), .tup (b), .int (t : Nat), nw, pre.trans ?_⟩
        rw [J176_0_eq]
        simp only [i4, q1_some, Q.bind_ok, m4, rdo_d, (show cmpD .eq (.int (n4 : Nat)) (.int 2) = some false by rw [q2', decide_eq_false h2]), Bool.false_eq_true, if_false]
        rw [J176_1_eq]
        simp only [i4, q1_some, Q.bind_ok, m4, rdo_d, (show cmpD .eq (.int (n4 : Nat)) (.int 3) = some false by rw [q3', decide_eq_false h3]), Bool.false_eq_true, if_false]
        rw [f0]
theorem loop176 (H : HasL32 X) {m : Nat} (hm : 3 ≤ m) (chk : ∀ k ∈ keys32, okK (pc X m) k = true) {kr : D → Q β} {k : List D → Q β} {s : D} : ∀ (ns : List Int) (c0 d w ks ky a n : D),
    ∃ c' d' w' ks' ky' a' n', L176_0 X.P (pc X m) fuel kr k (ns.map .int) [s, sch32, c0, d, w, ks, ky, a, n] = k [s, sch32, c', d', w', ks', ky', a', n']
  | [], c0, d, w, ks, ky, a, n => ⟨c0, d, w, ks, ky, a, n, by rw [List.map_nil, L176_0_nil]⟩
  | c :: ns, c0, d, w, ks, ky, a, n => by
    obtain ⟨d1, w1, ks1, ky1, a1, n1, f1⟩ := turn176 H hm chk (kr := kr) (k := k) (s := s) c (ns.map .int) c0 d w ks ky a n
    obtain ⟨c2, d2, w2, ks2, ky2, a2, n2, f2⟩ := loop176 H hm chk (kr := kr) (k := k) (s := s) ns (.int c) d1 w1 ks1 ky1 a1 n1
    exact ⟨c2, d2, w2, ks2, ky2, a2, n2, by rw [List.map_cons, f1, f2]⟩
theorem w176 (H : HasL32 X) (ns : List Int) {m : Nat} (hm : 3 ≤ m) (chk : ∀ k ∈ keys32, okK (pc X m) k = true) : pc X (m + 1) 176 [.lst (ns.map .int)] = .ok (.bl true) := by
  rw [F176 H.n176, B176]
  simp only [wk_l, q1_some, Q.bind_ok]
  obtain ⟨c', d', w', ks', ky', a', n', f⟩ := loop176 H hm chk (kr := Q.ok) (k := J176_3 X.P (pc X m) fuel (Kn X 176) Kst Kst .ok) (s := .lst (ns.map .int)) ns .non .non .non .non .non .non .non
  have f := f
  unfold sch32 at f
  rw [f, J176_3_eq]
end
end Ev
end
set_option maxRecDepth 100000
set_option maxHeartbeats 1000000
/-! law_k32_judge_keys_of_entries -/
namespace Ev
open PySem L2
def pg : Pg := ⟨fun g => [(0, f0), (1, f1), (2, f2), (3, f3), (4, f4), (5, f5), (6, f6), (7, f7), (8, f8), (10, f10), (11, f11), (12, f12), (13, f13), (14, f14), (15, f15), (16, f16), (17, f17), (18, f18), (19, f19), (20, f20), (22, f22), (23, f23), (24, f24), (25, f25), (26, f26), (28, f28), (29, f29), (30, f30), (31, f31), (32, f32), (33, f33), (35, f35), (36, f36), (38, f38), (39, f39), (40, f40), (41, f41), (42, f42), (43, f43), (44, f44), (45, f45), (46, f46), (47, f47), (48, f48), (49, f49), (50, f50), (51, f51), (52, f52), (53, f53), (54, f54), (55, f55), (56, f56), (57, f57), (59, f59), (60, f60), (61, f61), (62, f62), (63, f63), (64, f64), (65, f65), (66, f66), (67, f67), (69, f69), (70, f70), (71, f71), (72, f72), (73, f73), (74, f74), (75, f75), (76, f76), (77, f77), (78, f78), (79, f79), (80, f80), (81, f81), (83, f83), (84, f84), (85, f85), (86, f86), (87, f87), (88, f88), (89, f89), (90, f90), (91, f91), (92, f92), (93, f93), (94, f94), (96, f96), (97, f97), (98, f98), (99, f99), (100, f100), (101, f101), (102, f102), (103, f103), (104, f104), (105, f105), (106, f106), (107, f107), (108, f108), (109, f109), (110, f110), (111, f111), (112, f112), (113, f113), (114, f114), (115, f115), (116, f116), (117, f117), (118, f118), (119, f119), (120, f120), (121, f121), (122, f122), (123, f123), (124, f124), (125, f125), (126, f126), (127, f127), (128, f128), (129, f129), (130, f130), (131, f131), (132, f132), (133, f133), (134, f134), (135, f135), (136, f136), (137, f137), (138, f138), (139, f139), (140, f140), (141, f141), (142, f142), (143, f143), (144, f144), (145, f145), (146, f146), (147, f147), (148, f148), (149, f149), (150, f150), (151, f151), (152, f152), (153, f153), (154, f154), (155, f155), (156, f156), (157, f157), (158, f158), (159, f159), (160, f160), (161, f161), (162, f162), (163, f163), (164, f164), (165, f165), (166, f166), (167, f167), (168, f168), (169, f169), (170, f170), (171, f171), (172, f172), (173, f173), (174, f174), (175, f175), (176, f176)].lookup g, fun g => ([(1, (.int 12)), (2, (.int 999999)), (3, (.int 40)), (5, (.str [97, 98, 99, 100, 101, 102, 103, 104, 105, 106, 107, 108, 109, 110, 111, 112, 113, 114, 115, 116, 117, 118, 119, 120, 121, 122, 48, 49, 50, 51, 52, 53, 54, 55, 56, 57])), (6, (.int 10000))] : List (Nat × D)).lookup g, fun _ _ => none⟩
def depth : Nat := 8
def px : Px := ⟨pg, fun g => !([12, 10, 11, 29, 170, 171, 172, 173, 174, 175, 176] : List Nat).contains g, fun _ => false, fun _ => false⟩
theorem okpx : OkX px := okX_of (fun _ => rfl) (by decide +kernel)
theorem nw {g : Nat} {f : Fn} (h : pg.fns g = some f) (o : px.old g = false) : New px g f := ⟨h, o, rfl⟩
theorem ol {g : Nat} (o : px.old g = true) : Old px g := ⟨o, rfl, rfl⟩
theorem ck0 : ((some32 key0).all fun k => okK (pc px 7) k) = true := by decide +kernel
theorem ck1 : ((some32 key1).all fun k => okK (pc px 7) k) = true := by decide +kernel
theorem ck4 : ((some32 key4).all fun k => okK (pc px 7) k) = true := by decide +kernel
theorem ck2_0 : ((some32 (key2 (.str [111, 108, 100]))).all fun k => okK (pc px 7) k) = true := by decide +kernel
theorem ck2_1 : ((some32 (key2 (.str [120, 49]))).all fun k => okK (pc px 7) k) = true := by decide +kernel
theorem ck2_2 : ((some32 (key2 (.str []))).all fun k => okK (pc px 7) k) = true := by decide +kernel
theorem ck2_3 : ((some32 (key2 (.str [79, 108, 100]))).all fun k => okK (pc px 7) k) = true := by decide +kernel
theorem ck2_4 : ((some32 (key2 (.str [97, 32, 98]))).all fun k => okK (pc px 7) k) = true := by decide +kernel
theorem ck2_5 : ((some32 (key2 (.str [116, 101]))).all fun k => okK (pc px 7) k) = true := by decide +kernel
theorem ck3_0 : ((some32 (key3 (.str [111, 108, 100]))).all fun k => okK (pc px 7) k) = true := by decide +kernel
theorem ck3_1 : ((some32 (key3 (.str [120, 49]))).all fun k => okK (pc px 7) k) = true := by decide +kernel
theorem ck3_2 : ((some32 (key3 (.str []))).all fun k => okK (pc px 7) k) = true := by decide +kernel
theorem ck3_3 : ((some32 (key3 (.str [79, 108, 100]))).all fun k => okK (pc px 7) k) = true := by decide +kernel
theorem ck3_4 : ((some32 (key3 (.str [97, 32, 98]))).all fun k => okK (pc px 7) k) = true := by decide +kernel
theorem ck3_5 : ((some32 (key3 (.str [116, 101]))).all fun k => okK (pc px 7) k) = true := by decide +kernel
theorem ck2 : ∀ w ∈ words32, ((some32 (key2 w)).all fun k => okK (pc px 7) k) = true := fun w hw => by
  unfold words32 at hw
  simp only [List.mem_cons, List.not_mem_nil, or_false] at hw
  rcases hw with rfl | rfl | rfl | rfl | rfl | rfl
  · exact ck2_0
  · exact ck2_1
  · exact ck2_2
  · exact ck2_3
  · exact ck2_4
  · exact ck2_5
theorem ck3 : ∀ w ∈ words32, ((some32 (key3 w)).all fun k => okK (pc px 7) k) = true := fun w hw => by
  unfold words32 at hw
  simp only [List.mem_cons, List.not_mem_nil, or_false] at hw
  rcases hw with rfl | rfl | rfl | rfl | rfl | rfl
  · exact ck3_0
  · exact ck3_1
  · exact ck3_2
  · exact ck3_3
  · exact ck3_4
  · exact ck3_5
theorem hasKP : HasK pg := ⟨rfl, rfl, rfl, rfl, rfl, rfl, rfl⟩
theorem hasL32 : HasL32 px := ⟨hasKP, ol rfl, rfl, ol rfl, nw rfl rfl⟩
theorem run (ns : List Int) (h : ns.length ≤ 63) : ∃ s, callN pg depth 176 [.lst (ns.map .int)] [] = .ok (.d (.bl true)) s := pc_run okpx (w176 hasL32 ns (by decide) (keys_all ck0 ck1 ck4 ck2 ck3))
def top (i : Nat) : Stmt := PySem.Challenge.pw_askedthen_k32_judge_keys_of_entries.main.body.getD i (.Pass ⟨0, 0, 0, 0⟩)
def lk : Lk := ⟨fun g => [0, 10, 11, 12, 13, 29, 170, 171, 172, 173, 174, 175, 176].contains g, fun g x => ([(1, ("MOST_VALUES" : PySem.Str)), (2, ("MOST_NUMBER" : PySem.Str)), (3, ("MOST_TEXT" : PySem.Str)), (5, ("LETTERS" : PySem.Str))] : List (Nat × PySem.Str)).contains (g, x), fun g => (([(0, ("_law_draws" : PySem.Str)), (10, ("is_number" : PySem.Str)), (11, ("is_text" : PySem.Str)), (12, ("kind_of" : PySem.Str)), (13, ("is_key" : PySem.Str)), (29, ("is_word" : PySem.Str)), (170, ("columns_of" : PySem.Str)), (171, ("is_row" : PySem.Str)), (172, ("is_row_of" : PySem.Str)), (173, ("place_of" : PySem.Str)), (174, ("fits" : PySem.Str)), (175, ("_law_fits" : PySem.Str)), (176, ("law" : PySem.Str))] : List (Nat × PySem.Str)).lookup g).getD "", fun g => false, fun g h => false, fun g => false, fun g => false, true, fun _ => none⟩
def nn0 : List PySem.Str := ["_law_cell", "_law_many", "_law_rows", "_law_rest", "_law_k", "_law_state"]
def pp0 : List PySem.Str := ["_law_cell", "_law_many"]
theorem fsc0 : FnScope nn0 pp0 (defScope (top 20)) := ⟨rfl, rfl, rfl, by decide +kernel, rfl, by decide +kernel, by decide +kernel⟩
theorem ok0 : okSts lk nn0 (defScope (top 20)) b0 (defBody (top 20)) = true := by decide +kernel
def nn10 : List PySem.Str := ["value", "most"]
def pp10 : List PySem.Str := ["value", "most"]
theorem fsc10 : FnScope nn10 pp10 (defScope (top 3)) := ⟨rfl, rfl, rfl, by decide +kernel, rfl, by decide +kernel, by decide +kernel⟩
theorem ok10 : okSts lk nn10 (defScope (top 3)) b10 (defBody (top 3)) = true := by decide +kernel
def nn11 : List PySem.Str := ["value", "one"]
def pp11 : List PySem.Str := ["value"]
theorem fsc11 : FnScope nn11 pp11 (defScope (top 4)) := ⟨rfl, rfl, rfl, by decide +kernel, rfl, by decide +kernel, by decide +kernel⟩
theorem ok11 : okSts lk nn11 (defScope (top 4)) b11 (defBody (top 4)) = true := by decide +kernel
def nn12 : List PySem.Str := ["value"]
def pp12 : List PySem.Str := ["value"]
theorem fsc12 : FnScope nn12 pp12 (defScope (top 5)) := ⟨rfl, rfl, rfl, by decide +kernel, rfl, by decide +kernel, by decide +kernel⟩
theorem ok12 : okSts lk nn12 (defScope (top 5)) b12 (defBody (top 5)) = true := by decide +kernel
def nn13 : List PySem.Str := ["value", "one"]
def pp13 : List PySem.Str := ["value"]
theorem fsc13 : FnScope nn13 pp13 (defScope (top 12)) := ⟨rfl, rfl, rfl, by decide +kernel, rfl, by decide +kernel, by decide +kernel⟩
theorem ok13 : okSts lk nn13 (defScope (top 12)) b13 (defBody (top 12)) = true := by decide +kernel
def nn29 : List PySem.Str := ["value", "sign"]
def pp29 : List PySem.Str := ["value"]
theorem fsc29 : FnScope nn29 pp29 (defScope (top 15)) := ⟨rfl, rfl, rfl, by decide +kernel, rfl, by decide +kernel, by decide +kernel⟩
theorem ok29 : okSts lk nn29 (defScope (top 15)) b29 (defBody (top 15)) = true := by decide +kernel
def nn170 : List PySem.Str := ["schema", "name", "table", "columns"]
def pp170 : List PySem.Str := ["schema", "name"]
theorem fsc170 : FnScope nn170 pp170 (defScope (top 7)) := ⟨rfl, rfl, rfl, by decide +kernel, rfl, by decide +kernel, by decide +kernel⟩
theorem ok170 : okSts lk nn170 (defScope (top 7)) b170 (defBody (top 7)) = true := by decide +kernel
def nn171 : List PySem.Str := ["columns", "row", "k"]
def pp171 : List PySem.Str := ["columns", "row"]
theorem fsc171 : FnScope nn171 pp171 (defScope (top 8)) := ⟨rfl, rfl, rfl, by decide +kernel, rfl, by decide +kernel, by decide +kernel⟩
theorem ok171 : okSts lk nn171 (defScope (top 8)) b171 (defBody (top 8)) = true := by decide +kernel
def nn172 : List PySem.Str := ["schema", "table", "row", "found"]
def pp172 : List PySem.Str := ["schema", "table", "row"]
theorem fsc172 : FnScope nn172 pp172 (defScope (top 17)) := ⟨rfl, rfl, rfl, by decide +kernel, rfl, by decide +kernel, by decide +kernel⟩
theorem ok172 : okSts lk nn172 (defScope (top 17)) b172 (defBody (top 17)) = true := by decide +kernel
def nn173 : List PySem.Str := ["columns", "name", "place", "column"]
def pp173 : List PySem.Str := ["columns", "name"]
theorem fsc173 : FnScope nn173 pp173 (defScope (top 9)) := ⟨rfl, rfl, rfl, by decide +kernel, rfl, by decide +kernel, by decide +kernel⟩
theorem ok173 : okSts lk nn173 (defScope (top 9)) b173 (defBody (top 9)) = true := by decide +kernel
def nn174 : List PySem.Str := ["schema", "key", "found", "place"]
def pp174 : List PySem.Str := ["schema", "key"]
theorem fsc174 : FnScope nn174 pp174 (defScope (top 18)) := ⟨rfl, rfl, rfl, by decide +kernel, rfl, by decide +kernel, by decide +kernel⟩
theorem ok174 : okSts lk nn174 (defScope (top 18)) b174 (defBody (top 18)) = true := by decide +kernel
def nn175 : List PySem.Str := ["_law_key", "_law_tables", "_law_columns", "_law_row", "_law_kinds", "_law_value", "_law_sign"]
def pp175 : List PySem.Str := ["_law_key"]
theorem fsc175 : FnScope nn175 pp175 (defScope (top 21)) := ⟨rfl, rfl, rfl, by decide +kernel, rfl, by decide +kernel, by decide +kernel⟩
theorem ok175 : okSts lk nn175 (defScope (top 21)) b175 (defBody (top 21)) = true := by decide +kernel
def nn176 : List PySem.Str := ["_law_script", "_law_schema", "_law_cell", "_law_draws_here", "_law_words", "_law_keys", "_law_key", "_law_at", "_law_new"]
def pp176 : List PySem.Str := ["_law_script"]
theorem fsc176 : FnScope nn176 pp176 (defScope (top 22)) := ⟨rfl, rfl, rfl, by decide +kernel, rfl, by decide +kernel, by decide +kernel⟩
theorem ok176 : okSts lk nn176 (defScope (top 22)) b176 (defBody (top 22)) = true := by decide +kernel
theorem all_mk {l : PySem.W.OpenLaw} {w : World} {K : PySem.W.Frag} {h : Heap} {mg : PySem.Str → Option Value} {fa : Addr} (X : K.In h) (G : h.Ns mainGlobals mg) (hfa : mg "law" = some (.ref fa))
    {a0 : Addr} {od0 an0 : Option Addr} {sl0 : Array (Option Value)} {oc0 kv0 dc0 pm0 cd0 ct0 : Value}
    (ha0 : PySem.W.nsIn K mainGlobals "_law_draws" = some (some (.ref a0))) (hl0 : K.lookup a0 = some ⟨oc0, od0, .func (PySem.W.fnOf "_law_draws" "_law_draws" (defArgs (top 20)) (defBody (top 20)) (defScope (top 20)) .none kv0 dc0 pm0 an0 cd0 ct0), sl0⟩) (hc0 : PySem.W.codeIn K cd0 "_law_draws" = true) (hk0 : PySem.W.keepIn K (.ref a0) = true)
    {a10 : Addr} {od10 an10 : Option Addr} {sl10 : Array (Option Value)} {oc10 kv10 dc10 pm10 cd10 ct10 : Value}
    (ha10 : PySem.W.nsIn K mainGlobals "is_number" = some (some (.ref a10))) (hl10 : K.lookup a10 = some ⟨oc10, od10, .func (PySem.W.fnOf "is_number" "is_number" (defArgs (top 3)) (defBody (top 3)) (defScope (top 3)) .none kv10 dc10 pm10 an10 cd10 ct10), sl10⟩) (hc10 : PySem.W.codeIn K cd10 "is_number" = true) (hk10 : PySem.W.keepIn K (.ref a10) = true)
    {a11 : Addr} {od11 an11 : Option Addr} {sl11 : Array (Option Value)} {oc11 kv11 dc11 pm11 cd11 ct11 : Value}
    (ha11 : PySem.W.nsIn K mainGlobals "is_text" = some (some (.ref a11))) (hl11 : K.lookup a11 = some ⟨oc11, od11, .func (PySem.W.fnOf "is_text" "is_text" (defArgs (top 4)) (defBody (top 4)) (defScope (top 4)) .none kv11 dc11 pm11 an11 cd11 ct11), sl11⟩) (hc11 : PySem.W.codeIn K cd11 "is_text" = true) (hk11 : PySem.W.keepIn K (.ref a11) = true)
    {a12 : Addr} {od12 an12 : Option Addr} {sl12 : Array (Option Value)} {oc12 kv12 dc12 pm12 cd12 ct12 : Value}
    (ha12 : PySem.W.nsIn K mainGlobals "kind_of" = some (some (.ref a12))) (hl12 : K.lookup a12 = some ⟨oc12, od12, .func (PySem.W.fnOf "kind_of" "kind_of" (defArgs (top 5)) (defBody (top 5)) (defScope (top 5)) .none kv12 dc12 pm12 an12 cd12 ct12), sl12⟩) (hc12 : PySem.W.codeIn K cd12 "kind_of" = true) (hk12 : PySem.W.keepIn K (.ref a12) = true)
    {a13 : Addr} {od13 an13 : Option Addr} {sl13 : Array (Option Value)} {oc13 kv13 dc13 pm13 cd13 ct13 : Value}
    (ha13 : PySem.W.nsIn K mainGlobals "is_key" = some (some (.ref a13))) (hl13 : K.lookup a13 = some ⟨oc13, od13, .func (PySem.W.fnOf "is_key" "is_key" (defArgs (top 12)) (defBody (top 12)) (defScope (top 12)) .none kv13 dc13 pm13 an13 cd13 ct13), sl13⟩) (hc13 : PySem.W.codeIn K cd13 "is_key" = true) (hk13 : PySem.W.keepIn K (.ref a13) = true)
    {a29 : Addr} {od29 an29 : Option Addr} {sl29 : Array (Option Value)} {oc29 kv29 dc29 pm29 cd29 ct29 : Value}
    (ha29 : PySem.W.nsIn K mainGlobals "is_word" = some (some (.ref a29))) (hl29 : K.lookup a29 = some ⟨oc29, od29, .func (PySem.W.fnOf "is_word" "is_word" (defArgs (top 15)) (defBody (top 15)) (defScope (top 15)) .none kv29 dc29 pm29 an29 cd29 ct29), sl29⟩) (hc29 : PySem.W.codeIn K cd29 "is_word" = true) (hk29 : PySem.W.keepIn K (.ref a29) = true)
    {a170 : Addr} {od170 an170 : Option Addr} {sl170 : Array (Option Value)} {oc170 kv170 dc170 pm170 cd170 ct170 : Value}
    (ha170 : PySem.W.nsIn K mainGlobals "columns_of" = some (some (.ref a170))) (hl170 : K.lookup a170 = some ⟨oc170, od170, .func (PySem.W.fnOf "columns_of" "columns_of" (defArgs (top 7)) (defBody (top 7)) (defScope (top 7)) .none kv170 dc170 pm170 an170 cd170 ct170), sl170⟩) (hc170 : PySem.W.codeIn K cd170 "columns_of" = true) (hk170 : PySem.W.keepIn K (.ref a170) = true)
    {a171 : Addr} {od171 an171 : Option Addr} {sl171 : Array (Option Value)} {oc171 kv171 dc171 pm171 cd171 ct171 : Value}
    (ha171 : PySem.W.nsIn K mainGlobals "is_row" = some (some (.ref a171))) (hl171 : K.lookup a171 = some ⟨oc171, od171, .func (PySem.W.fnOf "is_row" "is_row" (defArgs (top 8)) (defBody (top 8)) (defScope (top 8)) .none kv171 dc171 pm171 an171 cd171 ct171), sl171⟩) (hc171 : PySem.W.codeIn K cd171 "is_row" = true) (hk171 : PySem.W.keepIn K (.ref a171) = true)
    {a172 : Addr} {od172 an172 : Option Addr} {sl172 : Array (Option Value)} {oc172 kv172 dc172 pm172 cd172 ct172 : Value}
    (ha172 : PySem.W.nsIn K mainGlobals "is_row_of" = some (some (.ref a172))) (hl172 : K.lookup a172 = some ⟨oc172, od172, .func (PySem.W.fnOf "is_row_of" "is_row_of" (defArgs (top 17)) (defBody (top 17)) (defScope (top 17)) .none kv172 dc172 pm172 an172 cd172 ct172), sl172⟩) (hc172 : PySem.W.codeIn K cd172 "is_row_of" = true) (hk172 : PySem.W.keepIn K (.ref a172) = true)
    {a173 : Addr} {od173 an173 : Option Addr} {sl173 : Array (Option Value)} {oc173 kv173 dc173 pm173 cd173 ct173 : Value}
    (ha173 : PySem.W.nsIn K mainGlobals "place_of" = some (some (.ref a173))) (hl173 : K.lookup a173 = some ⟨oc173, od173, .func (PySem.W.fnOf "place_of" "place_of" (defArgs (top 9)) (defBody (top 9)) (defScope (top 9)) .none kv173 dc173 pm173 an173 cd173 ct173), sl173⟩) (hc173 : PySem.W.codeIn K cd173 "place_of" = true) (hk173 : PySem.W.keepIn K (.ref a173) = true)
    {a174 : Addr} {od174 an174 : Option Addr} {sl174 : Array (Option Value)} {oc174 kv174 dc174 pm174 cd174 ct174 : Value}
    (ha174 : PySem.W.nsIn K mainGlobals "fits" = some (some (.ref a174))) (hl174 : K.lookup a174 = some ⟨oc174, od174, .func (PySem.W.fnOf "fits" "fits" (defArgs (top 18)) (defBody (top 18)) (defScope (top 18)) .none kv174 dc174 pm174 an174 cd174 ct174), sl174⟩) (hc174 : PySem.W.codeIn K cd174 "fits" = true) (hk174 : PySem.W.keepIn K (.ref a174) = true)
    {a175 : Addr} {od175 an175 : Option Addr} {sl175 : Array (Option Value)} {oc175 kv175 dc175 pm175 cd175 ct175 : Value}
    (ha175 : PySem.W.nsIn K mainGlobals "_law_fits" = some (some (.ref a175))) (hl175 : K.lookup a175 = some ⟨oc175, od175, .func (PySem.W.fnOf "_law_fits" "_law_fits" (defArgs (top 21)) (defBody (top 21)) (defScope (top 21)) .none kv175 dc175 pm175 an175 cd175 ct175), sl175⟩) (hc175 : PySem.W.codeIn K cd175 "_law_fits" = true) (hk175 : PySem.W.keepIn K (.ref a175) = true)
    {a176 : Addr} {od176 an176 : Option Addr} {sl176 : Array (Option Value)} {oc176 kv176 dc176 pm176 cd176 ct176 : Value}
    (ha176 : PySem.W.nsIn K mainGlobals "law" = some (some (.ref a176))) (hl176 : K.lookup a176 = some ⟨oc176, od176, .func (PySem.W.fnOf "law" "law" (defArgs (top 22)) (defBody (top 22)) (defScope (top 22)) .none kv176 dc176 pm176 an176 cd176 ct176), sl176⟩) (hc176 : PySem.W.codeIn K cd176 "law" = true) (hk176 : PySem.W.keepIn K (.ref a176) = true)
    (hz0 : PySem.W.nsIn K mainGlobals "len" = some none)
    (hz1 : PySem.W.nsIn K mainGlobals "int" = some none)
    (hz2 : PySem.W.nsIn K mainGlobals "ord" = some none)
    (hz3 : PySem.W.nsIn K mainGlobals "min" = some none)
    (hz4 : PySem.W.nsIn K mainGlobals "max" = some none)
    (hz5 : PySem.W.nsIn K mainGlobals "tuple" = some none)
    (hz6 : PySem.W.nsIn K mainGlobals "list" = some none)
    (hz7 : PySem.W.nsIn K mainGlobals "all" = some none)
    (hz8 : PySem.W.nsIn K mainGlobals "any" = some none)
    (hz9 : PySem.W.nsIn K mainGlobals "sum" = some none)
    (hz10 : PySem.W.nsIn K mainGlobals "sorted" = some none)
    (hz11 : PySem.W.nsIn K mainGlobals "isinstance" = some none)
    (hz12 : PySem.W.nsIn K mainGlobals "bool" = some none)
    (hz13 : PySem.W.nsIn K mainGlobals "str" = some none)
    (hz14 : PySem.W.nsIn K mainGlobals "range" = some none)
    (hz15 : PySem.W.nsIn K mainGlobals "enumerate" = some none)
    (hz16 : PySem.W.nsIn K mainGlobals "zip" = some none)
    (hz17 : PySem.W.nsIn K mainGlobals "reversed" = some none)
    {ut0 : Tok} (hm0 : PySem.W.nsIn K mainGlobals "MOST_VALUES" = some (some (.int 12 ut0)))
    {ut1 : Tok} (hm1 : PySem.W.nsIn K mainGlobals "MOST_NUMBER" = some (some (.int 999999 ut1)))
    {ut2 : Tok} (hm2 : PySem.W.nsIn K mainGlobals "MOST_TEXT" = some (some (.int 40 ut2)))
    {ut3 : Tok} (hm3 : PySem.W.nsIn K mainGlobals "LETTERS" = some (some (.str "abcdefghijklmnopqrstuvwxyz0123456789" ut3)))
    (hno : PySem.W.nsIn K mainGlobals "_law_sorted" = some none)
    {lv : Nat} (run : ∀ ns : List Int, ns.length ≤ 63 → ∃ s, callN pg lv 176 [.lst (ns.map .int)] [] = .ok (.d (.bl true)) s) :
    ∃ fd : FuncData, (∀ (s : Shared) (v : Value), BindsTo s fd ⟨[v], []⟩ [("_law_script", v)]) ∧ ∀ base : Heap, K.In base → base.Ns mainGlobals mg → FnOk l.prog w K mg base (L2.CX l.prog w) (lv + 3) fa fd ["_law_script"] (spLaw K 63) := by
  have e : a176 = fa := by have e := (PySem.W.mg_of X G ha176).symm.trans hfa; cases e; rfl
  subst e
  have gB : ∀ base, GoodB K mg base := fun base c P h => by obtain ⟨f, _, _, _, _, e, _⟩ := h; exact absurd (e.symm.trans hno) (by simp)
  have g0 := fun_mk (st := (top 20)) hl0 hc0 hk0
  have w0 := g0.binds (ps := pp0) fun _ _ _ _ _ _ us hl => match us, hl with | [_, _], _ => rfl
  have x0 : FL K mg lk pg 0 a0 := ⟨f0, _, _, _, _, nn0, pp0, rfl, g0, w0, fsc0, ok0, rfl, rfl⟩
  have g10 := fun_mk (st := (top 3)) hl10 hc10 hk10
  have w10 := g10.binds (ps := pp10) fun _ _ _ _ _ _ us hl => match us, hl with | [_, _], _ => rfl
  have x10 : FL K mg lk pg 10 a10 := ⟨f10, _, _, _, _, nn10, pp10, rfl, g10, w10, fsc10, ok10, rfl, rfl⟩
  have g11 := fun_mk (st := (top 4)) hl11 hc11 hk11
  have w11 := g11.binds (ps := pp11) fun _ _ _ _ _ _ us hl => match us, hl with | [_], _ => rfl
  have x11 : FL K mg lk pg 11 a11 := ⟨f11, _, _, _, _, nn11, pp11, rfl, g11, w11, fsc11, ok11, rfl, rfl⟩
  have g12 := fun_mk (st := (top 5)) hl12 hc12 hk12
  have w12 := g12.binds (ps := pp12) fun _ _ _ _ _ _ us hl => match us, hl with | [_], _ => rfl
  have x12 : FL K mg lk pg 12 a12 := ⟨f12, _, _, _, _, nn12, pp12, rfl, g12, w12, fsc12, ok12, rfl, rfl⟩
  have g13 := fun_mk (st := (top 12)) hl13 hc13 hk13
  have w13 := g13.binds (ps := pp13) fun _ _ _ _ _ _ us hl => match us, hl with | [_], _ => rfl
  have x13 : FL K mg lk pg 13 a13 := ⟨f13, _, _, _, _, nn13, pp13, rfl, g13, w13, fsc13, ok13, rfl, rfl⟩
  have g29 := fun_mk (st := (top 15)) hl29 hc29 hk29
  have w29 := g29.binds (ps := pp29) fun _ _ _ _ _ _ us hl => match us, hl with | [_], _ => rfl
  have x29 : FL K mg lk pg 29 a29 := ⟨f29, _, _, _, _, nn29, pp29, rfl, g29, w29, fsc29, ok29, rfl, rfl⟩
  have g170 := fun_mk (st := (top 7)) hl170 hc170 hk170
  have w170 := g170.binds (ps := pp170) fun _ _ _ _ _ _ us hl => match us, hl with | [_, _], _ => rfl
  have x170 : FL K mg lk pg 170 a170 := ⟨f170, _, _, _, _, nn170, pp170, rfl, g170, w170, fsc170, ok170, rfl, rfl⟩
  have g171 := fun_mk (st := (top 8)) hl171 hc171 hk171
  have w171 := g171.binds (ps := pp171) fun _ _ _ _ _ _ us hl => match us, hl with | [_, _], _ => rfl
  have x171 : FL K mg lk pg 171 a171 := ⟨f171, _, _, _, _, nn171, pp171, rfl, g171, w171, fsc171, ok171, rfl, rfl⟩
  have g172 := fun_mk (st := (top 17)) hl172 hc172 hk172
  have w172 := g172.binds (ps := pp172) fun _ _ _ _ _ _ us hl => match us, hl with | [_, _, _], _ => rfl
  have x172 : FL K mg lk pg 172 a172 := ⟨f172, _, _, _, _, nn172, pp172, rfl, g172, w172, fsc172, ok172, rfl, rfl⟩
  have g173 := fun_mk (st := (top 9)) hl173 hc173 hk173
  have w173 := g173.binds (ps := pp173) fun _ _ _ _ _ _ us hl => match us, hl with | [_, _], _ => rfl
  have x173 : FL K mg lk pg 173 a173 := ⟨f173, _, _, _, _, nn173, pp173, rfl, g173, w173, fsc173, ok173, rfl, rfl⟩
  have g174 := fun_mk (st := (top 18)) hl174 hc174 hk174
  have w174 := g174.binds (ps := pp174) fun _ _ _ _ _ _ us hl => match us, hl with | [_, _], _ => rfl
  have x174 : FL K mg lk pg 174 a174 := ⟨f174, _, _, _, _, nn174, pp174, rfl, g174, w174, fsc174, ok174, rfl, rfl⟩
  have g175 := fun_mk (st := (top 21)) hl175 hc175 hk175
  have w175 := g175.binds (ps := pp175) fun _ _ _ _ _ _ us hl => match us, hl with | [_], _ => rfl
  have x175 : FL K mg lk pg 175 a175 := ⟨f175, _, _, _, _, nn175, pp175, rfl, g175, w175, fsc175, ok175, rfl, rfl⟩
  have g176 := fun_mk (st := (top 22)) hl176 hc176 hk176
  have w176 := g176.binds (ps := pp176) fun _ _ _ _ _ _ us hl => match us, hl with | [_], _ => rfl
  have x176 : FL K mg lk pg 176 a176 := ⟨f176, _, _, _, _, nn176, pp176, rfl, g176, w176, fsc176, ok176, rfl, rfl⟩
  have hblt : ∀ x ∈ bltNames, mg x = none := fun x hx => by
    simp only [bltNames, List.mem_cons, List.not_mem_nil, or_false] at hx
    rcases hx with rfl | rfl | rfl | rfl | rfl | rfl | rfl | rfl | rfl | rfl | rfl | rfl | rfl | rfl | rfl | rfl | rfl | rfl
    · exact PySem.W.mg_none_of X G hz0
    · exact PySem.W.mg_none_of X G hz1
    · exact PySem.W.mg_none_of X G hz2
    · exact PySem.W.mg_none_of X G hz3
    · exact PySem.W.mg_none_of X G hz4
    · exact PySem.W.mg_none_of X G hz5
    · exact PySem.W.mg_none_of X G hz6
    · exact PySem.W.mg_none_of X G hz7
    · exact PySem.W.mg_none_of X G hz8
    · exact PySem.W.mg_none_of X G hz9
    · exact PySem.W.mg_none_of X G hz10
    · exact PySem.W.mg_none_of X G hz11
    · exact PySem.W.mg_none_of X G hz12
    · exact PySem.W.mg_none_of X G hz13
    · exact PySem.W.mg_none_of X G hz14
    · exact PySem.W.mg_none_of X G hz15
    · exact PySem.W.mg_none_of X G hz16
    · exact PySem.W.mg_none_of X G hz17
  have Λ : Lnk l.prog K mg lk pg 3 := by
    refine ⟨by decide, hblt, fun g d x hg hd => ?_, fun g hg => ?_, fun g x y hg => ?_, fun g hg => ?_, fun g hg => ?_, fun g h hg => ?_, fun g hg => ?_⟩
    · have hg : (g, x) ∈ ([(1, "MOST_VALUES"), (2, "MOST_NUMBER"), (3, "MOST_TEXT"), (5, "LETTERS")] : List (Nat × PySem.Str)) := by simpa only [lk, List.contains_iff_mem] using hg
      simp only [List.mem_cons, List.not_mem_nil, or_false, Prod.mk.injEq] at hg
      rcases hg with ⟨rfl, rfl⟩ | ⟨rfl, rfl⟩ | ⟨rfl, rfl⟩ | ⟨rfl, rfl⟩
      · cases hd; exact ⟨_, .int 12, PySem.W.mg_of X G hm0, ⟨_, rfl⟩, fun F => .int _⟩
      · cases hd; exact ⟨_, .int 999999, PySem.W.mg_of X G hm1, ⟨_, rfl⟩, fun F => .int _⟩
      · cases hd; exact ⟨_, .int 40, PySem.W.mg_of X G hm2, ⟨_, rfl⟩, fun F => .int _⟩
      · cases hd; exact ⟨_, .str "abcdefghijklmnopqrstuvwxyz0123456789", PySem.W.mg_of X G hm3, ⟨_, rfl⟩, fun F => rep_of (by decide +kernel) (by decide +kernel)⟩
    · have hg : g ∈ [0, 10, 11, 12, 13, 29, 170, 171, 172, 173, 174, 175, 176] := by simpa [lk] using hg
      simp only [List.mem_cons, List.not_mem_nil, or_false] at hg
      rcases hg with rfl | rfl | rfl | rfl | rfl | rfl | rfl | rfl | rfl | rfl | rfl | rfl | rfl
      · exact ⟨a0, PySem.W.mg_of X G ha0, .inl x0⟩
      · exact ⟨a10, PySem.W.mg_of X G ha10, .inl x10⟩
      · exact ⟨a11, PySem.W.mg_of X G ha11, .inl x11⟩
      · exact ⟨a12, PySem.W.mg_of X G ha12, .inl x12⟩
      · exact ⟨a13, PySem.W.mg_of X G ha13, .inl x13⟩
      · exact ⟨a29, PySem.W.mg_of X G ha29, .inl x29⟩
      · exact ⟨a170, PySem.W.mg_of X G ha170, .inl x170⟩
      · exact ⟨a171, PySem.W.mg_of X G ha171, .inl x171⟩
      · exact ⟨a172, PySem.W.mg_of X G ha172, .inl x172⟩
      · exact ⟨a173, PySem.W.mg_of X G ha173, .inl x173⟩
      · exact ⟨a174, PySem.W.mg_of X G ha174, .inl x174⟩
      · exact ⟨a175, PySem.W.mg_of X G ha175, .inl x175⟩
      · exact ⟨a176, PySem.W.mg_of X G ha176, .inl x176⟩
    · cases hg
    · cases hg
    · cases hg
    · cases hg
    · cases hg
  exact ⟨PySem.W.fnOf "law" "law" (defArgs (top 22)) (defBody (top 22)) (defScope (top 22)) .none kv176 dc176 pm176 an176 cd176 ct176, fun s v => .of_eq rfl, fun base _ _ => lawOk (fnOk Λ (gB base) lv 176 f176 "law" "law" (top 22) a176 _ nn176 pp176 rfl g176 fsc176 ok176 rfl rfl) rfl run⟩
theorem walk {l : PySem.W.OpenLaw} {q : Program} {loose : List PySem.Str} {XP : (PySem.Str → Option Value) → Heap → Prop} {YP : World → Heap → Prop} {d : DefRec} {K : Params → PySem.W.Frag} {lv : Nat} (hlv : lv + 3 ≤ 200) (hn : l.most = some 63) (hdf : d.params.defaults = [])
    (hY : ∀ (w : World) (h : Heap), YP w h → (K w.params).In h) (hgt : ∀ (w : World) (P : Addr), ¬ LamMk (K w.params) P)
    (F : ∀ (w : World) (mg : PySem.Str → Option Value) (fa : Addr) (h : Heap), (K w.params).In h → h.Ns mainGlobals mg → mg d.name = some (.ref fa) →
      ∃ fd : FuncData, (∀ (s : Shared) (u : Value), BindsTo s fd ⟨[u], []⟩ [("_law_script", u)]) ∧ ∀ base : Heap, (K w.params).In base → base.Ns mainGlobals mg → FnOk l.prog w (K w.params) mg base (L2.CX l.prog w) (lv + 3) fa fd ["_law_script"] (spLaw (K w.params) 63)) :
    PySem.W.WalkO q loose XP YP l.row.toRowW d [] (fun f vs => PySem.call f vs) :=
  L2.walk_of (n := 63) (k := lv + 3) (x := "_law_script") (CX := fun w => L2.CX l.prog w) (sp := fun w => spLaw (K w.params) 63) hn (by decide) hdf (room_ok hlv) hY F (fun w _ a ns hl _ hS => ⟨a, ns, rfl, hS, hl, fun P m => absurd m (hgt w P), fun _ => rfl⟩) fun _ _ _ _ _ z => no_ex z
end Ev
open PySem PySem.W PyProof.Rows
set_option maxRecDepth 100000 in
set_option maxHeartbeats 0 in
theorem PySem.Challenge.cw_askedthen_k32_judge_keys_of_entries_holds : PySem.Challenge.rw_askedthen_k32_judge_keys_of_entries.Holds := by
  w_on; o_law; k_head; (case hw => w_witness2)
  k_fill
  refine Ev.walk (l := PySem.Challenge.rw_askedthen_k32_judge_keys_of_entries) (lv := Ev.depth) (by decide) rfl rfl (fun w h Y => PySem.W.kIn_of Y) ?G ?F
  case G =>
    rintro w P ⟨c, f, _, _, _, _, e, _⟩
    refine (fun (z : _ = some none) => absurd (e.symm.trans z) (by simp)) ?Z
    case Z => k_is
  case F =>
    intro w mg fa h KX G hmg
    refine' Ev.all_mk KX G hmg ?ha0 ?hl0 ?hc0 ?hk0 ?ha10 ?hl10 ?hc10 ?hk10 ?ha11 ?hl11 ?hc11 ?hk11 ?ha12 ?hl12 ?hc12 ?hk12 ?ha13 ?hl13 ?hc13 ?hk13 ?ha29 ?hl29 ?hc29 ?hk29 ?ha170 ?hl170 ?hc170 ?hk170 ?ha171 ?hl171 ?hc171 ?hk171 ?ha172 ?hl172 ?hc172 ?hk172 ?ha173 ?hl173 ?hc173 ?hk173 ?ha174 ?hl174 ?hc174 ?hk174 ?ha175 ?hl175 ?hc175 ?hk175 ?ha176 ?hl176 ?hc176 ?hk176 ?hz0 ?hz1 ?hz2 ?hz3 ?hz4 ?hz5 ?hz6 ?hz7 ?hz8 ?hz9 ?hz10 ?hz11 ?hz12 ?hz13 ?hz14 ?hz15 ?hz16 ?hz17 ?hm0 ?hm1 ?hm2 ?hm3 ?hno Ev.run
    (case ha0 => k_is); (case hl0 => k_is); (case hc0 => k_is); (case hk0 => k_is); (case ha10 => k_is); (case hl10 => k_is)
    (case hc10 => k_is); (case hk10 => k_is); (case ha11 => k_is); (case hl11 => k_is); (case hc11 => k_is); (case hk11 => k_is)
    (case ha12 => k_is); (case hl12 => k_is); (case hc12 => k_is); (case hk12 => k_is); (case ha13 => k_is); (case hl13 => k_is)
    (case hc13 => k_is); (case hk13 => k_is); (case ha29 => k_is); (case hl29 => k_is); (case hc29 => k_is); (case hk29 => k_is)
    (case ha170 => k_is); (case hl170 => k_is); (case hc170 => k_is); (case hk170 => k_is); (case ha171 => k_is); (case hl171 => k_is)
    (case hc171 => k_is); (case hk171 => k_is); (case ha172 => k_is); (case hl172 => k_is); (case hc172 => k_is); (case hk172 => k_is)
    (case ha173 => k_is); (case hl173 => k_is); (case hc173 => k_is); (case hk173 => k_is); (case ha174 => k_is); (case hl174 => k_is)
    (case hc174 => k_is); (case hk174 => k_is); (case ha175 => k_is); (case hl175 => k_is); (case hc175 => k_is); (case hk175 => k_is)
    (case ha176 => k_is); (case hl176 => k_is); (case hc176 => k_is); (case hk176 => k_is); (case hz0 => k_is); (case hz1 => k_is)
    (case hz2 => k_is); (case hz3 => k_is); (case hz4 => k_is); (case hz5 => k_is); (case hz6 => k_is); (case hz7 => k_is)
    (case hz8 => k_is); (case hz9 => k_is); (case hz10 => k_is); (case hz11 => k_is); (case hz12 => k_is); (case hz13 => k_is)
    (case hz14 => k_is); (case hz15 => k_is); (case hz16 => k_is); (case hz17 => k_is); (case hm0 => k_is); (case hm1 => k_is)
    (case hm2 => k_is); (case hm3 => k_is); (case hno => k_is)
