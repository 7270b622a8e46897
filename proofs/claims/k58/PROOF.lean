import PyProof.Rows.All
import Wide.All
import OpenK.AllK
import Wide.FinOn
import HandS.ForMost
import HandS.Flow
import HandS.Wide
import HandS.TupAny
import HandS.Deep
import HandS.Exc
import HandS.Defaults
import KE.SortData
import HandS.Style
import HandS.IsInst
import HandS.RaiseMore
import HandS.Walk
import HandS.Codes
import HandS.Head0
import HandS.Head1
import HandS.Head2
import HandS.HeadEnd
import HandS.HeadHook1
import HandS.HeadHook2
import KE.KStateDown
import HandS.Ends
import HandS.More
import HandS.Words
import HandS.WordsExc
import PySem.Challenge.RW_nobodywaits_k58_accounts_with_one_wrong
set_option Elab.async false
set_option linter.all false
set_option maxRecDepth 100000
set_option maxHeartbeats 0
/-! part a: a small language of values, its meaning. -/
namespace MP
open PySem

abbrev D := PyData
/-- what a reckoning ends in: a value, an error of the class so called, or nothing said -/
inductive Rs (α : Type) where
  | ok (a : α) | exc (c : Str) | bad
def Rs.bind {α β : Type} (x : Rs α) (f : α → Rs β) : Rs β := match x with
  | .ok a => f a
  | .exc c => .exc c
  | .bad => .bad
instance : Monad Rs where
  pure := .ok
  bind := Rs.bind
@[simp] theorem ok_bind {α β : Type} (a : α) (f : α → Rs β) : (Rs.ok a >>= f) = f a := rfl
@[simp] theorem exc_bind {α β : Type} (c : Str) (f : α → Rs β) : ((Rs.exc c : Rs α) >>= f) = .exc c := rfl
@[simp] theorem bad_bind {α β : Type} (f : α → Rs β) : ((Rs.bad : Rs α) >>= f) = .bad := rfl
@[simp] theorem pure_ok {α : Type} (a : α) : (pure a : Rs α) = .ok a := rfl
theorem bind_eq_ok {α β : Type} {x : Rs α} {f : α → Rs β} {b : β} (h : (x >>= f) = .ok b) : ∃ a, x = .ok a ∧ f a = .ok b := by
  cases x with
  | ok a => exact ⟨a, rfl, h⟩
  | exc c => cases h
  | bad => cases h
def Rs.of {α : Type} : Option α → Rs α
  | some a => .ok a
  | none => .bad
@[simp] theorem of_some {α : Type} (a : α) : Rs.of (some a) = .ok a := rfl
@[simp] theorem of_none {α : Type} : (Rs.of (none : Option α)) = .bad := rfl
/-- errors within are not carried -/
def Rs.calm {α : Type} : Rs α → Rs α
  | .ok a => .ok a
  | _ => .bad
@[simp] theorem calm_ok {α : Type} (a : α) : (Rs.ok a).calm = .ok a := rfl
@[simp] theorem calm_exc {α : Type} (c : Str) : (Rs.exc c : Rs α).calm = .bad := rfl
@[simp] theorem calm_bad {α : Type} : (Rs.bad : Rs α).calm = .bad := rfl

abbrev En := List (Option D)

inductive B2 where | add | sub | mul | fdiv | mod | pow | shl | shr | band
  deriving DecidableEq
inductive C2 where | eq | ne | lt | le | gt | ge | isin | notin
  deriving DecidableEq
/-- built-ins by name -/
inductive Bi where | len | int | abs | sum | max | min | max2 | min2 | sorted | list | tuple | all | any | repr | str
  deriving DecidableEq
inductive Ty where | int | bool | str | list | tuple
  deriving DecidableEq
inductive Mt where | index | count
  deriving DecidableEq
inductive Mu where | append | extend | remove
  deriving DecidableEq
inductive Tg where
  | nm (i : Nat)
  | t2 (a b : Tg)
  | t3 (a b c : Tg)
  | t4 (a b c d : Tg)
  deriving DecidableEq
/-- the shape of what is owned: fz nothing (it may be shared), ls a list that nobody else holds, t2 a tuple so -/
inductive Sh where
  | fz
  | ls (s : Sh)
  | t2 (a b : Sh)
  deriving DecidableEq
mutual
inductive E where
  | v (i : Nat)
  | c (d : D)
  | b2 (o : B2) (a b : E)
  | c2 (o : C2) (a b : E)
  | ch (o p : C2) (a b c : E)
  | isN (neg : Bool) (a : E)
  | and (a b : E)
  | or (a b : E)
  | not (a : E)
  | ife (c a b : E)
  | neg (a : E)
  | lst (es : Es)
  | tup (es : Es)
  | lsh (s : Sh) (es : Es)
  | tsh (s : Sh) (es : Es)
  | ix (a i : E)
  | sl (a : E) (lo hi : Eo)
  | rvs (a : E)
  | call (f : Nat) (es : Es)
  | bi1 (f : Bi) (a : E)
  | bi2 (f : Bi) (a b : E)
  | isi (t : Ty) (a : E)
  | mt (m : Mt) (o a : E)
  | lc (elt : E) (tg : Tg) (it : It) (ci : Eo) (vs : List Nat)
  | scl (a : E)
inductive Es where
  | nil
  | cons (e : E) (es : Es)
inductive Eo where
  | no
  | so (e : E)
inductive It where
  | sq (e : E)
  | r1 (a : E)
  | r2 (a b : E)
  | r3 (a b c : E)
  | en (e : E)
  | zp (a b : E)
  | rv (e : E)
end
/-- a place that is changed: a name, an item of one -/
inductive Pt where
  | v (i : Nat)
  | ix (i : Nat) (k : E)
mutual
inductive S where
  | set (i : Nat) (s : Sh) (e : E)
  | un (tg : Tg) (e : E)
  | par (i j : Nat) (a b : E)
  | mu (m : Mu) (p : Pt) (s : Sh) (e : E)
  | si (p : Pt) (k e : E)
  | par2 (i : Nat) (k l a b : E)
  | aug (i : Nat) (o : B2) (e : E)
  | appPop (i j : Nat) (k : E)
  | ex (e : E)
  | ifs (c : E) (a b : Ss)
  | for_ (tg : Tg) (it : It) (b : Ss)
  | whl (c : E) (b : Ss)
  | ret (e : E)
  | retv (i : Nat)
  | retN
  | brk
  | cnt
  | pas
  | fz (i : Nat)
inductive Ss where
  | nil
  | cons (s : S) (r : Ss)
end

/-! ### values -/
namespace V1
/-- a list that is only read (the script) -/
def wk (xs : List D) : D := .dict [(.none, .list xs)]
def scalar : D → Bool
  | .none | .bool _ | .int _ | .str _ => true
  | _ => false
def isN : D → Bool
  | .none => true
  | _ => false
def mulOk (i j : Int) : Bool := (decide (-(2 ^ 64) < i) && decide (i < 2 ^ 64)) || (decide (-(2 ^ 64) < j) && decide (j < 2 ^ 64)) || decide (i.natAbs.log2 + j.natAbs.log2 < 1000000)
def divOk (j : Int) : Bool := decide (j ≠ 0) && (decide (j.natAbs < 1073741824) || (decide (0 < j) && decide (j.natAbs.log2 < 9000)))
def powOk (i j : Int) : Bool := decide (0 ≤ j) && decide (j ≤ 1000000) && decide (i.natAbs < 2 ^ 64)
def b2i (b : Bool) : Int := if b then 1 else 0
def LIM : Nat := 16777216
def lim (n : Nat) : Bool := decide (n ≤ LIM)
def limx {α : Type} (n : Nat) (x : Rs α) : Rs α := if n ≤ LIM then x else .bad
def tru : D → Rs Bool
  | .none => .ok false
  | .bool b => .ok b
  | .int i => .ok (i != 0)
  | .str s => limx s.length (.ok ((s.length : Int) != 0))
  | .list xs => .ok (!xs.isEmpty)
  | .tuple xs => .ok (!xs.isEmpty)
  | .dict [(.none, .list xs)] => .ok (!xs.isEmpty)
  | .dict _ => .bad
def op2 : B2 → D → D → Rs D
  | .add, .int i, .int j => .ok (.int (i + j))
  | .add, .str i, .str j => limx (i.length + j.length) (.ok (.str (i ++ j)))
  | .add, .list xs, .list ys => limx (xs.length + ys.length) (.ok (.list (xs ++ ys)))
  | .add, .tuple xs, .tuple ys => limx (xs.length + ys.length) (.ok (.tuple (xs ++ ys)))
  | .sub, .int i, .int j => .ok (.int (i - j))
  | .mul, .int i, .int j => if mulOk i j then .ok (.int (i * j)) else .bad
  | .mul, .list xs, .int k => if -(2 ^ 63) ≤ k ∧ k < 2 ^ 63 then limx (xs.length * k.toNat) (.ok (.list (List.replicate k.toNat xs).flatten)) else .bad
  | .fdiv, .int i, .int j => if divOk j then .ok (.int (i.fdiv j)) else .bad
  | .mod, .int i, .int j => if j ≠ 0 then .ok (.int (i.fmod j)) else .bad
  | .pow, .int i, .int j => if powOk i j then .ok (.int (i ^ j.toNat)) else .bad
  | .shl, .int i, .int j => if powOk i j then .ok (.int (i * 2 ^ j.toNat)) else .bad
  | .shr, .int i, .int j => if 0 ≤ j then .ok (.int (i / 2 ^ j.toNat)) else .bad
  | .band, .int i, .int j => .ok (.int (Builtin.bitAnd i j))
  | _, _, _ => .bad
def shp (d : D) : Bool := SeqAt.shaped d
def cmp2 : C2 → D → D → Rs D
  | .eq, a, b => if shp a && shp b then .ok (.bool (PyData.eqv a b)) else .bad
  | .ne, a, b => if shp a && shp b then .ok (.bool (!PyData.eqv a b)) else .bad
  | .lt, .int i, .int j => .ok (.bool (decide (i < j)))
  | .le, .int i, .int j => .ok (.bool (decide (i ≤ j)))
  | .gt, .int i, .int j => .ok (.bool (decide (j < i)))
  | .ge, .int i, .int j => .ok (.bool (decide (j ≤ i)))
  | .isin, a, .list xs => if shp a && shp (.list xs) then .ok (.bool (xs.any fun z => PyData.eqv z a)) else .bad
  | .notin, a, .list xs => if shp a && shp (.list xs) then .ok (.bool (!xs.any fun z => PyData.eqv z a)) else .bad
  | .isin, a, .tuple xs => if scalar a && xs.all scalar then .ok (.bool (xs.any fun z => PyData.eqv z a)) else .bad
  | .notin, a, .tuple xs => if scalar a && xs.all scalar then .ok (.bool (!xs.any fun z => PyData.eqv z a)) else .bad
  | _, _, _ => .bad
def at_ (xs : List D) (i : Int) : Rs D := Rs.of (L2.atI xs i)
def ix : D → D → Rs D
  | .list xs, .int i => at_ xs i
  | .tuple xs, .int i => at_ xs i
  | .dict [(.none, .list xs)], .int i => at_ xs i
  | .str s, .int i => (Rs.of (L2.atI s.cps.toList i)) >>= fun c => limx s.length (.ok (.str ⟨#[c]⟩))
  | _, _ => .bad
def cut {α : Type} (xs : List α) (lo hi : Option Int) : List α := (xs.drop (HT.sIx xs.length 0 lo)).take (HT.sIx xs.length xs.length hi - HT.sIx xs.length 0 lo)
def sl : D → Option Int → Option Int → Rs D
  | .list xs, lo, hi => .ok (.list (cut xs lo hi))
  | .tuple xs, lo, hi => .ok (.tuple (cut xs lo hi))
  | _, _, _ => .bad
def toInt : D → Rs Int
  | .int i => .ok i
  | _ => .bad
def intsO : List D → Option (List Int)
  | [] => some []
  | .int i :: r => (intsO r).map (i :: ·)
  | _ :: _ => none
def boolsO : List D → Option (List Bool)
  | [] => some []
  | .bool i :: r => (boolsO r).map (i :: ·)
  | _ :: _ => none
/-- what is walked -/
def items : D → Rs (List D)
  | .list xs => .ok xs
  | .tuple xs => .ok xs
  | .dict [(.none, .list xs)] => .ok xs
  | _ => .bad
def maxL : List Int → Rs D
  | [] => .bad
  | x :: xs => .ok (.int (xs.foldl (fun a b => if b > a then b else a) x))
def minL : List Int → Rs D
  | [] => .bad
  | x :: xs => .ok (.int (xs.foldl (fun a b => if b < a then b else a) x))
def sortOk (xs : List D) : Bool := (xs.all fun d => xs.all fun e => W.alike d e) &&
  ((xs.all fun d => match d with | .tuple (_ :: _) => true | _ => false) || (xs.all fun d => match d with | .none => false | .tuple _ => false | _ => true)) && (xs.all fun d => decide (d.depth ≤ 64))
def isSq : D → Bool
  | .list _ => true
  | .tuple _ => true
  | _ => false
def bi1 : Bi → D → Rs D
  | .len, .list xs => .ok (.int xs.length)
  | .len, .tuple xs => .ok (.int xs.length)
  | .len, .str s => limx s.length (.ok (.int s.length))
  | .len, .dict [(.none, .list xs)] => .ok (.int xs.length)
  | .int, .int i => .ok (.int i)
  | .int, .bool b => .ok (.int (b2i b))
  | .abs, .int i => .ok (.int (if i < 0 then -i else i))
  | .sum, .list xs => (Rs.of (intsO xs)) >>= fun ns => .ok (.int ns.sum)
  | .max, .list xs => (Rs.of (intsO xs)) >>= maxL
  | .min, .list xs => (Rs.of (intsO xs)) >>= minL
  | .sorted, .list xs => if sortOk xs then .ok (.list (xs.mergeSort (W.dataLe false id))) else .bad
  | .list, .list xs => .ok (.list xs)
  | .list, .tuple xs => .ok (.list xs)
  | .tuple, .list xs => .ok (.tuple xs)
  | .tuple, .tuple xs => .ok (.tuple xs)
  | .all, .list xs => (Rs.of (boolsO xs)) >>= fun bs => .ok (.bool (bs.all id))
  | .any, .list xs => (Rs.of (boolsO xs)) >>= fun bs => .ok (.bool (bs.any id))
  | .str, .int i => if i.natAbs.log2 < 1920 then .ok (.str (toString i)) else .bad
  | .repr, d => if isSq d && !d.hasDict && d.showable && decide (d.depth ≤ 64) && decide (d.shown.length ≤ LIM) then .ok (.str d.shown) else .bad
  | _, _ => .bad
def bi2 : Bi → D → D → Rs D
  | .max2, .int i, .int j => .ok (.int (if j > i then j else i))
  | .min2, .int i, .int j => .ok (.int (if j < i then j else i))
  | _, _, _ => .bad
def isiB : Ty → D → Bool
  | .int, .int _ => true
  | .int, .bool _ => true
  | .bool, .bool _ => true
  | .str, .str _ => true
  | .list, .list _ => true
  | .tuple, .tuple _ => true
  | _, _ => false
def isi (t : Ty) (d : D) : Rs D := match d with
  | .dict _ => .bad
  | d => .ok (.bool (isiB t d))
def findIx (p : D → Bool) : List D → Nat → Option Nat
  | [], _ => none
  | x :: xs, k => if p x then some k else findIx p xs (k + 1)
def mtOk : Mt → D → Bool
  | .index, .list _ => true
  | _, _ => false
def mt : Mt → D → D → Rs D
  | .index, .list xs, a => if shp a && shp (.list xs) then (Rs.of (findIx (fun z => PyData.eqv z a) xs 0)) >>= fun k => .ok (.int k) else .bad
  | _, _, _ => .bad
def isL : D → Bool
  | .list _ => true
  | _ => false
def augI : B2 → D → D → Rs D
  | .add, .int i, .int j => .ok (.int (i + j))
  | .sub, .int i, .int j => .ok (.int (i - j))
  | _, _, _ => .bad
def muD : Mu → D → D → Rs D
  | .append, .list xs, a => if xs.length < LIM then .ok (.list (xs ++ [a])) else .bad
  | .extend, .list xs, .list ys => limx (xs.length + ys.length) (.ok (.list (xs ++ ys)))
  | _, _, _ => .bad
def setAt : D → D → D → Rs D
  | .list xs, .int k, a => (Rs.of (L2.ixN xs.length k)) >>= fun j => .ok (.list (xs.set j a))
  | _, _, _ => .bad
def popAt : D → D → Rs (D × D)
  | .list xs, .int k => if -(2 ^ 63) ≤ k ∧ k < 2 ^ 63 then (Rs.of (L2.ixN xs.length k)) >>= fun j => (Rs.of xs[j]?) >>= fun y => .ok (y, .list (xs.eraseIdx j)) else .bad
  | _, _ => .bad
def rng (lo hi : Int) : Rs (List D) := if -(2 ^ 62) ≤ lo ∧ lo < 2 ^ 62 ∧ -(2 ^ 62) ≤ hi ∧ hi < 2 ^ 62 ∧ (hi - lo).toNat ≤ LIM then .ok ((List.range (hi - lo).toNat).map fun (k : Nat) => .int (lo + (k : Int))) else .bad
def rng3 (lo hi c : Int) : Rs (List D) := if c ≠ 0 ∧ c.natAbs < 1073741824 ∧ Builtin.Range.small lo hi c = true ∧ 0 ≤ Builtin.Range.rangeSize lo hi c ∧ (Builtin.Range.rangeSize lo hi c).toNat ≤ LIM then
  .ok ((List.range (Builtin.Range.rangeSize lo hi c).toNat).map fun (k : Nat) => .int (lo + (k : Int) * c)) else .bad
def enumL : List D → Nat → List D
  | [], _ => []
  | x :: xs, k => .tuple [.int k, x] :: enumL xs (k + 1)
end V1
open V1

/-! ### meaning -/
def get (ρ : En) (i : Nat) : Rs D := match ρ[i]? with
  | some (some d) => .ok d
  | _ => .bad
def wipeE (ρ : En) : List Nat → En
  | [] => ρ
  | v :: vs => (wipeE ρ vs).set v none
def asg : Tg → D → En → Rs En
  | .nm i, d, ρ => .ok (ρ.set i (some d))
  | .t2 a b, .tuple [x, y], ρ => asg a x ρ >>= asg b y
  | .t3 a b c, .tuple [x, y, z], ρ => asg a x ρ >>= asg b y >>= asg c z
  | .t4 a b c d, .tuple [x, y, z, u], ρ => asg a x ρ >>= asg b y >>= asg c z >>= asg d u
  | _, _, _ => .bad
def lcL : List D → (D → Rs (Option D)) → Rs (List D)
  | [], _ => .ok []
  | x :: xs, f => (f x).calm >>= fun o => lcL xs f >>= fun r => .ok (match o with | some d => d :: r | none => r)
mutual
def shOk : Sh → D → Bool
  | .fz, _ => true
  | .ls s, .list ds => shOkL s ds
  | .t2 a b, .tuple [x, y] => shOk a x && shOk b y
  | _, _ => false
def shOkL : Sh → List D → Bool
  | .fz, _ => true
  | _, [] => true
  | s, d :: ds => shOk s d && shOkL s ds
end
/-- what a def gives: its value, its parameters' values at the end -/
abbrev CF := Nat → List D → Rs (D × List D)
section
variable (cf : CF)
mutual
def evE : E → En → Rs D
  | .v i, ρ => get ρ i
  | .c d, _ => .ok d
  | .b2 o a b, ρ => evE a ρ >>= fun x => evE b ρ >>= fun y => op2 o x y
  | .c2 o a b, ρ => evE a ρ >>= fun x => evE b ρ >>= fun y => cmp2 o x y
  | .ch o p a b c, ρ => evE a ρ >>= fun x => evE b ρ >>= fun y => cmp2 o x y >>= fun t => match t with
    | .bool true => evE c ρ >>= fun z => cmp2 p y z
    | .bool false => .ok (.bool false)
    | _ => .bad
  | .isN neg a, ρ => evE a ρ >>= fun x => .ok (.bool (if neg then !V1.isN x else V1.isN x))
  | .and a b, ρ => evE a ρ >>= fun x => tru x >>= fun t => if t then evE b ρ else .ok x
  | .or a b, ρ => evE a ρ >>= fun x => tru x >>= fun t => if t then .ok x else evE b ρ
  | .not a, ρ => evE a ρ >>= fun x => tru x >>= fun t => .ok (.bool (!t))
  | .ife c a b, ρ => evE c ρ >>= fun x => tru x >>= fun t => if t then evE a ρ else evE b ρ
  | .neg a, ρ => evE a ρ >>= toInt >>= fun i => .ok (.int (-i))
  | .lst es, ρ => evEs es ρ >>= fun ds => limx ds.length (.ok (.list ds))
  | .tup es, ρ => evEs es ρ >>= fun ds => limx ds.length (.ok (.tuple ds))
  | .lsh s es, ρ => (evEs es ρ).calm >>= fun ds => if shOk (.ls s) (.list ds) then limx ds.length (.ok (.list ds)) else .bad
  | .tsh s es, ρ => (evEs es ρ).calm >>= fun ds => if shOk s (.tuple ds) then limx ds.length (.ok (.tuple ds)) else .bad
  | .ix a i, ρ => evE a ρ >>= fun x => evE i ρ >>= fun y => V1.ix x y
  | .sl a lo hi, ρ => evE a ρ >>= fun x => evEo lo ρ >>= fun l => evEo hi ρ >>= fun h => V1.sl x l h
  | .rvs a, ρ => evE a ρ >>= fun x => match x with
    | .list xs => .ok (.list xs.reverse)
    | _ => .bad
  | .call f es, ρ => evEs es ρ >>= fun ds => cf f ds >>= fun r => .ok r.1
  | .bi1 f a, ρ => evE a ρ >>= fun x => V1.bi1 f x
  | .bi2 f a b, ρ => evE a ρ >>= fun x => evE b ρ >>= fun y => V1.bi2 f x y
  | .isi t a, ρ => evE a ρ >>= fun x => V1.isi t x
  | .mt m o a, ρ => evE o ρ >>= fun x => if V1.mtOk m x then evE a ρ >>= fun y => V1.mt m x y else .bad
  | .lc elt tg it ci vs, ρ => evIt it ρ >>= fun xs => lcL xs (fun x => asg tg x (wipeE ρ vs) >>= fun ρ' => evC ci ρ' >>= fun t => if t then evE elt ρ' >>= fun d => .ok (some d) else .ok none) >>= fun r => .ok (.list r)
  | .scl a, ρ => evE a ρ >>= fun d => if scalar d then .ok d else .bad
def evEs : Es → En → Rs (List D)
  | .nil, _ => .ok []
  | .cons e es, ρ => evE e ρ >>= fun d => evEs es ρ >>= fun ds => .ok (d :: ds)
def evEo : Eo → En → Rs (Option Int)
  | .no, _ => .ok none
  | .so e, ρ => evE e ρ >>= toInt >>= fun i => .ok (some i)
def evC : Eo → En → Rs Bool
  | .no, _ => .ok true
  | .so e, ρ => evE e ρ >>= tru
def evIt : It → En → Rs (List D)
  | .sq e, ρ => evE e ρ >>= items
  | .r1 a, ρ => evE a ρ >>= toInt >>= fun j => rng 0 j
  | .r2 a b, ρ => evE a ρ >>= fun x => evE b ρ >>= fun y => toInt x >>= fun i => toInt y >>= fun j => rng i j
  | .r3 a b c, ρ => evE a ρ >>= fun x => evE b ρ >>= fun y => evE c ρ >>= fun z => toInt x >>= fun i => toInt y >>= fun j => toInt z >>= fun k => rng3 i j k
  | .en e, ρ => evE e ρ >>= fun x => match x with
    | .list xs => .ok (enumL xs 0)
    | _ => .bad
  | .zp a b, ρ => evE a ρ >>= fun x => evE b ρ >>= fun y => match x, y with
    | .list xs, .list ys => .ok (List.zipWith (fun p q => .tuple [p, q]) xs ys)
    | _, _ => .bad
  | .rv e, ρ => evE e ρ >>= fun x => match x with
    | .list xs => .ok xs.reverse
    | _ => .bad
end

/-! ### statements -/
inductive Fl where
  | nx (ρ : En) | brk (ρ : En) | cnt (ρ : En) | ret (d : D) (ρ : En)
def forL : List D → (D → En → Rs Fl) → En → Rs Fl
  | [], _, ρ => .ok (.nx ρ)
  | x :: xs, f, ρ => f x ρ >>= fun fl => match fl with
    | .nx ρ' => forL xs f ρ'
    | .cnt ρ' => forL xs f ρ'
    | .brk ρ' => .ok (.nx ρ')
    | .ret d ρ' => .ok (.ret d ρ')
def whileL (c : En → Rs Bool) (f : En → Rs Fl) : Nat → En → Rs Fl
  | 0, _ => .bad
  | n + 1, ρ => c ρ >>= fun t => if t then f ρ >>= fun fl => match fl with
      | .nx ρ' => whileL c f n ρ'
      | .cnt ρ' => whileL c f n ρ'
      | .brk ρ' => .ok (.nx ρ')
      | .ret d ρ' => .ok (.ret d ρ')
    else .ok (.nx ρ)
def WF : Nat := 1000000
/-- a place's value -/
def getP (p : Pt) (ρ : En) : Rs D := match p with
  | .v i => get ρ i
  | .ix i k => get ρ i >>= fun x => evE cf k ρ >>= fun j => V1.ix x j
/-- a place's value changed -/
def putP (p : Pt) (ρ : En) (d : D) : Rs En := match p with
  | .v i => .ok (ρ.set i (some d))
  | .ix i k => get ρ i >>= fun x => evE cf k ρ >>= fun j => match x, j with
    | .list xs, .int j => (Rs.of (L2.ixN xs.length j)) >>= fun n => .ok (ρ.set i (some (.list (xs.set n d))))
    | .tuple xs, .int j => (Rs.of (L2.ixN xs.length j)) >>= fun n => .ok (ρ.set i (some (.tuple (xs.set n d))))
    | _, _ => .bad
mutual
def exS : S → En → Rs Fl
  | .set i s e, ρ => evE cf e ρ >>= fun d => if shOk s d then .ok (.nx (ρ.set i (some d))) else .bad
  | .un tg e, ρ => evE cf e ρ >>= fun d => asg tg d ρ >>= fun ρ' => .ok (.nx ρ')
  | .par i j a b, ρ => evE cf a ρ >>= fun x => evE cf b ρ >>= fun y => .ok (.nx ((ρ.set i (some x)).set j (some y)))
  | .mu m p s e, ρ => getP cf p ρ >>= fun x => if isL x then evE cf e ρ >>= fun d => if shOk s d then muD m x d >>= fun x' => putP cf p ρ x' >>= fun ρ' => .ok (.nx ρ') else .bad else .bad
  | .si p k e, ρ => evE cf e ρ >>= fun d => getP cf p ρ >>= fun x => evE cf k ρ >>= fun j => setAt x j d >>= fun x' => putP cf p ρ x' >>= fun ρ' => .ok (.nx ρ')
  | .par2 i k l a b, ρ => evE cf a ρ >>= fun x => evE cf b ρ >>= fun y => evE cf k ρ >>= fun p => evE cf l ρ >>= fun q => get ρ i >>= fun z => setAt z p x >>= fun z' => setAt z' q y >>= fun z2 => .ok (.nx (ρ.set i (some z2)))
  | .aug i o e, ρ => get ρ i >>= fun x => evE cf e ρ >>= fun y => augI o x y >>= fun z => .ok (.nx (ρ.set i (some z)))
  | .appPop i j k, ρ => get ρ i >>= fun x => get ρ j >>= fun y => evE cf k ρ >>= fun n => popAt y n >>= fun r => muD .append x r.1 >>= fun x' => .ok (.nx ((ρ.set j (some r.2)).set i (some x')))
  | .ex e, ρ => evE cf e ρ >>= fun _ => .ok (.nx ρ)
  | .ifs c a b, ρ => evE cf c ρ >>= fun x => tru x >>= fun t => if t then exSs a ρ else exSs b ρ
  | .for_ tg it b, ρ => evIt cf it ρ >>= fun xs => forL xs (fun x ρ' => asg tg x ρ' >>= fun ρ2 => exSs b ρ2) ρ
  | .whl c b, ρ => whileL (fun ρ' => evE cf c ρ' >>= tru) (fun ρ' => exSs b ρ') WF ρ
  | .ret e, ρ => evE cf e ρ >>= fun d => .ok (.ret d ρ)
  | .retv i, ρ => get ρ i >>= fun d => .ok (.ret d ρ)
  | .retN, ρ => .ok (.ret .none ρ)
  | .brk, ρ => .ok (.brk ρ)
  | .cnt, ρ => .ok (.cnt ρ)
  | .pas, ρ => .ok (.nx ρ)
  | .fz _, ρ => .ok (.nx ρ)
def exSs : Ss → En → Rs Fl
  | .nil, ρ => .ok (.nx ρ)
  | .cons s r, ρ => exS s ρ >>= fun fl => match fl with
    | .nx ρ' => exSs r ρ'
    | fl => .ok fl
end
end

/-! ### programs -/
structure Fn where
  name : Str
  np : Nat
  ns : Nat
  body : Ss
  rs : Sh := .fz
  pm : List Sh := []
abbrev Prg := List Fn
def startE (n : Nat) (ds : List D) : En := ds.map some ++ List.replicate (n - ds.length) none
def finals (np : Nat) (ρ : En) : List D := (ρ.take np).map fun o => o.getD .none
def runFn (cf : CF) (f : Fn) (ds : List D) : Rs (D × List D) := if ds.length = f.np then
    exSs cf f.body (startE f.ns ds) >>= fun fl => match fl with
    | .nx ρ => if f.rs = .fz then .ok (.none, finals f.np ρ) else .bad
    | .ret d ρ => if shOk f.rs d then .ok (d, finals f.np ρ) else .bad
    | _ => .bad
  else .bad
def callF (P : Prg) : Nat → CF
  | 0 => fun _ _ => .bad
  | n + 1 => fun k ds => match P[k]? with
    | some f => runFn (callF P n) f ds
    | none => .bad
end MP
/-! part b: how values stand in the heap. -/
namespace MP
open PySem PySem.Spec PyProof.Rows L2

def Ex (H H' : Hp) : Prop := ∀ a o, H a = some o → H' a = some o
theorem Ex.refl (H : Hp) : Ex H H := fun _ _ h => h
theorem Ex.trans {H H1 H2 : Hp} (a : Ex H H1) (b : Ex H1 H2) : Ex H H2 := fun x o h => b x o (a x o h)
theorem Ex.new {H : Hp} {p : Addr} {o : HO} (h : H p = none) : Ex H (upd H p o) := fun a u e => by
  rw [upd_ne (ne_of_none e h)]
  exact e
theorem Ex.back {H H' : Hp} {p : Addr} (e : Ex H H') (h : H' p = none) : H p = none := by
  cases h1 : H p with
  | none => rfl
  | some o => rw [e p o h1] at h; cases h
/-- an object that H does not know may change -/
theorem Ex.mut {H H' : Hp} {p : Addr} {o : HO} (e : Ex H H') (h : H p = none) : Ex H (upd H' p o) := fun a u ha => by
  rw [upd_ne (ne_of_none ha h)]
  exact e a u ha

abbrev AS := Addr → Prop
/-- the addresses that H does not know, and those of A -/
def Nw (A : AS) (H : Hp) : AS := fun a => A a ∨ H a = none
def wo (A : AS) (as : List Addr) : AS := fun a => A a ∧ a ∉ as

section
variable (K : PySem.W.Frag) (A : AS) (H : Hp)
mutual
/-- v stands for the data d, all of whose objects are in A -/
inductive Rp : V → D → Prop
  | non : Rp .non .none
  | bl (b : Bool) : Rp (.bl b) (.bool b)
  | int (i : Int) : Rp (.int i) (.int i)
  | str (x : Str) : Rp (.str x) (.str x)
  | lst {a : Addr} {xs : List V} {ds : List D} : A a → H a = some (.lst xs) → ds.length ≤ V1.LIM → RpL xs ds → Rp (.ref a) (.list ds)
  | tup {a : Addr} {xs : List V} {ds : List D} : ((A a ∧ H a = some (.tup xs)) ∨ SqT K (fun _ => none) a xs) → ds.length ≤ V1.LIM → RpL xs ds → Rp (.ref a) (.tuple ds)
  | wk {a : Addr} {xs : List V} {ds : List D} : ((A a ∧ Rd H a (.lst xs)) ∨ SqL K (fun _ => none) a xs) → ds.length ≤ V1.LIM → RpL xs ds → Rp (.ref a) (.dict [(.none, .list ds)])
inductive RpL : List V → List D → Prop
  | nil : RpL [] []
  | cons {v : V} {vs : List V} {d : D} {ds : List D} : Rp v d → RpL vs ds → RpL (v :: vs) (d :: ds)
end
end
section
variable {K : PySem.W.Frag} {A A' : AS} {H H' : Hp}
theorem sqt0 {a : Addr} {xs : List V} (h : SqT K (fun _ => none) a xs) : SqT K H a xs := by
  rcases h with (h | ⟨o, h⟩) | h
  · cases h
  · cases h
  · exact .inr h
theorem sql0 {a : Addr} {xs : List V} (h : SqL K (fun _ => none) a xs) : SqL K H a xs := by
  rcases h with (h | ⟨o, h⟩) | h
  · cases h
  · cases h
  · exact .inr h
mutual
theorem Rp.mono (hA : ∀ a, A a → H a ≠ none → A' a) (hH : ∀ a o, A a → H a = some o → H' a = some o) : ∀ {d : D} {v : V}, Rp K A H v d → Rp K A' H' v d
  | .none, _, h => by cases h; exact .non
  | .bool _, _, h => by cases h; exact .bl _
  | .int _, _, h => by cases h; exact .int _
  | .str _, _, h => by cases h; exact .str _
  | .list ds, _, h => by
    cases h with
    | lst h1 h2 h3 h4 => exact .lst (hA _ h1 (by rw [h2]; exact fun z => nomatch z)) (hH _ _ h1 h2) h3 (RpL.mono hA hH h4)
  | .tuple ds, _, h => by
    cases h with
    | tup h1 h3 h4 =>
      refine .tup ?_ h3 (RpL.mono hA hH h4)
      rcases h1 with ⟨h1, h2⟩ | h1
      · exact .inl ⟨hA _ h1 (by rw [h2]; exact fun z => nomatch z), hH _ _ h1 h2⟩
      · exact .inr h1
  | .dict [], _, h => by cases h
  | .dict ((.none, .list ds) :: []), _, h => by
    cases h with
    | wk h1 h3 h4 =>
      refine .wk ?_ h3 (RpL.mono hA hH h4)
      rcases h1 with ⟨h1, h2⟩ | h1
      · rcases h2 with h2 | ⟨o, h2⟩
        · exact .inl ⟨hA _ h1 (by rw [h2]; exact fun z => nomatch z), .inl (hH _ _ h1 h2)⟩
        · exact .inl ⟨hA _ h1 (by rw [h2]; exact fun z => nomatch z), .inr ⟨o, hH _ _ h1 h2⟩⟩
      · exact .inr h1
  | .dict ((.bool _, _) :: _), _, h => by cases h
  | .dict ((.int _, _) :: _), _, h => by cases h
  | .dict ((.str _, _) :: _), _, h => by cases h
  | .dict ((.list _, _) :: _), _, h => by cases h
  | .dict ((.tuple _, _) :: _), _, h => by cases h
  | .dict ((.dict _, _) :: _), _, h => by cases h
  | .dict ((.none, .none) :: _), _, h => by cases h
  | .dict ((.none, .bool _) :: _), _, h => by cases h
  | .dict ((.none, .int _) :: _), _, h => by cases h
  | .dict ((.none, .str _) :: _), _, h => by cases h
  | .dict ((.none, .tuple _) :: _), _, h => by cases h
  | .dict ((.none, .dict _) :: _), _, h => by cases h
  | .dict ((.none, .list _) :: _ :: _), _, h => by cases h
theorem RpL.mono (hA : ∀ a, A a → H a ≠ none → A' a) (hH : ∀ a o, A a → H a = some o → H' a = some o) : ∀ {ds : List D} {vs : List V}, RpL K A H vs ds → RpL K A' H' vs ds
  | [], _, h => by cases h; exact .nil
  | _ :: _, _, h => by
    cases h with
    | cons h1 h2 => exact .cons (Rp.mono hA hH h1) (RpL.mono hA hH h2)
end
theorem RpL.length : ∀ {ds : List D} {vs : List V}, RpL K A H vs ds → vs.length = ds.length
  | [], _, h => by cases h; rfl
  | _ :: _, _, h => by
    cases h with
    | cons _ h2 => simp [RpL.length h2]
theorem RpL.get : ∀ {ds : List D} {vs : List V} {i : Nat} {d : D}, RpL K A H vs ds → ds[i]? = some d → ∃ v, vs[i]? = some v ∧ Rp K A H v d
  | [], _, _, _, _, e => by simp at e
  | _ :: _, _, 0, _, h, e => by
    cases h with
    | cons h1 _ => simp at e; subst e; exact ⟨_, rfl, h1⟩
  | _ :: _, _, i + 1, d, h, e => by
    cases h with
    | cons _ h2 =>
      obtain ⟨v, e1, r⟩ := RpL.get (i := i) (d := d) h2 (by simpa using e)
      exact ⟨v, by simpa using e1, r⟩
theorem RpL.getV : ∀ {ds : List D} {vs : List V} {i : Nat} {v : V}, RpL K A H vs ds → vs[i]? = some v → ∃ d, ds[i]? = some d ∧ Rp K A H v d
  | [], _, _, _, h, e => by cases h; simp at e
  | _ :: _, _, 0, _, h, e => by
    cases h with
    | cons h1 _ => simp at e; subst e; exact ⟨_, rfl, h1⟩
  | _ :: _, _, i + 1, d, h, e => by
    cases h with
    | cons _ h2 =>
      obtain ⟨v, e1, r⟩ := RpL.getV (i := i) (v := d) h2 (by simpa using e)
      exact ⟨v, by simpa using e1, r⟩
theorem RpL.append : ∀ {ds es : List D} {vs us : List V}, RpL K A H vs ds → RpL K A H us es → RpL K A H (vs ++ us) (ds ++ es)
  | [], _, _, _, h, q => by cases h; exact q
  | _ :: _, _, _, _, h, q => by
    cases h with
    | cons h1 h2 => exact .cons h1 (RpL.append h2 q)
theorem RpL.one {v : V} {d : D} (h : Rp K A H v d) : RpL K A H [v] [d] := .cons h .nil
theorem RpL.take : ∀ {ds : List D} {vs : List V} (n : Nat), RpL K A H vs ds → RpL K A H (vs.take n) (ds.take n)
  | _, _, 0, _ => by simp; exact .nil
  | [], _, n + 1, h => by cases h; exact .nil
  | _ :: _, _, n + 1, h => by
    cases h with
    | cons h1 h2 => exact .cons h1 (RpL.take n h2)
theorem RpL.drop : ∀ {ds : List D} {vs : List V} (n : Nat), RpL K A H vs ds → RpL K A H (vs.drop n) (ds.drop n)
  | _, _, 0, h => by simpa using h
  | [], _, n + 1, h => by cases h; exact .nil
  | _ :: _, _, n + 1, h => by
    cases h with
    | cons h1 h2 => exact RpL.drop n h2
theorem RpL.set {v : V} {d : D} (q : Rp K A H v d) : ∀ {ds : List D} {vs : List V} (n : Nat), RpL K A H vs ds → RpL K A H (vs.set n v) (ds.set n d)
  | [], _, n, h => by cases h; exact .nil
  | _ :: _, _, 0, h => by
    cases h with
    | cons h1 h2 => exact .cons q h2
  | _ :: _, _, n + 1, h => by
    cases h with
    | cons h1 h2 => exact .cons h1 (RpL.set q n h2)
theorem RpL.erase : ∀ {ds : List D} {vs : List V} (n : Nat), RpL K A H vs ds → RpL K A H (vs.eraseIdx n) (ds.eraseIdx n)
  | [], _, n, h => by cases h; exact .nil
  | _ :: _, _, 0, h => by
    cases h with
    | cons h1 h2 => exact h2
  | _ :: _, _, n + 1, h => by
    cases h with
    | cons h1 h2 => exact .cons h1 (RpL.erase n h2)
theorem RpL.reverse : ∀ {ds : List D} {vs : List V}, RpL K A H vs ds → RpL K A H vs.reverse ds.reverse
  | [], _, h => by cases h; exact .nil
  | _ :: _, _, h => by
    cases h with
    | cons h1 h2 =>
      rw [List.reverse_cons, List.reverse_cons]
      exact (RpL.reverse h2).append (.one h1)
theorem RpL.rep {ds : List D} {vs : List V} (h : RpL K A H vs ds) : ∀ k : Nat, RpL K A H (List.replicate k vs).flatten (List.replicate k ds).flatten
  | 0 => .nil
  | k + 1 => by
    rw [List.replicate_succ, List.replicate_succ, List.flatten_cons, List.flatten_cons]
    exact h.append (RpL.rep h k)
theorem RpL.rangeI (f : Nat → Int) : ∀ n : Nat, RpL K A H ((List.range n).map fun k => V.int (f k)) ((List.range n).map fun k => PyData.int (f k))
  | 0 => .nil
  | n + 1 => by
    rw [List.range_succ, List.map_append, List.map_append]
    exact (RpL.rangeI f n).append (.one (.int _))
theorem RpL.intsO : ∀ {ds : List D} {vs : List V} {ns : List Int}, RpL K A H vs ds → V1.intsO ds = some ns → vs = ns.map V.int
  | [], _, _, h, e => by
    cases h
    cases e
    rfl
  | .int i :: r, _, _, h, e => by
    cases h with
    | cons h1 h2 =>
      cases h1
      unfold V1.intsO at e
      cases q : V1.intsO r with
      | none => rw [q] at e; cases e
      | some ms =>
        rw [q] at e
        cases e
        rw [RpL.intsO h2 q]
        rfl
  | .none :: _, _, _, _, e => by cases e
  | .bool _ :: _, _, _, _, e => by cases e
  | .str _ :: _, _, _, _, e => by cases e
  | .list _ :: _, _, _, _, e => by cases e
  | .tuple _ :: _, _, _, _, e => by cases e
  | .dict _ :: _, _, _, _, e => by cases e
theorem RpL.boolsO : ∀ {ds : List D} {vs : List V} {ns : List Bool}, RpL K A H vs ds → V1.boolsO ds = some ns → vs = ns.map V.bl
  | [], _, _, h, e => by
    cases h
    cases e
    rfl
  | .bool i :: r, _, _, h, e => by
    cases h with
    | cons h1 h2 =>
      cases h1
      unfold V1.boolsO at e
      cases q : V1.boolsO r with
      | none => rw [q] at e; cases e
      | some ms =>
        rw [q] at e
        cases e
        rw [RpL.boolsO h2 q]
        rfl
  | .none :: _, _, _, _, e => by cases e
  | .int _ :: _, _, _, _, e => by cases e
  | .str _ :: _, _, _, _, e => by cases e
  | .list _ :: _, _, _, _, e => by cases e
  | .tuple _ :: _, _, _, _, e => by cases e
  | .dict _ :: _, _, _, _, e => by cases e
theorem intsO_length : ∀ {ds : List D} {ns : List Int}, V1.intsO ds = some ns → ns.length = ds.length
  | [], _, e => by cases e; rfl
  | .int i :: r, _, e => by
    unfold V1.intsO at e
    cases q : V1.intsO r with
    | none => rw [q] at e; cases e
    | some ms =>
      rw [q] at e
      cases e
      simp [intsO_length q]
  | .none :: _, _, e => by cases e
  | .bool _ :: _, _, e => by cases e
  | .str _ :: _, _, e => by cases e
  | .list _ :: _, _, e => by cases e
  | .tuple _ :: _, _, e => by cases e
  | .dict _ :: _, _, e => by cases e
mutual
/-- the library's reading -/
theorem Rp.dp : ∀ {d : D} {v : V}, Rp K A H v d → PyData.hasDict d = false → Dp K H v d
  | .none, _, h, _ => by cases h; exact .non
  | .bool _, _, h, _ => by cases h; exact .bl _
  | .int _, _, h, _ => by cases h; exact .int _
  | .str _, _, h, _ => by cases h; exact .str _
  | .list ds, _, h, c => by
    cases h with
    | lst h1 h2 h3 h4 => exact .lst (.of h2) (RpL.dp h4 (by simpa [PyData.hasDict] using c))
  | .tuple ds, _, h, c => by
    cases h with
    | tup h1 h3 h4 =>
      refine .tup ?_ (RpL.dp h4 (by simpa [PyData.hasDict] using c))
      rcases h1 with ⟨_, h1⟩ | h1
      · exact .of h1
      · exact sqt0 h1
  | .dict _, _, _, c => by simp [PyData.hasDict] at c
theorem RpL.dp : ∀ {ds : List D} {vs : List V}, RpL K A H vs ds → PyData.hasDictAll ds = false → DpAll K H vs ds
  | [], _, h, _ => by cases h; exact .nil
  | d :: ds, _, h, c => by
    cases h with
    | cons h1 h2 =>
      have c' : d.hasDict = false ∧ PyData.hasDictAll ds = false := by simpa [PyData.hasDictAll] using c
      exact .cons (Rp.dp h1 c'.1) (RpL.dp h2 c'.2)
end
theorem shp_lay {d : D} (h : V1.shp d = true) : PyData.hasDict d = false := by
  unfold V1.shp SeqAt.shaped at h
  exact PyData.hasDict_of_canLay d (Bool.and_eq_true_iff.mp h).1
theorem Rp.scal {d : D} {v : V} (h : Rp K A H v d) (s : V1.scalar d = true) : Rp K A' H' v d := by
  cases h with
  | non => exact .non
  | bl b => exact .bl b
  | int i => exact .int i
  | str x => exact .str x
  | lst _ _ _ _ => cases s
  | tup _ _ _ => cases s
  | wk _ _ _ => cases s
theorem Rp.sqt {a : Addr} {ds : List D} (h : Rp K A H (.ref a) (.tuple ds)) : ∃ xs, SqT K H a xs ∧ RpL K A H xs ds ∧ ds.length ≤ V1.LIM := by
  cases h with
  | tup h1 h3 h4 =>
    refine ⟨_, ?_, h4, h3⟩
    rcases h1 with ⟨_, h1⟩ | h1
    · exact .of h1
    · exact sqt0 h1
end
theorem LIM_eq : V1.LIM = sizeLine := by decide

/-! ### what is owned -/
section
variable (K : PySem.W.Frag) (A : AS) (H : Hp)
mutual
inductive Ow : Sh → V → D → List Addr → Prop
  | fz {v : V} {d : D} : Rp K A H v d → Ow .fz v d []
  | ls {s : Sh} {a : Addr} {vs : List V} {ds : List D} {bs : List Addr} : H a = some (.lst vs) → ds.length ≤ V1.LIM → OwL s vs ds bs → Ow (.ls s) (.ref a) (.list ds) (a :: bs)
  | t2 {s1 s2 : Sh} {a : Addr} {v1 v2 : V} {d1 d2 : D} {bs cs : List Addr} : H a = some (.tup [v1, v2]) → Ow s1 v1 d1 bs → Ow s2 v2 d2 cs → Ow (.t2 s1 s2) (.ref a) (.tuple [d1, d2]) (a :: (bs ++ cs))
inductive OwL : Sh → List V → List D → List Addr → Prop
  | nil {s : Sh} : OwL s [] [] []
  | cons {s : Sh} {v : V} {vs : List V} {d : D} {ds : List D} {bs cs : List Addr} : Ow s v d bs → OwL s vs ds cs → OwL s (v :: vs) (d :: ds) (bs ++ cs)
end
end
section
variable {K : PySem.W.Frag} {A A' : AS} {H H' : Hp}
theorem OwL.fz : ∀ {vs : List V} {ds : List D} {as : List Addr}, OwL K A H .fz vs ds as → as = [] ∧ RpL K A H vs ds
  | [], _, _, h => by cases h; exact ⟨rfl, .nil⟩
  | v :: vs, _, _, h => by
    cases h with
    | cons h1 h2 =>
      cases h1 with
      | fz r =>
        obtain ⟨e, q⟩ := OwL.fz h2
        subst e
        exact ⟨rfl, .cons r q⟩
theorem OwL.ofFz : ∀ {ds : List D} {vs : List V}, RpL K A H vs ds → OwL K A H .fz vs ds []
  | [], _, h => by cases h; exact .nil
  | d :: ds, _, h => by
    cases h with
    | cons h1 h2 => exact OwL.cons (bs := []) (cs := []) (.fz h1) (OwL.ofFz h2)
theorem Ow.fzD {v : V} {d : D} {as : List Addr} (h : Ow K A H .fz v d as) : as = [] ∧ Rp K A H v d := by
  cases h with
  | fz r => exact ⟨rfl, r⟩
mutual
theorem Ow.mono (hA : ∀ a, A a → H a ≠ none → A' a) (hH : ∀ a o, A a → H a = some o → H' a = some o) : ∀ {s : Sh} {d : D} {v : V} {as : List Addr}, Ow K A H s v d as → (∀ a ∈ as, ∀ o, H a = some o → H' a = some o) → Ow K A' H' s v d as
  | .fz, d, _, _, h, _ => by
    cases h with
    | fz r => exact .fz (r.mono hA hH)
  | .ls s, .list ds, _, _, h, k => by
    cases h with
    | ls h1 h2 h3 => exact .ls (k _ List.mem_cons_self _ h1) h2 (OwL.mono hA hH h3 fun a ha => k a (List.mem_cons_of_mem _ ha))
  | .t2 s1 s2, .tuple [d1, d2], _, _, h, k => by
    cases h with
    | t2 h1 h2 h3 => exact .t2 (k _ List.mem_cons_self _ h1) (Ow.mono hA hH h2 fun a ha => k a (List.mem_cons_of_mem _ (List.mem_append_left _ ha))) (Ow.mono hA hH h3 fun a ha => k a (List.mem_cons_of_mem _ (List.mem_append_right _ ha)))
  | .ls _, .none, _, _, h, _ => by cases h
  | .ls _, .bool _, _, _, h, _ => by cases h
  | .ls _, .int _, _, _, h, _ => by cases h
  | .ls _, .str _, _, _, h, _ => by cases h
  | .ls _, .tuple _, _, _, h, _ => by cases h
  | .ls _, .dict _, _, _, h, _ => by cases h
  | .t2 _ _, .none, _, _, h, _ => by cases h
  | .t2 _ _, .bool _, _, _, h, _ => by cases h
  | .t2 _ _, .int _, _, _, h, _ => by cases h
  | .t2 _ _, .str _, _, _, h, _ => by cases h
  | .t2 _ _, .list _, _, _, h, _ => by cases h
  | .t2 _ _, .dict _, _, _, h, _ => by cases h
  | .t2 _ _, .tuple [], _, _, h, _ => by cases h
  | .t2 _ _, .tuple [_], _, _, h, _ => by cases h
  | .t2 _ _, .tuple (_ :: _ :: _ :: _), _, _, h, _ => by cases h
theorem OwL.mono (hA : ∀ a, A a → H a ≠ none → A' a) (hH : ∀ a o, A a → H a = some o → H' a = some o) : ∀ {s : Sh} {ds : List D} {vs : List V} {as : List Addr}, OwL K A H s vs ds as → (∀ a ∈ as, ∀ o, H a = some o → H' a = some o) → OwL K A' H' s vs ds as
  | _, [], _, _, h, _ => by cases h; exact .nil
  | _, d :: ds, _, _, h, k => by
    cases h with
    | cons h1 h2 => exact .cons (Ow.mono hA hH h1 fun a ha => k a (List.mem_append_left _ ha)) (OwL.mono hA hH h2 fun a ha => k a (List.mem_append_right _ ha))
end
mutual
/-- what is owned may be shared from now on -/
theorem Ow.rp (hA : ∀ a, A a → H a ≠ none → A' a) : ∀ {s : Sh} {d : D} {v : V} {as : List Addr}, Ow K A H s v d as → (∀ a ∈ as, A' a) → Rp K A' H v d
  | .fz, d, _, _, h, _ => by
    cases h with
    | fz r => exact r.mono hA fun _ _ _ e => e
  | .ls s, .list ds, _, _, h, k => by
    cases h with
    | ls h1 h2 h3 => exact .lst (k _ List.mem_cons_self) h1 h2 (OwL.rp hA h3 fun a ha => k a (List.mem_cons_of_mem _ ha))
  | .t2 s1 s2, .tuple [d1, d2], _, _, h, k => by
    cases h with
    | t2 h1 h2 h3 => exact .tup (.inl ⟨k _ List.mem_cons_self, h1⟩) (by show 2 ≤ V1.LIM; decide) (.cons (Ow.rp hA h2 fun a ha => k a (List.mem_cons_of_mem _ (List.mem_append_left _ ha))) (.one (Ow.rp hA h3 fun a ha => k a (List.mem_cons_of_mem _ (List.mem_append_right _ ha)))))
  | .ls _, .none, _, _, h, _ => by cases h
  | .ls _, .bool _, _, _, h, _ => by cases h
  | .ls _, .int _, _, _, h, _ => by cases h
  | .ls _, .str _, _, _, h, _ => by cases h
  | .ls _, .tuple _, _, _, h, _ => by cases h
  | .ls _, .dict _, _, _, h, _ => by cases h
  | .t2 _ _, .none, _, _, h, _ => by cases h
  | .t2 _ _, .bool _, _, _, h, _ => by cases h
  | .t2 _ _, .int _, _, _, h, _ => by cases h
  | .t2 _ _, .str _, _, _, h, _ => by cases h
  | .t2 _ _, .list _, _, _, h, _ => by cases h
  | .t2 _ _, .dict _, _, _, h, _ => by cases h
  | .t2 _ _, .tuple [], _, _, h, _ => by cases h
  | .t2 _ _, .tuple [_], _, _, h, _ => by cases h
  | .t2 _ _, .tuple (_ :: _ :: _ :: _), _, _, h, _ => by cases h
theorem OwL.rp (hA : ∀ a, A a → H a ≠ none → A' a) : ∀ {s : Sh} {ds : List D} {vs : List V} {as : List Addr}, OwL K A H s vs ds as → (∀ a ∈ as, A' a) → RpL K A' H vs ds
  | _, [], _, _, h, _ => by cases h; exact .nil
  | _, d :: ds, _, _, h, k => by
    cases h with
    | cons h1 h2 => exact .cons (Ow.rp hA h1 fun a ha => k a (List.mem_append_left _ ha)) (OwL.rp hA h2 fun a ha => k a (List.mem_append_right _ ha))
end
mutual
theorem Ow.tracked : ∀ {s : Sh} {d : D} {v : V} {as : List Addr}, Ow K A H s v d as → ∀ a ∈ as, H a ≠ none
  | .fz, d, _, _, h, a, ha => by
    cases h with
    | fz r => cases ha
  | .ls s, .list ds, _, _, h, a, ha => by
    cases h with
    | ls h1 h2 h3 =>
      rcases List.mem_cons.mp ha with e | ha
      · subst e; rw [h1]; exact fun z => nomatch z
      · exact OwL.tracked h3 a ha
  | .t2 s1 s2, .tuple [d1, d2], _, _, h, a, ha => by
    cases h with
    | t2 h1 h2 h3 =>
      rcases List.mem_cons.mp ha with e | ha
      · subst e; rw [h1]; exact fun z => nomatch z
      · rcases List.mem_append.mp ha with ha | ha
        · exact Ow.tracked h2 a ha
        · exact Ow.tracked h3 a ha
  | .ls _, .none, _, _, h, _, _ => by cases h
  | .ls _, .bool _, _, _, h, _, _ => by cases h
  | .ls _, .int _, _, _, h, _, _ => by cases h
  | .ls _, .str _, _, _, h, _, _ => by cases h
  | .ls _, .tuple _, _, _, h, _, _ => by cases h
  | .ls _, .dict _, _, _, h, _, _ => by cases h
  | .t2 _ _, .none, _, _, h, _, _ => by cases h
  | .t2 _ _, .bool _, _, _, h, _, _ => by cases h
  | .t2 _ _, .int _, _, _, h, _, _ => by cases h
  | .t2 _ _, .str _, _, _, h, _, _ => by cases h
  | .t2 _ _, .list _, _, _, h, _, _ => by cases h
  | .t2 _ _, .dict _, _, _, h, _, _ => by cases h
  | .t2 _ _, .tuple [], _, _, h, _, _ => by cases h
  | .t2 _ _, .tuple [_], _, _, h, _, _ => by cases h
  | .t2 _ _, .tuple (_ :: _ :: _ :: _), _, _, h, _, _ => by cases h
theorem OwL.tracked : ∀ {s : Sh} {ds : List D} {vs : List V} {as : List Addr}, OwL K A H s vs ds as → ∀ a ∈ as, H a ≠ none
  | _, [], _, _, h, _, ha => by cases h; cases ha
  | _, d :: ds, _, _, h, a, ha => by
    cases h with
    | cons h1 h2 =>
      rcases List.mem_append.mp ha with ha | ha
      · exact Ow.tracked h1 a ha
      · exact OwL.tracked h2 a ha
end
end
end MP
/-! part c: what an expression promises; the single steps. -/
namespace MP
open PySem PySem.Spec PyProof.Rows L2

/-- the law's surroundings -/
structure Wd where
  P : Prg
  prog : Program
  w : World
  K : PySem.W.Frag
  mg : Str → Option Value
  base : Heap
  CX : CXT
  ca : Str → Addr
def sh (Γ : List Sh) (i : Nat) : Sh := Γ.getD i .fz
def ownS (O : Nat → List Addr) : AS := fun a => ∃ i, a ∈ O i
/-- the heap may change at O, nothing is lost -/
structure Chg (O : AS) (H H' : Hp) : Prop where
  keep : ∀ a o, H a = some o → ¬ O a → H' a = some o
  dom : ∀ a, H' a = none → H a = none
/-- arguments, by their shapes -/
structure ArgsO (K : PySem.W.Frag) (A : AS) (H : Hp) (pm : List Sh) (vs : List V) (ds : List D) (O : Nat → List Addr) : Prop where
  len : vs.length = ds.length
  at_ : ∀ i d, ds[i]? = some d → ∃ v, vs[i]? = some v ∧ Ow K A H (sh pm i) v d (O i)
  out : ∀ i, ds.length ≤ i → O i = []
  nd : ∀ i, (O i).Nodup
  dj : ∀ i j, i ≠ j → ∀ a ∈ O i, a ∉ O j
  sep : ∀ i, ∀ a ∈ O i, ¬ A a
/-- the parameters' objects behind a call -/
structure ArgsF (K : PySem.W.Frag) (A : AS) (H : Hp) (pm : List Sh) (vs : List V) (ds : List D) (O : Nat → List Addr) : Prop where
  at_ : ∀ i d, sh pm i ≠ .fz → ds[i]? = some d → ∃ v, vs[i]? = some v ∧ Ow K A H (sh pm i) v d (O i)
  nd : ∀ i, (O i).Nodup
  dj : ∀ i j, i ≠ j → ∀ a ∈ O i, a ∉ O j
  sep : ∀ i, ∀ a ∈ O i, ¬ A a
def PostF (K : PySem.W.Frag) (f : Fn) (A : AS) (H : Hp) (vs : List V) (O : Nat → List Addr) (d : D) (fin : List D) (Q : VK) : Prop :=
  ∀ v H' as A' O', Chg (ownS O) H H' → (∀ a, A' a → Nw A H a) → Ow K A' H' f.rs v d as → as.Nodup → (∀ a ∈ as, H a = none ∧ ¬ A' a) → ArgsF K A' H' f.pm vs fin O' → (∀ i, ∀ a ∈ O' i, (H a = none ∨ ownS O a) ∧ a ∉ as) → Q v H'
/-- a def's promise -/
def spF (W : Wd) (n k : Nat) : Sp := fun vs H Q E => ∃ f, W.P[k]? = some f ∧ vs.length = f.np ∧ ∃ ds A O, ArgsO W.K A H f.pm vs ds O ∧
  match callF W.P n k ds with
  | .ok (d, fin) => PostF W.K f A H vs O d fin Q
  | .exc c => ∀ H', Chg (ownS O) H H' → E (.ref (W.ca c)) none H'
  | .bad => False

/-! ### what an expression's end is -/
/-- the top node wherever it lies, the rest in A -/
inductive Sr (K : PySem.W.Frag) (A : AS) (H : Hp) : V → D → Prop
  | of {v : V} {d : D} : Rp K A H v d → Sr K A H v d
  | ow {a : Addr} {xs : List V} {ds : List D} : H a = some (.lst xs) → ds.length ≤ V1.LIM → RpL K A H xs ds → Sr K A H (.ref a) (.list ds)
inductive Md where
  | st (s : Sh)
  | op
  deriving DecidableEq
def PostE (K : PySem.W.Frag) : Md → AS → Hp → D → VK → Prop
  | .st s, A, H, d, Q => ∀ v H' as A', Ex H H' → (∀ a, A' a → Nw A H a) → Ow K A' H' s v d as → as.Nodup → (∀ a ∈ as, H a = none ∧ ¬ A' a) → Q v H'
  | .op, A, H, d, Q => ∀ v H', Ex H H' → Sr K (Nw A H) H' v d → Q v H'
def mdOk : Md → D → Bool
  | .st s, d => shOk s d
  | .op, _ => true
section
variable (W : Wd) (E : XK)
def okP (m : Md) (A : AS) (H : Hp) (r : Rs D) (Q : VK) : Prop := match r with
  | .ok d => mdOk m d = true ∧ PostE W.K m A H d Q
  | .exc c => ∀ H', Ex H H' → E (.ref (W.ca c)) none H'
  | .bad => False
/-- for any other value -/
def okG {α : Type} (H : Hp) (r : Rs α) (q : α → Prop) : Prop := match r with
  | .ok d => q d
  | .exc c => ∀ H', Ex H H' → E (.ref (W.ca c)) none H'
  | .bad => False
end
section
variable {W : Wd} {E : XK} {m : Md} {A A' B : AS} {H H' H1 : Hp} {Q Q1 : VK}
theorem Nw.mono (h : Ex H H1) : ∀ a, Nw A H1 a → Nw A H a := fun a q => by
  rcases q with q | q
  · exact .inl q
  · exact .inr (h.back q)
theorem Sr.mono (hA : ∀ a, A a → A' a) (e : Ex H H') {v : V} {d : D} (h : Sr W.K A H v d) : Sr W.K A' H' v d := by
  cases h with
  | of h => exact .of (h.mono (fun a q _ => hA a q) fun _ _ _ q => e _ _ q)
  | ow h1 h2 h3 => exact .ow (e _ _ h1) h2 (h3.mono (fun a q _ => hA a q) fun _ _ _ q => e _ _ q)
theorem Rp.ex (e : Ex H H') {v : V} {d : D} (h : Rp W.K A H v d) : Rp W.K A H' v d := h.mono (fun _ q _ => q) fun _ _ _ q => e _ _ q
theorem RpL.ex (e : Ex H H') {v : List V} {d : List D} (h : RpL W.K A H v d) : RpL W.K A H' v d := h.mono (fun _ q _ => q) fun _ _ _ q => e _ _ q
theorem Rp.sub (hA : ∀ a, A a → A' a) {v : V} {d : D} (h : Rp W.K A H v d) : Rp W.K A' H v d := h.mono (fun a q _ => hA a q) fun _ _ _ q => q
theorem RpL.sub (hA : ∀ a, A a → A' a) {v : List V} {d : List D} (h : RpL W.K A H v d) : RpL W.K A' H v d := h.mono (fun a q _ => hA a q) fun _ _ _ q => q
theorem PostE.ex {d : D} (h : PostE W.K m A H d Q) (e : Ex H H1) : PostE W.K m A H1 d Q := by
  cases m with
  | st s => exact fun v H' as A' e' hA ow nd fr => h v H' as A' (e.trans e') (fun a q => Nw.mono e a (hA a q)) ow nd fun a ha => ⟨e.back (fr a ha).1, (fr a ha).2⟩
  | op => exact fun v H' e' s => h v H' (e.trans e') (s.mono (Nw.mono e) (Ex.refl _))
theorem okP.ex {r : Rs D} (h : okP W E m A H r Q) (e : Ex H H1) : okP W E m A H1 r Q := by
  cases r with
  | ok d => exact ⟨h.1, h.2.ex e⟩
  | exc c => exact fun H' e' => h H' (e.trans e')
  | bad => exact h
/-- what is shared is fit for both -/
theorem PostE.rp {d : D} (h : PostE W.K m A H d Q) (hm : m = .st .fz ∨ m = .op) {v : V} (e : Ex H H') (r : Rp W.K (Nw A H) H' v d) : Q v H' := by
  rcases hm with rfl | rfl
  · exact h v H' [] (Nw A H) e (fun _ q => q) (.fz r) List.nodup_nil (fun _ q => by cases q)
  · exact h v H' e (.of r)
theorem shOk_fz (d : D) : shOk .fz d = true := by unfold shOk; rfl
theorem okP_bind {x : Rs D} {f : D → Rs D} (h : okP W E m A H (x >>= f) Q) (k : ∀ d, x = .ok d → okP W E m A H (f d) Q → ∀ v H1, Ex H H1 → Rp W.K (Nw A H) H1 v d → Q1 v H1) : okP W E (.st .fz) A H x Q1 := by
  cases x with
  | ok d => exact ⟨shOk_fz d, fun v H' as A' e hA ow _ _ => k d rfl h v H' e (ow.fzD.2.sub hA)⟩
  | exc c => exact h
  | bad => exact h
theorem okP_bindO {x : Rs D} {f : D → Rs D} (h : okP W E m A H (x >>= f) Q) (k : ∀ d, x = .ok d → okP W E m A H (f d) Q → ∀ v H1, Ex H H1 → Sr W.K (Nw A H) H1 v d → Q1 v H1) : okP W E .op A H x Q1 := by
  cases x with
  | ok d => exact ⟨rfl, fun v H' e s => k d rfl h v H' e s⟩
  | exc c => exact h
  | bad => exact h
theorem okG_bind {α : Type} {q : α → Prop} {x : Rs D} {f : D → Rs α} (h : okG W E H (x >>= f) q) (k : ∀ d, x = .ok d → okG W E H (f d) q → ∀ v H1, Ex H H1 → Rp W.K (Nw A H) H1 v d → Q1 v H1) : okP W E (.st .fz) A H x Q1 := by
  cases x with
  | ok d => exact ⟨shOk_fz d, fun v H' as A' e hA ow _ _ => k d rfl h v H' e (ow.fzD.2.sub hA)⟩
  | exc c => exact h
  | bad => exact h
theorem okG_bindO {α : Type} {q : α → Prop} {x : Rs D} {f : D → Rs α} (h : okG W E H (x >>= f) q) (k : ∀ d, x = .ok d → okG W E H (f d) q → ∀ v H1, Ex H H1 → Sr W.K (Nw A H) H1 v d → Q1 v H1) : okP W E .op A H x Q1 := by
  cases x with
  | ok d => exact ⟨rfl, fun v H' e s => k d rfl h v H' e s⟩
  | exc c => exact h
  | bad => exact h
theorem okP.up {r : Rs D} (h : okP W E m A H r Q) (e : Ex H H1) : okP W E m (Nw A H) H1 r Q := by
  have hN : ∀ a, Nw (Nw A H) H1 a → Nw A H a := fun a q => q.elim id fun z => .inr (e.back z)
  cases r with
  | ok d =>
    refine ⟨h.1, ?_⟩
    cases m with
    | st s => exact fun v H' as A' e' hA ow nd fr => h.2 v H' as A' (e.trans e') (fun a q => hN a (hA a q)) ow nd fun a ha => ⟨e.back (fr a ha).1, (fr a ha).2⟩
    | op => exact fun v H' e' s => h.2 v H' (e.trans e') (s.mono hN (Ex.refl _))
  | exc c => exact fun H' e' => h H' (e.trans e')
  | bad => exact h
theorem okP.down {r : Rs D} {A' : AS} (h : okP W E m A' H1 r Q) (hA : ∀ a, A a → A' a := by exact fun a q => Or.inl q) : okP W E m A H1 r Q := by
  have hN : ∀ a, Nw A H1 a → Nw A' H1 a := fun a q => q.elim (fun q => .inl (hA a q)) .inr
  cases r with
  | ok d =>
    refine ⟨h.1, ?_⟩
    cases m with
    | st s => exact fun v H' as A2 e' hA ow nd fr => h.2 v H' as A2 e' (fun a q => hN a (hA a q)) ow nd fr
    | op => exact fun v H' e' s => h.2 v H' e' (s.mono hN (Ex.refl _))
  | exc c => exact h
  | bad => exact h
theorem okG.ex {α : Type} {q : α → Prop} {r : Rs α} (h : okG W E H r q) (e : Ex H H1) : okG W E H1 r q := by
  cases r with
  | ok d => exact h
  | exc c => exact fun H' e' => h H' (e.trans e')
  | bad => exact h
/-- a result that is no object of its own -/
theorem okP.val {d : D} (h : okP W E m A H (.ok d) Q) (hm : m = .st .fz ∨ m = .op) {v : V} (e : Ex H H') (r : Rp W.K (Nw A H) H' v d) : Q v H' := by
  exact PostE.rp h.2 hm e r
def mNew (m : Md) : Bool := match m with
  | .st .fz => true
  | .st (.ls .fz) => true
  | .op => true
  | _ => false
theorem shOkL_fz : ∀ ds : List D, shOkL .fz ds = true
  | [] => by unfold shOkL; rfl
  | _ :: _ => by unfold shOkL; rfl
/-- a new list -/
theorem okP.newL {ds : List D} (h : okP W E m A H (.ok (.list ds)) Q) (hm : mNew m = true) {p : Addr} {xs : List V} (e : Ex H H1) (hp : H1 p = none) (hz : ds.length ≤ V1.LIM) (r : RpL W.K (Nw A H) H1 xs ds) : Q (.ref p) (upd H1 p (.lst xs)) := by
  have e2 : Ex H (upd H1 p (.lst xs)) := e.trans (Ex.new hp)
  have hpn : H p = none := e.back hp
  have rp : Rp W.K (Nw A H) (upd H1 p (.lst xs)) (.ref p) (.list ds) := .lst (.inr hpn) upd_same hz (r.ex (Ex.new hp))
  cases m with
  | op => exact h.2 _ _ e2 (.of rp)
  | st s =>
    cases s with
    | fz => exact h.2 _ _ [] (Nw A H) e2 (fun _ q => q) (.fz rp) List.nodup_nil (fun _ q => by cases q)
    | ls s =>
      cases s with
      | fz =>
        refine h.2 _ _ [p] (fun a => Nw A H a ∧ a ≠ p) e2 (fun _ q => q.1) (.ls upd_same hz (OwL.ofFz (r.mono (A' := fun a => Nw A H a ∧ a ≠ p) ?_ ?_))) (by simp) ?_
        · exact fun a q t => ⟨q, fun z => t (z ▸ hp)⟩
        · exact fun a o _ q => Ex.new hp a o q
        · intro a ha
          rw [List.mem_singleton] at ha
          subst ha
          exact ⟨hpn, fun z => z.2 rfl⟩
      | _ => cases hm
    | _ => cases hm
theorem okP.mode {d : D} (h : okP W E m A H (.ok d) Q) (hm : mNew m = true) (nl : ∀ xs, d ≠ .list xs) : m = .st .fz ∨ m = .op := by
  cases m with
  | op => exact .inr rfl
  | st s =>
    cases s with
    | fz => exact .inl rfl
    | ls s =>
      have q : shOk (.ls s) d = true := h.1
      cases d with
      | list xs => exact absurd rfl (nl xs)
      | _ => unfold shOk at q; cases q
    | t2 a b => cases hm
/-- a result that is no list -/
theorem okP.valN {d : D} (h : okP W E m A H (.ok d) Q) (hm : mNew m = true) (nl : ∀ xs, d ≠ .list xs) {v : V} (e : Ex H H') (r : Rp W.K (Nw A H) H' v d) : Q v H' := h.val (h.mode hm nl) e r
theorem Sr.list {v : V} {ds : List D} (h : Sr W.K A H v (.list ds)) : ∃ a xs, v = .ref a ∧ H a = some (.lst xs) ∧ ds.length ≤ V1.LIM ∧ RpL W.K A H xs ds := by
  cases h with
  | of h =>
    cases h with
    | lst h1 h2 h3 h4 => exact ⟨_, _, rfl, h2, h3, h4⟩
  | ow h1 h2 h3 => exact ⟨_, _, rfl, h1, h2, h3⟩
theorem Sr.tup {v : V} {ds : List D} (h : Sr W.K A H v (.tuple ds)) : ∃ a xs, v = .ref a ∧ SqT W.K H a xs ∧ ds.length ≤ V1.LIM ∧ RpL W.K A H xs ds ∧ Rp W.K A H v (.tuple ds) := by
  cases h with
  | of h =>
    cases h with
    | tup h1 h2 h3 =>
      refine ⟨_, _, rfl, ?_, h2, h3, .tup h1 h2 h3⟩
      rcases h1 with ⟨_, h1⟩ | h1
      · exact .of h1
      · exact sqt0 h1
theorem Sr.wk {v : V} {ds : List D} (h : Sr W.K A H v (.dict [(.none, .list ds)])) : ∃ a xs, v = .ref a ∧ SqL W.K H a xs ∧ ds.length ≤ V1.LIM ∧ RpL W.K A H xs ds := by
  cases h with
  | of h =>
    cases h with
    | wk h1 h2 h3 =>
      refine ⟨_, _, rfl, ?_, h2, h3⟩
      rcases h1 with ⟨_, h1⟩ | h1
      · exact .inl h1
      · exact sql0 h1
theorem Sr.int {v : V} {i : Int} (h : Sr W.K A H v (.int i)) : v = .int i := by
  cases h with
  | of h => cases h; rfl
theorem Sr.bl {v : V} {i : Bool} (h : Sr W.K A H v (.bool i)) : v = .bl i := by
  cases h with
  | of h => cases h; rfl
theorem Sr.str {v : V} {i : Str} (h : Sr W.K A H v (.str i)) : v = .str i := by
  cases h with
  | of h => cases h; rfl
theorem Sr.non {v : V} (h : Sr W.K A H v .none) : v = .non := by
  cases h with
  | of h => cases h; rfl
theorem Sr.dp {v : V} {d : D} (h : Sr W.K A H v d) (c : PyData.hasDict d = false) : Dp W.K H v d := by
  cases h with
  | of h => exact h.dp c
  | ow h1 h2 h3 => exact .lst (.of h1) (h3.dp (by simpa [PyData.hasDict] using c))
theorem Sr.scal {v : V} {d : D} (h : Sr W.K A H v d) (s : V1.scalar d = true) : Rp W.K A' H' v d := by
  cases h with
  | of h => exact h.scal s
  | ow _ _ _ => cases s
/-- a new tuple -/
theorem okP.newT {ds : List D} (h : okP W E m A H (.ok (.tuple ds)) Q) (hm : mNew m = true) {p : Addr} {xs : List V} (e : Ex H H1) (hp : H1 p = none) (hz : ds.length ≤ V1.LIM) (r : RpL W.K (Nw A H) H1 xs ds) : Q (.ref p) (upd H1 p (.tup xs)) :=
  h.valN hm (fun _ z => nomatch z) (e.trans (Ex.new hp)) (.tup (.inl ⟨.inr (e.back hp), upd_same⟩) hz (r.ex (Ex.new hp)))

/-! ### operators by values -/
section
variable (W E)
/-- two values, what they stand for, what is to come -/
def r2 (f : D → D → Rs D) : R2 := fun x y H Q => ∃ m A H0 dx dy, mNew m = true ∧ Ex H0 H ∧ Sr W.K (Nw A H0) H x dx ∧ Sr W.K (Nw A H0) H y dy ∧ okP W E m A H0 (f dx dy) Q
def r1 (f : D → Rs D) : V → Hp → VK → Prop := fun x H Q => ∃ m A H0 dx, mNew m = true ∧ Ex H0 H ∧ Sr W.K (Nw A H0) H x dx ∧ okP W E m A H0 (f dx) Q
end
theorem OpR.weak {X : Cx} {f : Value → Value → Sem Value} {r r' : R2} (h : OpR X f r) (q : ∀ x y H Q, r' x y H Q → r x y H Q) : OpR X f r' := fun pins s σ H x y v u Q I rx ry hq => h pins s σ H x y v u Q I rx ry (q x y H Q hq)
end
end MP
/-! part d: operators, comparisons, subscripts, built-ins by values. -/
namespace MP
open PySem PySem.Spec PyProof.Rows L2
section
variable {W : Wd} {E : XK} {X : Cx}
theorem limx_ok {α : Type} {n : Nat} {x : Rs α} : (V1.limx n x = x ∧ n ≤ V1.LIM) ∨ V1.limx n x = .bad := by
  unfold V1.limx
  split
  · exact .inl ⟨rfl, by assumption⟩
  · exact .inr rfl
theorem okP.lim {m : Md} {A : AS} {H : Hp} {n : Nat} {x : Rs D} {Q : VK} (h : okP W E m A H (V1.limx n x) Q) : n ≤ V1.LIM ∧ okP W E m A H x Q := by
  rcases limx_ok (n := n) (x := x) with ⟨e, l⟩ | e
  · rw [e] at h; exact ⟨l, h⟩
  · rw [e] at h; exact h.elim
theorem okP.iff {m : Md} {A : AS} {H : Hp} {c : Prop} [Decidable c] {x : Rs D} {Q : VK} (h : okP W E m A H (if c then x else .bad) Q) : c ∧ okP W E m A H x Q := by
  split at h
  · exact ⟨by assumption, h⟩
  · exact h.elim
theorem line_le {n : Nat} (h : n ≤ V1.LIM) : n ≤ sizeLine := by rw [← LIM_eq]; exact h

theorem op_add_ (hK : X.K = W.K) : OpR X (binaryOp .Add) (r2 W E (V1.op2 .add)) := by
  refine OpR.weak ((op_add (X := X)).or (op_add_str.or (op_cat.or op_catA))) ?_
  rintro x y H Q ⟨m, A, H0, dx, dy, hm, e, rx, ry, h⟩
  cases dx with
  | int i =>
    cases dy with
    | int j =>
      cases rx.int
      cases ry.int
      exact .inl ⟨i, j, rfl, rfl, h.valN hm (fun _ z => nomatch z) e (.int _)⟩
    | _ => exact h.elim
  | str i =>
    cases dy with
    | str j =>
      cases rx.str
      cases ry.str
      obtain ⟨l, h⟩ := okP.lim h
      exact .inr (.inl ⟨i, j, rfl, rfl, line_le l, h.valN hm (fun _ z => nomatch z) e (.str _)⟩)
    | _ => exact h.elim
  | list xs =>
    cases dy with
    | list ys =>
      obtain ⟨a, us, rfl, h1, h2, h3⟩ := rx.list
      obtain ⟨b, ws, rfl, k1, k2, k3⟩ := ry.list
      obtain ⟨l, h⟩ := okP.lim h
      refine .inr (.inr (.inl ⟨a, b, us, ws, rfl, rfl, h1, k1, line_le (by rw [h3.length, k3.length]; exact l), fun p hp => ?_⟩))
      exact h.newL hm e hp (by rw [List.length_append]; exact l) (h3.append k3)
    | _ => exact h.elim
  | tuple xs =>
    cases dy with
    | tuple ys =>
      obtain ⟨a, us, rfl, h1, h2, h3, h4⟩ := rx.tup
      obtain ⟨b, ws, rfl, k1, k2, k3, k4⟩ := ry.tup
      obtain ⟨l, h⟩ := okP.lim h
      rw [hK]
      refine .inr (.inr (.inr ⟨a, b, us, ws, rfl, rfl, h1, k1, line_le (by rw [h3.length, k3.length]; exact l), fun q => ?_, fun q q2 => ?_, fun q q2 p hp => ?_⟩))
      · subst q
        have : xs = [] := by
          have := h3.length
          cases xs with
          | nil => rfl
          | cons _ _ => simp at this
        subst this
        exact h.valN hm (fun _ z => nomatch z) e k4
      · subst q2
        have : ys = [] := by
          have := k3.length
          cases ys with
          | nil => rfl
          | cons _ _ => simp at this
        subst this
        rw [List.append_nil] at h
        exact h.valN hm (fun _ z => nomatch z) e h4
      · exact h.newT hm e hp (by rw [List.length_append]; exact l) (h3.append k3)
    | _ => exact h.elim
  | _ => exact h.elim
/-- an operator of two ints -/
theorem OpR.ints {f : Value → Value → Sem Value} {C : Int → Int → Prop} {g : Int → Int → D} {gv : Int → Int → V} {F : D → D → Rs D} (h : OpR X f (rI C gv))
    (hF : ∀ m A H0 dx dy Q, okP W E m A H0 (F dx dy) Q → ∃ i j, dx = .int i ∧ dy = .int j ∧ C i j ∧ okP W E m A H0 (.ok (g i j)) Q)
    (hg : ∀ i j, (∀ xs, g i j ≠ .list xs) ∧ ∀ (K : PySem.W.Frag) (A : AS) (H : Hp), Rp K A H (gv i j) (g i j)) : OpR X f (r2 W E F) := by
  refine OpR.weak h ?_
  rintro x y H Q ⟨m, A, H0, dx, dy, hm, e, rx, ry, h⟩
  obtain ⟨i, j, rfl, rfl, c, h⟩ := hF _ _ _ _ _ _ h
  cases rx.int
  cases ry.int
  exact ⟨i, j, rfl, rfl, c, h.valN hm (hg i j).1 e ((hg i j).2 _ _ _)⟩
theorem rI_of {f : Value → Value → Sem Value} {g : Int → Int → V} (h : OpR X f (rI0 g)) : OpR X f (rI (fun _ _ => True) g) := OpR.weak h fun _ _ _ _ ⟨i, j, e1, e2, _, q⟩ => ⟨i, j, e1, e2, q⟩
theorem op_sub_ : OpR X (binaryOp .Sub) (r2 W E (V1.op2 .sub)) := by
  refine OpR.ints (g := fun i j => .int (i - j)) (rI_of op_sub) (fun m A H0 dx dy Q h => ?_) fun i j => ⟨(fun _ z => nomatch z), fun _ _ _ => .int _⟩
  cases dx <;> cases dy <;> first | exact ⟨_, _, rfl, rfl, trivial, h⟩ | exact h.elim
theorem op_band_ : OpR X (binaryOp .BitAnd) (r2 W E (V1.op2 .band)) := by
  refine OpR.ints (g := fun i j => .int (Builtin.bitAnd i j)) (rI_of op_and) (fun m A H0 dx dy Q h => ?_) fun i j => ⟨(fun _ z => nomatch z), fun _ _ _ => .int _⟩
  cases dx <;> cases dy <;> first | exact ⟨_, _, rfl, rfl, trivial, h⟩ | exact h.elim
theorem op_mod_ : OpR X (binaryOp .Mod) (r2 W E (V1.op2 .mod)) := by
  refine OpR.ints (g := fun i j => .int (i.fmod j)) op_modN (fun m A H0 dx dy Q h => ?_) fun i j => ⟨(fun _ z => nomatch z), fun _ _ _ => .int _⟩
  cases dx <;> cases dy <;> first | (obtain ⟨c, h⟩ := okP.iff h; exact ⟨_, _, rfl, rfl, c, h⟩) | exact h.elim
theorem op_pow_ : OpR X (binaryOp .Pow) (r2 W E (V1.op2 .pow)) := by
  refine OpR.ints (g := fun i j => .int (i ^ j.toNat)) op_pow (fun m A H0 dx dy Q h => ?_) fun i j => ⟨(fun _ z => nomatch z), fun _ _ _ => .int _⟩
  cases dx <;> cases dy <;> first | (obtain ⟨c, h⟩ := okP.iff h; exact ⟨_, _, rfl, rfl, by simpa [V1.powOk, CPow, and_assoc] using c, h⟩) | exact h.elim
theorem op_shl_ : OpR X (binaryOp .LShift) (r2 W E (V1.op2 .shl)) := by
  refine OpR.ints (g := fun i j => .int (i * 2 ^ j.toNat)) op_shl (fun m A H0 dx dy Q h => ?_) fun i j => ⟨(fun _ z => nomatch z), fun _ _ _ => .int _⟩
  cases dx <;> cases dy <;> first | (obtain ⟨c, h⟩ := okP.iff h; exact ⟨_, _, rfl, rfl, by simpa [V1.powOk, CPow, and_assoc] using c, h⟩) | exact h.elim
theorem op_shr_ : OpR X (binaryOp .RShift) (r2 W E (V1.op2 .shr)) := by
  refine OpR.ints (g := fun i j => .int (i / 2 ^ j.toNat)) op_shr (fun m A H0 dx dy Q h => ?_) fun i j => ⟨(fun _ z => nomatch z), fun _ _ _ => .int _⟩
  cases dx <;> cases dy <;> first | (obtain ⟨c, h⟩ := okP.iff h; exact ⟨_, _, rfl, rfl, c, h⟩) | exact h.elim
theorem op_fdiv_ : OpR X (binaryOp .FloorDiv) (r2 W E (V1.op2 .fdiv)) := by
  have h2 : OpR X (binaryOp .FloorDiv) (rI CDivW fun i j => .int (i.fdiv j)) := OpR.weak op_fdivW fun x y H Q ⟨i, j, e1, e2, c, q⟩ => ⟨i, j, e1, e2, c, by show Q (V.int (i / j)) H; rw [← Int.fdiv_eq_ediv_of_nonneg i (by have := c.1; omega)]; exact q⟩
  have h3 : OpR X (binaryOp .FloorDiv) (rI (fun i j => CDivN i j ∨ CDivW i j) fun i j => .int (i.fdiv j)) := OpR.weak (OpR.or op_fdivN h2) fun x y H Q ⟨i, j, e1, e2, c, q⟩ => c.elim (fun c => .inl ⟨i, j, e1, e2, c, q⟩) fun c => .inr ⟨i, j, e1, e2, c, q⟩
  refine OpR.ints (g := fun i j => .int (i.fdiv j)) h3 (fun m A H0 dx dy Q h => ?_) fun i j => ⟨(fun _ z => nomatch z), fun _ _ _ => .int _⟩
  cases dx <;> cases dy <;> first | (obtain ⟨c, h⟩ := okP.iff h; refine ⟨_, _, rfl, rfl, ?_, h⟩) | exact h.elim
  simp only [V1.divOk, Bool.and_eq_true, Bool.or_eq_true, decide_eq_true_eq] at c
  rcases c with ⟨c1, c2 | c2⟩
  · exact .inl ⟨c1, c2⟩
  · exact .inr c2
theorem op_mul_ : OpR X (binaryOp .Mult) (r2 W E (V1.op2 .mul)) := by
  refine OpR.weak ((op_mul (X := X)).or (op_mulW.or op_rep)) ?_
  rintro x y H Q ⟨m, A, H0, dx, dy, hm, e, rx, ry, h⟩
  cases dx with
  | int i =>
    cases dy with
    | int j =>
      cases rx.int
      cases ry.int
      obtain ⟨c, h⟩ := okP.iff h
      have q := h.valN hm (fun _ z => nomatch z) e (.int _)
      simp only [V1.mulOk, Bool.and_eq_true, Bool.or_eq_true, decide_eq_true_eq] at c
      rcases c with c | c
      · exact .inl ⟨i, j, rfl, rfl, c, q⟩
      · exact .inr (.inl ⟨i, j, rfl, rfl, c, q⟩)
    | _ => exact h.elim
  | list xs =>
    cases dy with
    | int k =>
      obtain ⟨a, us, rfl, h1, h2, h3⟩ := rx.list
      cases ry.int
      obtain ⟨c, h⟩ := okP.iff h
      obtain ⟨l, h⟩ := okP.lim h
      refine .inr (.inr ⟨a, k, us, rfl, rfl, h1, c.1, c.2, line_le (by rw [h3.length]; exact l), fun p hp => ?_⟩)
      refine h.newL hm e hp ?_ (h3.rep _)
      rw [PyProof.Rows.lm_len_rep_flat, Nat.mul_comm]
      exact l
    | _ => exact h.elim
  | _ => exact h.elim
/-! comparisons -/
theorem shp2 {d e : D} (h : (V1.shp d && V1.shp e) = true) : V1.shp d = true ∧ V1.shp e = true := Bool.and_eq_true_iff.mp h
theorem op_eq_ (hK : X.K = W.K) (hu : X.A.units + 64 < cLine) : OpR X (compareOp .Eq) (r2 W E (V1.cmp2 .eq)) := by
  refine OpR.weak (op_eqD hu) ?_
  rintro x y H Q ⟨m, A, H0, dx, dy, hm, e, rx, ry, h⟩
  obtain ⟨c, h⟩ := okP.iff (c := (V1.shp dx && V1.shp dy) = true) (x := .ok (.bool (PyData.eqv dx dy))) (by unfold V1.cmp2 at h; exact h)
  obtain ⟨c1, c2⟩ := shp2 c
  rw [hK]
  exact ⟨dx, dy, rx.dp (shp_lay c1), ry.dp (shp_lay c2), c1, c2, h.valN hm (fun _ z => nomatch z) e (.bl _)⟩
theorem op_ne_ (hK : X.K = W.K) (hu : X.A.units + 64 < cLine) : OpR X (compareOp .NotEq) (r2 W E (V1.cmp2 .ne)) := by
  refine OpR.weak (op_neD hu) ?_
  rintro x y H Q ⟨m, A, H0, dx, dy, hm, e, rx, ry, h⟩
  obtain ⟨c, h⟩ := okP.iff (c := (V1.shp dx && V1.shp dy) = true) (x := .ok (.bool (!PyData.eqv dx dy))) (by unfold V1.cmp2 at h; exact h)
  obtain ⟨c1, c2⟩ := shp2 c
  rw [hK]
  exact ⟨dx, dy, rx.dp (shp_lay c1), ry.dp (shp_lay c2), c1, c2, h.valN hm (fun _ z => nomatch z) e (.bl _)⟩
theorem shp2' {a b : Bool} (h : (a && b) = true) : a = true ∧ b = true := Bool.and_eq_true_iff.mp h
theorem op_lt_ : OpR X (compareOp .Lt) (r2 W E (V1.cmp2 .lt)) := by
  refine OpR.ints (g := fun i j => .bool (decide (i < j))) (rI_of op_lt) (fun m A H0 dx dy Q h => ?_) fun i j => ⟨(fun _ z => nomatch z), fun _ _ _ => .bl _⟩
  cases dx <;> cases dy <;> first | exact ⟨_, _, rfl, rfl, trivial, h⟩ | exact h.elim
theorem op_le_ : OpR X (compareOp .LtE) (r2 W E (V1.cmp2 .le)) := by
  refine OpR.ints (g := fun i j => .bool (decide (i ≤ j))) (rI_of op_le) (fun m A H0 dx dy Q h => ?_) fun i j => ⟨(fun _ z => nomatch z), fun _ _ _ => .bl _⟩
  cases dx <;> cases dy <;> first | exact ⟨_, _, rfl, rfl, trivial, h⟩ | exact h.elim
theorem op_gt_ : OpR X (compareOp .Gt) (r2 W E (V1.cmp2 .gt)) := by
  refine OpR.ints (g := fun i j => .bool (decide (j < i))) (rI_of op_gt) (fun m A H0 dx dy Q h => ?_) fun i j => ⟨(fun _ z => nomatch z), fun _ _ _ => .bl _⟩
  cases dx <;> cases dy <;> first | exact ⟨_, _, rfl, rfl, trivial, h⟩ | exact h.elim
theorem op_ge_ : OpR X (compareOp .GtE) (r2 W E (V1.cmp2 .ge)) := by
  refine OpR.ints (g := fun i j => .bool (decide (j ≤ i))) (rI_of op_ge) (fun m A H0 dx dy Q h => ?_) fun i j => ⟨(fun _ z => nomatch z), fun _ _ _ => .bl _⟩
  cases dx <;> cases dy <;> first | exact ⟨_, _, rfl, rfl, trivial, h⟩ | exact h.elim
theorem eqv_all (x : D) (hx : V1.scalar x = true) : ∀ (ds : List D) (vs : List V) (A : AS) (H : Hp) (v : V), RpL W.K A H vs ds → Rp W.K A H v x → ds.all V1.scalar = true →
    flatV v = true ∧ vs.all flatV = true ∧ inV v vs = ds.any fun z => PyData.eqv z x := by
  have one : ∀ (A : AS) (H : Hp) (v : V) (d : D), Rp W.K A H v d → V1.scalar d = true → flatV v = true := by
    intro A H v d r s
    cases r with
    | lst _ _ _ _ => cases s
    | tup _ _ _ => cases s
    | wk _ _ _ => cases s
    | _ => rfl
  have two : ∀ (A : AS) (H : Hp) (v u : V) (d e : D), Rp W.K A H v d → Rp W.K A H u e → V1.scalar d = true → V1.scalar e = true → eqV v u = PyData.eqv d e := by
    intro A H v u d e r q s t
    cases r with
    | lst _ _ _ _ => cases s
    | tup _ _ _ => cases s
    | wk _ _ _ => cases s
    | _ =>
      cases q with
      | lst _ _ _ _ => cases t
      | tup _ _ _ => cases t
      | wk _ _ _ => cases t
      | _ => first | (simp only [eqV, PyData.eqv]; done) | (simp [eqV, PyData.eqv]; done) | (simp only [eqV, PyData.eqv]; first | rfl | (rw [beq_comm]) | decide | (cases ‹Bool› <;> rfl) | skip)
  intro ds
  induction ds with
  | nil =>
    intro vs A H v r q _
    cases r
    exact ⟨one _ _ _ _ q hx, rfl, rfl⟩
  | cons d ds ih =>
    intro vs A H v r q s
    cases r with
    | cons r1 r2 =>
      rw [List.all_cons, Bool.and_eq_true] at s
      obtain ⟨h1, h2, h3⟩ := ih _ A H v r2 q s.2
      refine ⟨h1, by rw [List.all_cons, one _ _ _ _ r1 s.1, h2]; rfl, ?_⟩
      show (eqV _ v || inV v _) = (PyData.eqv d x || _)
      rw [two _ _ _ _ _ _ r1 q s.1 hx, h3]
theorem op_in_ (hK : X.K = W.K) (hu : X.A.units + 65 < cLine) : OpR X (compareOp .In) (r2 W E (V1.cmp2 .isin)) := by
  refine OpR.weak ((op_inD hu).or op_in_seq) ?_
  rintro x y H Q ⟨m, A, H0, dx, dy, hm, e, rx, ry, h⟩
  rw [hK]
  cases dy with
  | list ds =>
    obtain ⟨c, h⟩ := okP.iff (c := (V1.shp dx && V1.shp (.list ds)) = true) (x := .ok (.bool (ds.any fun z => PyData.eqv z dx))) (by unfold V1.cmp2 at h; exact h)
    obtain ⟨c1, c2⟩ := shp2 c
    exact .inl ⟨dx, ds, rx.dp (shp_lay c1), ry.dp (shp_lay c2), c1, c2, h.valN hm (fun _ z => nomatch z) e (.bl _)⟩
  | tuple ds =>
    obtain ⟨c, h⟩ := okP.iff (c := (V1.scalar dx && ds.all V1.scalar) = true) (x := .ok (.bool (ds.any fun z => PyData.eqv z dx))) (by unfold V1.cmp2 at h; exact h)
    obtain ⟨c1, c2⟩ := shp2' c
    obtain ⟨a, us, rfl, h1, h2, h3, _⟩ := ry.tup
    obtain ⟨f1, f2, f3⟩ := eqv_all dx c1 ds us _ _ x h3 (rx.scal c1) c2
    refine .inr ⟨a, us, rfl, .inr h1, f1, f2, ?_⟩
    show Q (.bl (inV x us)) H
    rw [f3]
    exact h.valN hm (fun _ z => nomatch z) e (.bl _)
  | _ => exact (by unfold V1.cmp2 at h; exact h.elim)
theorem op_notin_ (hK : X.K = W.K) (hu : X.A.units + 65 < cLine) : OpR X (compareOp .NotIn) (r2 W E (V1.cmp2 .notin)) := by
  refine OpR.weak ((op_notInD hu).or op_notIn_seq) ?_
  rintro x y H Q ⟨m, A, H0, dx, dy, hm, e, rx, ry, h⟩
  rw [hK]
  cases dy with
  | list ds =>
    obtain ⟨c, h⟩ := okP.iff (c := (V1.shp dx && V1.shp (.list ds)) = true) (x := .ok (.bool (!ds.any fun z => PyData.eqv z dx))) (by unfold V1.cmp2 at h; exact h)
    obtain ⟨c1, c2⟩ := shp2 c
    exact .inl ⟨dx, ds, rx.dp (shp_lay c1), ry.dp (shp_lay c2), c1, c2, h.valN hm (fun _ z => nomatch z) e (.bl _)⟩
  | tuple ds =>
    obtain ⟨c, h⟩ := okP.iff (c := (V1.scalar dx && ds.all V1.scalar) = true) (x := .ok (.bool (!ds.any fun z => PyData.eqv z dx))) (by unfold V1.cmp2 at h; exact h)
    obtain ⟨c1, c2⟩ := shp2' c
    obtain ⟨a, us, rfl, h1, h2, h3, _⟩ := ry.tup
    obtain ⟨f1, f2, f3⟩ := eqv_all dx c1 ds us _ _ x h3 (rx.scal c1) c2
    refine .inr ⟨a, us, rfl, .inr h1, f1, f2, ?_⟩
    show Q (.bl (!inV x us)) H
    rw [f3]
    exact h.valN hm (fun _ z => nomatch z) e (.bl _)
  | _ => exact (by unfold V1.cmp2 at h; exact h.elim)
/-! items, slices -/
theorem IxR.weak {r r' : R2} (h : IxR X r) (q : ∀ x y H Q, r' x y H Q → r x y H Q) : IxR X r' := fun va sl pins s σ H x y v u Q I rx ry hq => h va sl pins s σ H x y v u Q I rx ry (q x y H Q hq)
theorem atI_rel {α β : Type} {xs : List α} {ys : List β} (hl : xs.length = ys.length) {i : Int} {y : β} (h : L2.atI ys i = some y) : ∃ j : Nat, ys[j]? = some y ∧ ∀ x, xs[j]? = some x → L2.atI xs i = some x := by
  unfold L2.atI at h ⊢
  rw [hl]
  cases e : L2.ixN ys.length i with
  | none => rw [e] at h; cases h
  | some j =>
    rw [e] at h
    exact ⟨j, h, fun x q => q⟩
theorem of_ok {α : Type} {x : Option α} {m : Md} {A : AS} {H : Hp} {Q : VK} {f : α → Rs D} (h : okP W E m A H (Rs.of x >>= f) Q) : ∃ a, x = some a ∧ okP W E m A H (f a) Q := by
  cases x with
  | none => exact h.elim
  | some a => exact ⟨a, rfl, h⟩
theorem at_ok {xs : List D} {i : Int} {m : Md} {A : AS} {H : Hp} {Q : VK} (h : okP W E m A H (V1.at_ xs i) Q) : ∃ d, L2.atI xs i = some d ∧ okP W E m A H (.ok d) Q := by
  unfold V1.at_ at h
  cases e : L2.atI xs i with
  | none => rw [e] at h; exact h.elim
  | some d => rw [e] at h; exact ⟨d, rfl, h⟩
def mSh (m : Md) : Bool := decide (m = .st .fz) || decide (m = .op)
theorem mSh_of {m : Md} (h : mSh m = true) : m = .st .fz ∨ m = .op := by simpa [mSh] using h
theorem mSh_new {m : Md} (h : mSh m = true) : mNew m = true := by
  rcases mSh_of h with rfl | rfl <;> rfl
section
variable (W E)
def r2s (f : D → D → Rs D) : R2 := fun x y H Q => ∃ m A H0 dx dy, mSh m = true ∧ Ex H0 H ∧ Sr W.K (Nw A H0) H x dx ∧ Sr W.K (Nw A H0) H y dy ∧ okP W E m A H0 (f dx dy) Q
end
theorem ix_ (hK : X.K = W.K) : IxR X (r2s W E V1.ix) := by
  refine IxR.weak ((ix_list (X := X)).or (ix_tup.or ix_str)) ?_
  rintro x y H Q ⟨m, A, H0, dx, dy, hm, e, rx, ry, h⟩
  rw [hK]
  have hm := mSh_of hm
  unfold V1.ix at h
  split at h
  · rename_i xs i
    obtain ⟨a, us, rfl, h1, h2, h3⟩ := rx.list
    cases ry.int
    obtain ⟨d, hd, h⟩ := at_ok h
    obtain ⟨j, hj, q⟩ := atI_rel h3.length hd
    obtain ⟨v, hv, r⟩ := h3.get hj
    exact .inl ⟨a, us, i, v, rfl, rfl, .of h1, q v hv, h.val hm e r⟩
  · rename_i xs i
    obtain ⟨a, us, rfl, h1, h2, h3, _⟩ := rx.tup
    cases ry.int
    obtain ⟨d, hd, h⟩ := at_ok h
    obtain ⟨j, hj, q⟩ := atI_rel h3.length hd
    obtain ⟨v, hv, r⟩ := h3.get hj
    exact .inr (.inl ⟨a, us, i, v, rfl, rfl, h1, q v hv, h.val hm e r⟩)
  · rename_i xs i
    obtain ⟨a, us, rfl, h1, h2, h3⟩ := rx.wk
    cases ry.int
    obtain ⟨d, hd, h⟩ := at_ok h
    obtain ⟨j, hj, q⟩ := atI_rel h3.length hd
    obtain ⟨v, hv, r⟩ := h3.get hj
    exact .inl ⟨a, us, i, v, rfl, rfl, h1, q v hv, h.val hm e r⟩
  · rename_i s i
    cases rx.str
    cases ry.int
    obtain ⟨c, hc, h⟩ := of_ok h
    obtain ⟨l, h⟩ := okP.lim h
    exact .inr (.inr ⟨s, i, c, rfl, rfl, line_le l, hc, h.val hm e (.str _)⟩)
  · exact h.elim
theorem SlR.weak {r r' : V → Option Int → Option Int → Hp → VK → Prop} (h : SlR X r) (q : ∀ x lo hi H Q, r' x lo hi H Q → r x lo hi H Q) : SlR X r' := fun pins s σ H x v vl vu lo hi sl Q I rx hs p1 p2 hq => h pins s σ H x v vl vu lo hi sl Q I rx hs p1 p2 (q x lo hi H Q hq)
theorem cut_rel {A : AS} {H : Hp} {us : List V} {xs : List D} (r : RpL W.K A H us xs) (lo hi : Option Int) : RpL W.K A H (cutV us lo hi) (V1.cut xs lo hi) := by
  unfold cutV V1.cut
  rw [r.length]
  exact (r.drop _).take _
theorem cut_len (xs : List D) (lo hi : Option Int) : (V1.cut xs lo hi).length ≤ xs.length := by
  unfold V1.cut
  rw [List.length_take, List.length_drop]
  omega
section
variable (W E)
def r3 (f : D → Option Int → Option Int → Rs D) : V → Option Int → Option Int → Hp → VK → Prop := fun x lo hi H Q => ∃ m A H0 dx, mNew m = true ∧ Ex H0 H ∧ Sr W.K (Nw A H0) H x dx ∧ okP W E m A H0 (f dx lo hi) Q
end
theorem cut_whole {α : Type} (xs : List α) (lo hi : Option Int) (h : HT.sIx xs.length 0 lo = 0 ∧ HT.sIx xs.length xs.length hi = xs.length) : V1.cut xs lo hi = xs := by
  unfold V1.cut
  rw [h.1, h.2]
  simp
theorem sl_ (hK : X.K = W.K) : SlR X (r3 W E V1.sl) := by
  refine SlR.weak ((sl_list (X := X)).or sl_tupA) ?_
  rintro x lo hi H Q ⟨m, A, H0, dx, hm, e, rx, h⟩
  rw [hK]
  cases dx with
  | list xs =>
    obtain ⟨a, us, rfl, h1, h2, h3⟩ := rx.list
    exact .inl ⟨a, us, rfl, .of h1, fun p hp => h.newL hm e hp (Nat.le_trans (cut_len _ _ _) h2) (cut_rel h3 lo hi)⟩
  | tuple xs =>
    obtain ⟨a, us, rfl, h1, h2, h3, h4⟩ := rx.tup
    refine .inr ⟨a, us, rfl, h1, fun q => ?_, fun q p hp => ?_⟩
    · have h : okP W E m A H0 (.ok (.tuple (V1.cut xs lo hi))) Q := h
      rw [h3.length] at q
      rw [cut_whole xs lo hi q] at h
      exact h.valN hm (fun _ z => nomatch z) e h4
    · exact h.newT hm e hp (Nat.le_trans (cut_len _ _ _) h2) (cut_rel h3 lo hi)
  | _ => exact h.elim
end
end MP
/-! part e: built-ins by values. -/
namespace MP
open PySem PySem.Spec PyProof.Rows L2
section
variable {W : Wd} {E : XK} {X : Cx}
section
variable (W E)
/-- a call of one value, of two -/
def c1 (f : D → Rs D) : List V → Hp → VK → Prop := fun vs H Q => ∃ x m A H0 dx, vs = [x] ∧ mNew m = true ∧ Ex H0 H ∧ Sr W.K (Nw A H0) H x dx ∧ okP W E m A H0 (f dx) Q
def c2 (f : D → D → Rs D) : List V → Hp → VK → Prop := fun vs H Q => ∃ x y m A H0 dx dy, vs = [x, y] ∧ mNew m = true ∧ Ex H0 H ∧ Sr W.K (Nw A H0) H x dx ∧ Sr W.K (Nw A H0) H y dy ∧ okP W E m A H0 (f dx dy) Q
end
theorem CallR.weak {f : Value} {r r' : List V → Hp → VK → Prop} (h : CallR X f r) (q : ∀ vs H Q, r' vs H Q → r vs H Q) : CallR X f r' := fun pins s σ H vs us Q I rv hq => h pins s σ H vs us Q I rv (q vs H Q hq)
theorem b_len (hK : X.K = W.K) : CallR X (.builtin "len") (c1 W E (V1.bi1 .len)) := by
  refine CallR.weak call_len ?_
  rintro vs H Q ⟨x, m, A, H0, dx, rfl, hm, e, rx, h⟩
  rw [hK]
  cases dx with
  | list xs =>
    obtain ⟨a, us, rfl, h1, h2, h3⟩ := rx.list
    exact ⟨_, _, rfl, .inl ⟨us, .of h1, h3.length.symm⟩, h.valN hm (fun _ z => nomatch z) e (.int _)⟩
  | tuple xs =>
    obtain ⟨a, us, rfl, h1, h2, h3, _⟩ := rx.tup
    exact ⟨_, _, rfl, .inr ⟨us, h1, h3.length.symm⟩, h.valN hm (fun _ z => nomatch z) e (.int _)⟩
  | str s =>
    cases rx.str
    obtain ⟨l, h⟩ := okP.lim h
    exact ⟨_, _, rfl, ⟨line_le l, rfl⟩, h.valN hm (fun _ z => nomatch z) e (.int _)⟩
  | dict kvs =>
    unfold V1.bi1 at h
    split at h
    all_goals first
      | exact h.elim
      | (rename_i e2; cases e2; done)
      | skip
    rename_i xs e2
    cases e2
    obtain ⟨a, us, rfl, h1, h2, h3⟩ := rx.wk
    exact ⟨_, _, rfl, .inl ⟨us, h1, h3.length.symm⟩, h.valN hm (fun _ z => nomatch z) e (.int _)⟩
  | _ => exact h.elim
theorem b_int : CallR X (.type "int") (c1 W E (V1.bi1 .int)) := by
  refine CallR.weak call_int1 ?_
  rintro vs H Q ⟨x, m, A, H0, dx, rfl, hm, e, rx, h⟩
  cases dx with
  | int i =>
    cases rx.int
    exact .inl ⟨i, rfl, h.valN hm (fun _ z => nomatch z) e (.int _)⟩
  | bool b =>
    cases rx.bl
    refine .inr ⟨b, rfl, ?_⟩
    exact h.valN hm (fun _ z => nomatch z) e (.int (V1.b2i b))
  | _ => exact h.elim
theorem b_abs : CallR X (.builtin "abs") (c1 W E (V1.bi1 .abs)) := by
  refine CallR.weak call_abs ?_
  rintro vs H Q ⟨x, m, A, H0, dx, rfl, hm, e, rx, h⟩
  cases dx with
  | int i =>
    cases rx.int
    exact ⟨i, rfl, h.valN hm (fun _ z => nomatch z) e (.int _)⟩
  | _ => exact h.elim
theorem b_sum (hK : X.K = W.K) (hc : X.calm = true) : CallR X (.builtin "sum") (c1 W E (V1.bi1 .sum)) := by
  refine CallR.weak (cr_sum hc) ?_
  rintro vs H Q ⟨x, m, A, H0, dx, rfl, hm, e, rx, h⟩
  rw [hK]
  cases dx with
  | list xs =>
    obtain ⟨a, us, rfl, h1, h2, h3⟩ := rx.list
    obtain ⟨ns, hn, h⟩ := of_ok h
    cases h3.intsO hn
    exact ⟨a, ns, rfl, .of h1, h.valN hm (fun _ z => nomatch z) e (.int _)⟩
  | _ => exact h.elim
theorem foldl_max : ∀ (xs : List Int) (x : Int), (xs.foldl (fun a b => if b > a then b else a) x = x ∨ xs.foldl (fun a b => if b > a then b else a) x ∈ xs) ∧ x ≤ xs.foldl (fun a b => if b > a then b else a) x ∧ ∀ y ∈ xs, y ≤ xs.foldl (fun a b => if b > a then b else a) x
  | [], x => ⟨.inl rfl, Int.le_refl _, fun _ h => by cases h⟩
  | z :: xs, x => by
    obtain ⟨h1, h2, h3⟩ := foldl_max xs (if z > x then z else x)
    rw [List.foldl_cons]
    refine ⟨?_, ?_, fun y hy => ?_⟩
    · rcases h1 with h1 | h1
      · rw [h1]
        split
        · exact .inr List.mem_cons_self
        · exact .inl rfl
      · exact .inr (List.mem_cons_of_mem _ h1)
    · refine Int.le_trans ?_ h2
      split <;> omega
    · rcases List.mem_cons.mp hy with rfl | hy
      · refine Int.le_trans ?_ h2
        split <;> omega
      · exact h3 y hy
theorem foldl_min : ∀ (xs : List Int) (x : Int), (xs.foldl (fun a b => if b < a then b else a) x = x ∨ xs.foldl (fun a b => if b < a then b else a) x ∈ xs) ∧ xs.foldl (fun a b => if b < a then b else a) x ≤ x ∧ ∀ y ∈ xs, xs.foldl (fun a b => if b < a then b else a) x ≤ y
  | [], x => ⟨.inl rfl, Int.le_refl _, fun _ h => by cases h⟩
  | z :: xs, x => by
    obtain ⟨h1, h2, h3⟩ := foldl_min xs (if z < x then z else x)
    rw [List.foldl_cons]
    refine ⟨?_, ?_, fun y hy => ?_⟩
    · rcases h1 with h1 | h1
      · rw [h1]
        split
        · exact .inr List.mem_cons_self
        · exact .inl rfl
      · exact .inr (List.mem_cons_of_mem _ h1)
    · refine Int.le_trans h2 ?_
      split <;> omega
    · rcases List.mem_cons.mp hy with rfl | hy
      · refine Int.le_trans h2 ?_
        split <;> omega
      · exact h3 y hy
theorem b_max (hK : X.K = W.K) (hc : X.calm = true) : CallR X (.builtin "max") (c1 W E (V1.bi1 .max)) := by
  refine CallR.weak (cr_max hc) ?_
  rintro vs H Q ⟨x, m, A, H0, dx, rfl, hm, e, rx, h⟩
  rw [hK]
  cases dx with
  | list xs =>
    obtain ⟨a, us, rfl, h1, h2, h3⟩ := rx.list
    obtain ⟨ns, hn, h⟩ := of_ok h
    cases h3.intsO hn
    cases ns with
    | nil => exact h.elim
    | cons z ns =>
      refine ⟨a, z :: ns, rfl, .of h1, by simp, fun k hk hle => ?_⟩
      obtain ⟨g1, g2, g3⟩ := foldl_max ns z
      have e1 : k = ns.foldl (fun a b => if b > a then b else a) z := by
        refine Int.le_antisymm ?_ ?_
        · rcases List.mem_cons.mp hk with rfl | hk
          · exact g2
          · exact g3 k hk
        · rcases g1 with g1 | g1
          · rw [g1]; exact hle z List.mem_cons_self
          · exact hle _ (List.mem_cons_of_mem _ g1)
      rw [e1]
      exact h.valN hm (fun _ z => nomatch z) e (.int _)
  | _ => exact h.elim
theorem b_min (hK : X.K = W.K) (hc : X.calm = true) : CallR X (.builtin "min") (c1 W E (V1.bi1 .min)) := by
  refine CallR.weak (cr_min hc) ?_
  rintro vs H Q ⟨x, m, A, H0, dx, rfl, hm, e, rx, h⟩
  rw [hK]
  cases dx with
  | list xs =>
    obtain ⟨a, us, rfl, h1, h2, h3⟩ := rx.list
    obtain ⟨ns, hn, h⟩ := of_ok h
    cases h3.intsO hn
    cases ns with
    | nil => exact h.elim
    | cons z ns =>
      refine ⟨a, z :: ns, rfl, .of h1, by simp, fun k hk hle => ?_⟩
      obtain ⟨g1, g2, g3⟩ := foldl_min ns z
      have e1 : k = ns.foldl (fun a b => if b < a then b else a) z := by
        refine Int.le_antisymm ?_ ?_
        · rcases g1 with g1 | g1
          · rw [g1]; exact hle z List.mem_cons_self
          · exact hle _ (List.mem_cons_of_mem _ g1)
        · rcases List.mem_cons.mp hk with rfl | hk
          · exact g2
          · exact g3 k hk
      rw [e1]
      exact h.valN hm (fun _ z => nomatch z) e (.int _)
  | _ => exact h.elim
theorem b_all (hK : X.K = W.K) (hc : X.calm = true) : CallR X (.builtin "all") (c1 W E (V1.bi1 .all)) := by
  refine CallR.weak (cr_all hc) ?_
  rintro vs H Q ⟨x, m, A, H0, dx, rfl, hm, e, rx, h⟩
  rw [hK]
  cases dx with
  | list xs =>
    obtain ⟨a, us, rfl, h1, h2, h3⟩ := rx.list
    obtain ⟨ns, hn, h⟩ := of_ok h
    cases h3.boolsO hn
    exact ⟨a, ns, rfl, .of h1, h.valN hm (fun _ z => nomatch z) e (.bl _)⟩
  | _ => exact h.elim
theorem b_any (hK : X.K = W.K) (hc : X.calm = true) : CallR X (.builtin "any") (c1 W E (V1.bi1 .any)) := by
  refine CallR.weak (cr_any hc) ?_
  rintro vs H Q ⟨x, m, A, H0, dx, rfl, hm, e, rx, h⟩
  rw [hK]
  cases dx with
  | list xs =>
    obtain ⟨a, us, rfl, h1, h2, h3⟩ := rx.list
    obtain ⟨ns, hn, h⟩ := of_ok h
    cases h3.boolsO hn
    exact ⟨a, ns, rfl, .of h1, h.valN hm (fun _ z => nomatch z) e (.bl _)⟩
  | _ => exact h.elim
theorem b_list (hK : X.K = W.K) : CallR X (.type "list") (c1 W E (V1.bi1 .list)) := by
  refine CallR.weak call_list_of ?_
  rintro vs H Q ⟨x, m, A, H0, dx, rfl, hm, e, rx, h⟩
  rw [hK]
  cases dx with
  | list xs =>
    obtain ⟨a, us, rfl, h1, h2, h3⟩ := rx.list
    exact ⟨a, us, rfl, .inl (.of h1), fun l hl => h.newL hm e hl h2 h3⟩
  | tuple xs =>
    obtain ⟨a, us, rfl, h1, h2, h3, _⟩ := rx.tup
    exact ⟨a, us, rfl, .inr h1, fun l hl => h.newL hm e hl h2 h3⟩
  | _ => exact h.elim
theorem b_tuple (hK : X.K = W.K) : CallR X (.type "tuple") (c1 W E (V1.bi1 .tuple)) := by
  refine CallR.weak call_tuple_of ?_
  rintro vs H Q ⟨x, m, A, H0, dx, rfl, hm, e, rx, h⟩
  rw [hK]
  cases dx with
  | list xs =>
    obtain ⟨a, us, rfl, h1, h2, h3⟩ := rx.list
    exact ⟨a, us, rfl, .inl ⟨.of h1, fun l hl => h.newT hm e hl h2 h3⟩⟩
  | tuple xs =>
    obtain ⟨a, us, rfl, h1, h2, h3, h4⟩ := rx.tup
    exact ⟨a, us, rfl, .inr ⟨h1, h.valN hm (fun _ z => nomatch z) e h4⟩⟩
  | _ => exact h.elim
theorem b_str : CallR X (.type "str") (c1 W E (V1.bi1 .str)) := by
  refine CallR.weak call_str_int ?_
  rintro vs H Q ⟨x, m, A, H0, dx, rfl, hm, e, rx, h⟩
  cases dx with
  | int i =>
    cases rx.int
    obtain ⟨c, h⟩ := okP.iff h
    exact ⟨i, rfl, c, h.valN hm (fun _ z => nomatch z) e (.str _)⟩
  | _ => exact h.elim
theorem b_max2 (hc : X.calm = true) : CallR X (.builtin "max") (c2 W E (V1.bi2 .max2)) := by
  refine CallR.weak (call_max2 hc) ?_
  rintro vs H Q ⟨x, y, m, A, H0, dx, dy, rfl, hm, e, rx, ry, h⟩
  cases dx <;> cases dy <;> first | exact h.elim | skip
  cases rx.int
  cases ry.int
  exact ⟨_, _, rfl, h.valN hm (fun _ z => nomatch z) e (.int _)⟩
theorem b_min2 (hc : X.calm = true) : CallR X (.builtin "min") (c2 W E (V1.bi2 .min2)) := by
  refine CallR.weak (call_min2 hc) ?_
  rintro vs H Q ⟨x, y, m, A, H0, dx, dy, rfl, hm, e, rx, ry, h⟩
  cases dx <;> cases dy <;> first | exact h.elim | skip
  cases rx.int
  cases ry.int
  exact ⟨_, _, rfl, h.valN hm (fun _ z => nomatch z) e (.int _)⟩
/-! sorted -/
theorem dpAll_len {K : PySem.W.Frag} {H : Hp} : ∀ {vs : List V} {ds : List PyData}, DpAll K H vs ds → vs.length = ds.length
  | _, _, .nil => rfl
  | _, _, .cons _ h => by rw [List.length_cons, List.length_cons, dpAll_len h]
def RvD (v : Value) (b : D × V) : Prop := RelV b.2 v
theorem each_zip {K : PySem.W.Frag} {H : Hp} : ∀ {vs : List V} {ds : List PyData} {us : List Value}, DpAll K H vs ds → Vals vs us → PySem.W.EachIs RvD us (ds.zip vs)
  | _, _, _, .nil, .nil => .nil
  | _, _, _, .cons _ h, .cons r t => .cons r (each_zip h t)
theorem vals_each : ∀ {us : List Value} {bs : List (D × V)}, PySem.W.EachIs RvD us bs → Vals (bs.map (·.2)) us
  | _, _, .nil => .nil
  | _, _, .cons r t => .cons r (vals_each t)
theorem each_fst {h : Heap} : ∀ {us : List Value} {ds : List PyData} {vs : List V}, ds.length = vs.length → PySem.W.EachIs (fun v (b : D) => ∃ as, Reads h v b as) us ds → PySem.W.EachIs (fun v (b : D × V) => ∃ as, Reads h v b.1 as) us (ds.zip vs)
  | [], [], [], _, _ => .nil
  | u :: us, d :: ds, v :: vs, e, q => by
    cases q with
    | cons a b => exact .cons a (each_fst (by simpa using e) b)
  | [], [], _ :: _, e, _ => by simp at e
  | _, _ :: _, [], e, _ => by simp at e
  | [], _ :: _, _ :: _, _, q => by cases q
  | _ :: _, [], _, _, q => by cases q
theorem zip_fst {α β : Type} : ∀ {xs : List α} {ys : List β}, xs.length = ys.length → (xs.zip ys).map (·.1) = xs
  | [], [], _ => rfl
  | x :: xs, y :: ys, h => by
    show x :: (xs.zip ys).map (·.1) = x :: xs
    rw [zip_fst (by simpa using h)]
  | [], _ :: _, h => by simp at h
  | _ :: _, [], h => by simp at h
def rSortD (K : PySem.W.Frag) : List V → Hp → VK → Prop := fun xs H Q => ∃ (a : Addr) (vs : List V) (ds : List D), xs = [V.ref a] ∧ SqL K H a vs ∧ DpAll K H vs ds ∧ V1.sortOk ds = true ∧
  ∀ (bs : List (D × V)) (p : Addr), bs.Perm (ds.zip vs) → bs.map (·.1) = ds.mergeSort (PySem.W.dataLe false id) → H p = none → Q (.ref p) (upd H p (.lst (bs.map (·.2))))
theorem sortOk_facts {ds : List D} (h : V1.sortOk ds = true) : PySem.W.AllAlike ds ∧ PySem.W.Sortable ds ∧ ∀ d ∈ ds, d.depth ≤ 64 := by
  unfold V1.sortOk at h
  rw [Bool.and_eq_true, Bool.and_eq_true, Bool.or_eq_true] at h
  obtain ⟨⟨h1, h2⟩, h3⟩ := h
  refine ⟨fun d hd e he => ?_, ?_, fun d hd => ?_⟩
  · exact List.all_eq_true.mp (List.all_eq_true.mp h1 d hd) e he
  · rcases h2 with h2 | h2
    · refine .inl fun d hd => ?_
      have q := List.all_eq_true.mp h2 d hd
      split at q
      · exact ⟨_, _, rfl⟩
      · cases q
    · refine .inr fun d hd => ?_
      have q := List.all_eq_true.mp h2 d hd
      refine ⟨fun z => ?_, fun xs z => ?_⟩
      · rw [z] at q; cases q
      · rw [z] at q; cases q
  · exact of_decide_eq_true (List.all_eq_true.mp h3 d hd)
theorem cr_sortD (hu : X.A.units + 70 < cLine) : CallR X (.builtin "sorted") (rSortD X.K) := by
  intro pins s σ H xs us Q I r h
  obtain ⟨a, vs, ds, rfl, hs, hd, ok, q⟩ := h
  obtain ⟨its, rv, hl, hz⟩ := I.list hs
  rw [Vals.ref1 r]
  obtain ⟨k1, k2, k3⟩ := sortOk_facts ok
  have hlen := dpAll_len hd
  have hzip := zip_fst (xs := ds) (ys := vs) hlen.symm
  obtain ⟨as, hr⟩ := Dp.readsAll I ds vs its hd rv
  have er : PySem.W.EachIs (fun v (b : D × V) => ∃ as, Reads s.heap v b.1 as) its (ds.zip vs) :=
    each_fst hlen.symm (PySem.W.readsAll_each id (by rw [List.map_id]; exact hr))
  have hm : (ds.zip vs).map Prod.fst = ds := hzip
  refine PySem.W.sorted_data (enc := Prod.fst) (R := RvD) (bs := ds.zip vs) hl.isList (each_zip hd rv) er (by rw [hm]; exact k1) (by rw [hm]; exact k2) ?_ (fun b hb => ?_) fun out ol eo => ?_
  · rw [List.length_zip, hlen]
    have := hz
    omega
  · have : b.1 ∈ ds := by rw [← hm]; exact List.mem_map.mpr ⟨b, hb, rfl⟩
    have := k3 _ this
    omega
  · obtain ⟨ep, he'⟩ := PyProof.Rows.sortedAll_at s.heap its (List.toArray out)
    have perm : ((ds.zip vs).mergeSort (PySem.W.dataLe false Prod.fst)).Perm (ds.zip vs) := List.mergeSort_perm _ _
    have hl2 : (((ds.zip vs).mergeSort (PySem.W.dataLe false Prod.fst)).map (·.2)).length ≤ sizeLine := by
      rw [List.length_map, perm.length_eq, List.length_zip, hlen, Nat.min_self, ← hlen]
      exact hz
    refine ⟨.ref _, upd H (s.heap.objs.size + 1) (.lst (((ds.zip vs).mergeSort (PySem.W.dataLe false Prod.fst)).map (·.2))), I.laid (t' := s.toks) (fun _ _ => PyProof.Rows.sortedAll_old) (Nat.le_succ _) ⟨hl2, out, ep, vals_each eo, he'⟩, rfl, q _ _ perm ?_ (I.hok.fresh (Nat.le_succ _))⟩
    have hs2 := List.map_mergeSort (r := PySem.W.dataLe false (Prod.fst : D × V → D)) (s := PySem.W.dataLe false (id : D → D)) (f := Prod.fst) (l := ds.zip vs) (fun a _ b _ => rfl)
    rw [hm] at hs2
    exact hs2
theorem RpL.of_mem {A : AS} {H : Hp} : ∀ {bs : List (D × V)}, (∀ b ∈ bs, Rp W.K A H b.2 b.1) → RpL W.K A H (bs.map (·.2)) (bs.map (·.1))
  | [], _ => .nil
  | b :: bs, h => .cons (h b List.mem_cons_self) (RpL.of_mem fun c hc => h c (List.mem_cons_of_mem _ hc))
theorem RpL.zip_mem {A : AS} {H : Hp} : ∀ {ds : List D} {vs : List V}, RpL W.K A H vs ds → ∀ b ∈ ds.zip vs, Rp W.K A H b.2 b.1
  | [], _, h, b, hb => by cases h; cases hb
  | d :: ds, _, h, b, hb => by
    cases h with
    | cons h1 h2 =>
      rcases List.mem_cons.mp (show b ∈ (d, _) :: ds.zip _ from hb) with e | hb
      · subst e; exact h1
      · exact RpL.zip_mem h2 b hb
mutual
theorem alike_lay : ∀ d : D, PySem.W.alike d d = true → d.hasDict = false
  | .none, _ => by simp [PyData.hasDict]
  | .bool _, _ => by simp [PyData.hasDict]
  | .int _, _ => by simp [PyData.hasDict]
  | .str _, _ => by simp [PyData.hasDict]
  | .list xs, h => by
    simp only [PyData.hasDict]
    exact alikeAll_lay xs (by simpa [PySem.W.alike] using h)
  | .tuple xs, h => by
    simp only [PyData.hasDict]
    exact alikeAll_lay xs (by simpa [PySem.W.alike] using h)
  | .dict _, h => by simp [PySem.W.alike] at h
theorem alikeAll_lay : ∀ ds : List D, PySem.W.alikeAll ds ds = true → PyData.hasDictAll ds = false
  | [], _ => by simp [PyData.hasDictAll]
  | d :: ds, h => by
    simp only [PySem.W.alikeAll, Bool.and_eq_true] at h
    simp only [PyData.hasDictAll, alike_lay d h.1, alikeAll_lay ds h.2, Bool.or_self]
end
theorem layAll_of : ∀ {ds : List D}, (∀ d ∈ ds, d.hasDict = false) → PyData.hasDictAll ds = false
  | [], _ => by simp [PyData.hasDictAll]
  | d :: ds, h => by
    simp only [PyData.hasDictAll, h d List.mem_cons_self, layAll_of fun e he => h e (List.mem_cons_of_mem _ he), Bool.or_self]
theorem b_sorted (hK : X.K = W.K) (hu : X.A.units + 70 < cLine) : CallR X (.builtin "sorted") (c1 W E (V1.bi1 .sorted)) := by
  refine CallR.weak (cr_sortD hu) ?_
  rintro vs H Q ⟨x, m, A, H0, dx, rfl, hm, e, rx, h⟩
  rw [hK]
  cases dx with
  | list ds =>
    obtain ⟨a, us, rfl, h1, h2, h3⟩ := rx.list
    obtain ⟨c, h⟩ := okP.iff h
    have lay : PyData.hasDictAll ds = false := layAll_of fun d hd => alike_lay d ((sortOk_facts c).1 d hd d hd)
    refine ⟨a, us, ds, rfl, .of h1, h3.dp lay, c, fun bs p perm hb hp => ?_⟩
    have r : RpL W.K (Nw A H0) H (bs.map (·.2)) (bs.map (·.1)) := RpL.of_mem fun b q => RpL.zip_mem h3 b (perm.mem_iff.mp q)
    rw [hb] at r
    exact h.newL hm e hp (by rw [List.length_mergeSort]; exact h2) r
  | _ => exact h.elim
/-! isinstance -/
def tyS : Ty → Str
  | .int => "int"
  | .bool => "bool"
  | .str => "str"
  | .list => "list"
  | .tuple => "tuple"
def tyN : Ty → String
  | .int => "int"
  | .bool => "bool"
  | .str => "str"
  | .list => "list"
  | .tuple => "tuple"
theorem boot_ty (t : Ty) : bootBuiltins (tyS t) = some (.type (tyN t)) := by cases t <;> decide +kernel
def tyD : D → String
  | .none => "NoneType"
  | .bool _ => "bool"
  | .int _ => "int"
  | .str _ => "str"
  | .list _ => "list"
  | .tuple _ => "tuple"
  | .dict _ => "dict"
def isiS : Ty → String → Bool
  | .int, s => s == "int" || s == "bool"
  | .bool, s => s == "bool"
  | .str, s => s == "str"
  | .list, s => s == "list"
  | .tuple, s => s == "tuple"
theorem isiS_eq (t : Ty) (d : D) : V1.isiB t d = isiS t (tyD d) := by
  cases t <;> cases d <;> rfl
theorem kit_all (t : Ty) : ∀ s ∈ ["NoneType", "bool", "int", "str", "list", "tuple"], kitB s (tyN t) = some (isiS t s) := by cases t <;> decide +kernel
theorem tyD_kit (t : Ty) (d : D) (K : PySem.W.Frag) (nd : ∀ k, d ≠ .dict k) : PySem.W.kitOne K (.type (tyD d)) (.type (tyN t)) = some (V1.isiB t d) := by
  rw [isiS_eq]
  refine kit_ty (kit_all t _ ?_)
  cases d <;> first | exact absurd rfl (nd _) | simp [tyD]
theorem Sr.ty {A : AS} {H : Hp} {v : V} {d : D} (r : Sr W.K A H v d) (nd : ∀ k, d ≠ .dict k) : TyX W.K H v (.type (tyD d)) := by
  cases d with
  | none => cases r.non; exact .base .non
  | bool b => cases r.bl; exact .base (.bl b)
  | int i => cases r.int; exact .base (.int i)
  | str s => cases r.str; exact .base (.str s)
  | list xs =>
    obtain ⟨a, us, rfl, h1, _⟩ := r.list
    exact .base (.lst h1)
  | tuple xs =>
    obtain ⟨a, us, rfl, h1, _⟩ := r.tup
    rcases h1 with (h1 | ⟨o, h1⟩) | ⟨o, its, n, h1, h2, _⟩
    · exact .base (.tup h1)
    · exact .fTuple h1
    · exact .kTuple h1 h2
  | dict k => exact absurd rfl (nd k)
section
variable (W E)
def cI (t : Ty) : List V → Hp → VK → Prop := fun vs H Q => ∃ x m A H0 dx, vs = [x, .ty (tyN t)] ∧ mNew m = true ∧ Ex H0 H ∧ Sr W.K (Nw A H0) H x dx ∧ okP W E m A H0 (V1.isi t dx) Q
end
theorem b_isi (hK : X.K = W.K) (t : Ty) : CallR X (.builtin "isinstance") (cI W E t) := by
  refine CallR.weak call_isi ?_
  rintro vs H Q ⟨x, m, A, H0, dx, rfl, hm, e, rx, h⟩
  rw [hK]
  by_cases nd : ∃ k, dx = .dict k
  · obtain ⟨k, rfl⟩ := nd
    exact h.elim
  · have nd : ∀ k, dx ≠ .dict k := fun k z => nd ⟨k, z⟩
    have h2 : okP W E m A H0 (.ok (.bool (V1.isiB t dx))) Q := by
      cases dx <;> first | exact h | exact absurd rfl (nd _)
    exact ⟨x, _, _, _, _, rfl, .ty (tyN t), rx.ty nd, tyD_kit t dx W.K nd, h2.valN hm (fun _ z => nomatch z) e (.bl _)⟩
/-! index -/
section
variable (W E)
def m1 (f : D → D → Rs D) : V → List V → Hp → VK → Prop := fun x vs H Q => ∃ y m A H0 dx dy, vs = [y] ∧ mNew m = true ∧ Ex H0 H ∧ Sr W.K (Nw A H0) H x dx ∧ Sr W.K (Nw A H0) H y dy ∧ okP W E m A H0 (f dx dy) Q
end
theorem MtR.weak {id : String} {r r' : V → List V → Hp → VK → Prop} (h : MtR X id r) (q : ∀ x vs H Q, r' x vs H Q → r x vs H Q) : MtR X id r' := fun pins s σ H x xs v us Q I rx rv hq => h pins s σ H x xs v us Q I rx rv (q x xs H Q hq)
theorem findIx_spec (p : D → Bool) : ∀ (xs : List D) (k n : Nat), V1.findIx p xs k = some n → ∃ j z, n = k + j ∧ xs[j]? = some z ∧ p z = true ∧ ∀ (m : Nat) (z' : D), m < j → xs[m]? = some z' → p z' = false
  | [], _, _, h => by cases h
  | x :: xs, k, n, h => by
    unfold V1.findIx at h
    by_cases q : p x = true
    · rw [if_pos q] at h
      cases h
      exact ⟨0, x, rfl, rfl, q, fun m z' hm => absurd hm (Nat.not_lt_zero _)⟩
    · rw [if_neg q] at h
      obtain ⟨j, z, e1, e2, e3, e4⟩ := findIx_spec p xs (k + 1) n h
      refine ⟨j + 1, z, by omega, by simpa using e2, e3, fun m z' hm hz => ?_⟩
      cases m with
      | zero =>
        simp at hz
        subst hz
        simpa using q
      | succ m => exact e4 m z' (by omega) (by simpa using hz)
theorem b_index (hK : X.K = W.K) (hu : X.A.units + 65 < cLine) : MtR X "list.index" (m1 W E (V1.mt .index)) := by
  refine MtR.weak (mt_indexD hu) ?_
  rintro x vs H Q ⟨y, m, A, H0, dx, dy, rfl, hm, e, rx, ry, h⟩
  rw [hK]
  cases dx with
  | list ds =>
    obtain ⟨a, us, rfl, h1, h2, h3⟩ := rx.list
    obtain ⟨c, h⟩ := okP.iff h
    obtain ⟨c1, c2⟩ := shp2 c
    obtain ⟨n, hn, h⟩ := of_ok h
    obtain ⟨j, z, e1, e2, e3, e4⟩ := findIx_spec _ _ _ _ hn
    have e1 : n = j := by omega
    subst e1
    exact ⟨a, y, dy, ds, n, z, rfl, rfl, rx.dp (shp_lay c2), ry.dp (shp_lay c1), c2, c1, e2, e3, e4, h.valN hm (fun _ z => nomatch z) e (.int _)⟩
  | _ => exact h.elim
/-! repr -/
theorem b_repr (hK : X.K = W.K) (hg : X.A.guards = some []) (hu : X.A.units + 70 < cLine) : CallR X (.builtin "repr") (c1 W E (V1.bi1 .repr)) := by
  intro pins s σ H vs us Q I rv hq
  obtain ⟨x, m, A, H0, dx, rfl, hm, e, rx, h⟩ := hq
  obtain ⟨u, rfl, ru⟩ := vals1 rv
  obtain ⟨c, h⟩ := okP.iff (c := (V1.isSq dx && !dx.hasDict && dx.showable && decide (dx.depth ≤ 64) && decide (dx.shown.length ≤ V1.LIM)) = true) (x := .ok (.str dx.shown)) (by unfold V1.bi1 at h; exact h)
  simp only [Bool.and_eq_true, decide_eq_true_eq, Bool.not_eq_true'] at c
  obtain ⟨⟨⟨⟨c0, c1⟩, c2⟩, c3⟩, c4⟩ := c
  have hd := rx.dp c1
  rw [← hK] at hd
  obtain ⟨as, r⟩ := Dp.reads I dx x u hd ru
  have fin : ∀ (h' : Heap) (t : Tok) (tk : Nat), (∀ b o, s.heap.get? b = some o → h'.get? b = some o) → EP X pins σ Q (.str dx.shown t) { s with heap := h', toks := tk } := fun h' t tk k =>
    ⟨.str dx.shown, H, I.kept k, ⟨t, rfl⟩, h.valN hm (fun _ z => nomatch z) e (.str _)⟩
  have no : ∀ as : List Addr, dx.hasDict = true → sysModules ∉ as := fun as => PyData.noDict_hsm c1
  cases r with
  | list h1 h2 h3 h4 => exact repr_of_reads' (Reads.list h1 h2 h3 h4) c2 (no _) hg (by omega) (fun _ _ q => q) (fun h' t tk k => fin h' t tk k) (line_le c4)
  | tuple h1 h2 h3 h4 => exact repr_of_reads' (Reads.tuple h1 h2 h3 h4) c2 (no _) hg (by omega) (fun _ _ q => q) (fun h' t tk k => fin h' t tk k) (line_le c4)
  | _ => cases c0
end
end MP
/-! part f: promises of defs where no guard is held; calls. -/
namespace MP
open PySem PySem.Spec PyProof.Rows L2

/-- a promise of the def at f, kept wherever no guard (of repr, say) is held -/
structure FnG (prg : Program) (wo : World) (K : PySem.W.Frag) (mg : Str → Option Value) (bs : Heap) (cx : CXT) (lv : Nat) (f : Addr) (fd : FuncData) (ps : List Str) (sp : Sp) : Prop where
  len : ∀ vs H Q E, sp vs H Q E → vs.length = ps.length
  run : ∀ (A : Around) (out : List PySem.Env) (s : Shared) (H : Hp) (args : Args) (us : List Value) (vs : List V) (Q : VK) (E : XK),
    Room lv A → A.guards = some [] → Env0 prg wo K mg bs A out s H → BindsTo s fd args (ps.zip us) →
    Vals vs us → sp vs H Q E → codeAny (model prg wo) A (.call (.ref f) args) (CR cx out prg wo H s Q E) s

section
variable {prg : Program} {wo : World} {K : PySem.W.Frag} {mg : Str → Option Value} {bs : Heap} {cx : CXT}
/-- a def of the text keeps its promise, by its body -/
theorem fnG_of {lv : Nat} {f : Addr} {nm ql : Str} {par : Arguments} {bd : List Stmt} {sc : Scope} {dV kV doc pm cdv ct oc : Value} {an od : Option Addr} {osl : Array (Option Value)} {N ps : List Str} {sp : Sp}
    (lk : K.lookup f = some ⟨oc, od, .func (PySem.W.fnOf nm ql par bd sc dV kV doc pm an cdv ct), osl⟩)
    (hcd : PySem.W.codeIn K cdv ql = true) (S : FnScope N ps sc) (len : ∀ vs H Q E, sp vs H Q E → vs.length = ps.length)
    (body : ∀ (A : Around) (out : List PySem.Env) (s : Shared) (H : Hp) (vs : List V) (Q : VK) (E : XK),
      Room lv (A.deeper (envOfC ql sc s.heap.objs.size f cdv)) → A.guards = some [] → sp vs H Q E →
      ∃ t, PSs (cxOf cx prg wo K mg bs N ql sc f cdv A out s H E) bd t ∧ t { nx := fun _ H' => Q .non H', rt := Q } (start N vs) H) :
    FnG prg wo K mg bs cx (lv + 1) f (PySem.W.fnOf nm ql par bd sc dV kV doc pm an cdv ct) ps sp := by
  refine ⟨len, fun A out s H args us vs Q E room gd env bnd rel hsp => ?_⟩
  have lim : s.heap.NoLimit := env.mod.nolimit.keeps fun b o e => (env.bs b o e).1
  have kin : K.In s.heap := env.mod.kin.keeps fun b o e => (env.bs b o e).1
  refine codeAny_call_function room.depth (kin _ _ lk) rfl S.co S.gen rfl (PySem.W.codeRec_of kin hcd) (bnd _ _ _ _ ?_)
  have kinds : ∀ y ∈ ps.zip us, sc.names.lookup y.1 = some .local ∨
      (sc.names.lookup y.1 = some .cell ∧ ((cellsFrom (s.heap.objs.size + 1) sc.names []).lookup y.1).isSome = true) := by
    rintro ⟨n, v⟩ hy
    rcases S.par n (List.of_mem_zip hy).1 with q | q
    · exact .inl q
    · exact .inr ⟨q, PySem.W.cellsFrom_some _ _ _ (.inl q)⟩
  refine wpAny_newFunctionEnv_cells S.kind kinds fun en he s1 x => ?_
  subst he
  refine ⟨lim.keeps x.toInCall.keep, codeAny_func ?_⟩
  obtain ⟨t, ht, hq⟩ := body A out s H vs Q E (room.deeper _) gd hsp
  have I := inv_start (CX := cx) (E := E) S room.hd env (len _ _ _ _ hsp) rel x
  refine wpAny_mono (ht.run [] s1 (start N vs) H _ I hq) (fun fl s' hs => ?_) fun _ _ hs => hs
  cases fl with
  | next =>
    obtain ⟨σ', H', J, q⟩ := hs
    exact ⟨V.non, H', J.os, J.bare, J.base, J.hok, rfl, q⟩
  | ret u =>
    obtain ⟨v, σ', H', J, rv, q⟩ := hs
    exact ⟨v, H', J.os, J.bare, J.base, J.hok, rv, q⟩
  | brk =>
    obtain ⟨_, _, _, q⟩ := hs
    exact q.elim
  | cont =>
    obtain ⟨_, _, _, q⟩ := hs
    exact q.elim
end
section
variable {X : Cx} {cx : CXT} {lv : Nat} {f : Addr} {fd : FuncData} {ps : List Str} {sp : Sp} {E : XK} {x : Str} {p pos : Pos} {e : Expr} {es : List Expr} {t : TA}
theorem FnG.go {pins : List (Addr × Obj)} {σ : L2.St} {H : Hp} {s : Shared} {Q : VK} {us : List Value} {vs : List V}
    (F : FnG X.prog X.w X.K X.mg X.base cx lv f fd ps sp) (hr : Room lv X.A) (hg : X.A.guards = some []) (hb : Binds X.K fd ps []) (hx : Passes cx X E)
    (I : Inv X pins σ H s) (r : Vals vs us) (h : sp vs H Q E) : wpAny (model X.prog X.w) X.A (call (.ref f) us) (EP X pins σ Q) X.xe s := by
  have hl : us.length = ps.length := r.length.symm.trans (F.len _ _ _ _ h)
  have bnd := hb s us I.kIn (by rw [List.append_nil]; exact hl)
  rw [List.append_nil] at bnd
  refine wpAny_call (codeAny_mono (F.run X.A X.stack s H ⟨us, []⟩ us vs Q E hr hg I.env0 bnd r h) fun z s' hq => ?_)
  match z, hq with
  | .error e, hq => exact hx pins σ H s e s' I hq
  | .ok (.ret u), hq => exact I.after hq
  | .ok .next, hq => exact False.elim hq
  | .ok .brk, hq => exact False.elim hq
  | .ok .cont, hq => exact False.elim hq
/-- f(e, ..) -/
theorem pe_callG (F : FnG X.prog X.w X.K X.mg X.base cx lv f fd ps sp) (hr : Room lv X.A) (hgd : X.A.guards = some []) (hg : Gl X x) (hm : X.mg x = some (.ref f)) (hk : PySem.W.keepIn X.K (.ref f) = true)
    (hb : Binds X.K fd ps []) (hx : Passes cx X E) (hdb : (x == ("__debug__" : Str)) = false) (ha : PA X (e :: es) t)
    (hst : starEach (e :: es) X.env = (false, eval e X.env) :: starEach es X.env) (hpl : (backTo pos (starEach es X.env)).any (·.1) = false) :
    PE X (.Call (.Name x p) (e :: es) [] pos) (fun σ H Q => t σ H fun vs H1 => sp vs H1 Q E) := by
  refine ⟨fun pins s σ H Q I h => wpAny_Call_Name_kw (ld_glob I hg hm ?_ hdb)⟩
  refine PySem.W.callWith_K (h₀ := X.base) I.ok.mod.kin hk (thn (ha.run pos pins s σ H _ I h) fun us s1 ⟨vs, H1, I1, rv, q⟩ => ⟨I1.kIn, ?_⟩) hst hpl
  exact F.go hr hgd hb hx I1 rv q
/-- f() -/
theorem pe_callG0 (F : FnG X.prog X.w X.K X.mg X.base cx lv f fd ps sp) (hr : Room lv X.A) (hgd : X.A.guards = some []) (hg : Gl X x) (hm : X.mg x = some (.ref f)) (hk : PySem.W.keepIn X.K (.ref f) = true)
    (hb : Binds X.K fd ps []) (hx : Passes cx X E) (hdb : (x == ("__debug__" : Str)) = false) :
    PE X (.Call (.Name x p) [] [] pos) (fun _ H Q => sp [] H Q E) := by
  refine ⟨fun pins s σ H Q I h => wpAny_Call_Name_kw (ld_glob I hg hm ?_ hdb)⟩
  exact PySem.W.callWith_K0 I.kIn hk (F.go (us := []) hr hgd hb hx I .nil h)
end
end MP
/-! part g: the text and the small language go together: what is looked at. -/
namespace MP
open PySem PySem.Spec PyProof.Rows L2

structure Stc where
  N : List Str
  sc : Scope
  fn : Str → Bool
  Γ : List Sh
structure Gd (W : Wd) (n : Nat) (st : Stc) (E : XK) (X : Cx) : Prop where
  prog : X.prog = W.prog
  w : X.w = W.w
  K : X.K = W.K
  mg : X.mg = W.mg
  base : X.base = W.base
  N : X.N = st.N
  nd : st.N.Nodup
  sc : X.env.scope = st.sc
  fn : ∀ x, st.fn x = true → X.fn x = true
  calm : X.calm = true
  room : Room n X.A
  gd : X.A.guards = some []
  un : X.A.units + 100 < cLine
  px : Passes W.CX X E
def blts : List Str := ["len", "int", "abs", "sum", "max", "min", "sorted", "list", "tuple", "all", "any", "repr", "str", "bool", "range", "enumerate", "zip", "reversed", "isinstance"]
structure Wk (W : Wd) (n : Nat) : Prop where
  fns : ∀ k f, W.P[k]? = some f → ∃ a fd ps, FnG W.prog W.w W.K W.mg W.base W.CX n a fd ps (spF W n k) ∧ W.mg f.name = some (.ref a) ∧ PySem.W.keepIn W.K (.ref a) = true ∧ Binds W.K fd ps [] ∧ ps.length = f.np
  bl : ∀ x, x ∈ blts → W.mg x = none
  pf : ∀ X : Cx, X.prog = W.prog → X.w = W.w → Passes W.CX X (fun _ _ _ => False)

/-! ### looks -/
def visB (sc : Scope) (x : Str) : Bool := match sc.names.lookup x with
  | some .local => true
  | some .cell => true
  | some .free => true
  | _ => false
theorem visB_ok {sc : Scope} {x : Str} (h : visB sc x = true) : Vis sc x := by
  unfold visB at h
  unfold Vis
  split at h <;> first | (rename_i e; exact .inl e) | (rename_i e; exact .inr (.inl e)) | (rename_i e; exact .inr (.inr e)) | cases h
def nmB (st : Stc) (i : Nat) (x : Str) : Bool := decide (st.N[i]? = some x) && visB st.sc x && !(x == ("__debug__" : Str)) && !(x == ("__classdict__" : Str))
def glB (sc : Scope) (x : Str) : Bool := (match sc.names.lookup x with
  | some .globalImplicit => true
  | _ => false) && !(x == ("__debug__" : Str))
def locB (st : Stc) (i : Nat) (x : Str) : Bool := decide (st.N[i]? = some x) && (match st.sc.names.lookup x with
  | some .local => true
  | some .cell => st.fn x
  | _ => false)
def shB (Γ : List Sh) (i : Nat) (m : Md) : Bool := match m with
  | .st .fz => decide (sh Γ i = .fz)
  | .op => decide (sh Γ i = .fz) || decide (sh Γ i = .ls .fz)
  | _ => false
def cstB : D → Const → Bool
  | .none, .none => true
  | .bool a, .bool b => a == b
  | .int a, .int b => decide (a = b)
  | .str a, .str b => decide (a = b)
  | _, _ => false
def opB : B2 → Operator → Bool
  | .add, .Add => true
  | .sub, .Sub => true
  | .mul, .Mult => true
  | .fdiv, .FloorDiv => true
  | .mod, .Mod => true
  | .pow, .Pow => true
  | .shl, .LShift => true
  | .shr, .RShift => true
  | .band, .BitAnd => true
  | _, _ => false
def cmB : C2 → CmpOp → Bool
  | .eq, .Eq => true
  | .ne, .NotEq => true
  | .lt, .Lt => true
  | .le, .LtE => true
  | .gt, .Gt => true
  | .ge, .GtE => true
  | .isin, .In => true
  | .notin, .NotIn => true
  | _, _ => false
def bi1S : Bi → Option Str
  | .len => some "len"
  | .int => some "int"
  | .abs => some "abs"
  | .sum => some "sum"
  | .max => some "max"
  | .min => some "min"
  | .sorted => some "sorted"
  | .list => some "list"
  | .tuple => some "tuple"
  | .all => some "all"
  | .any => some "any"
  | .repr => some "repr"
  | .str => some "str"
  | _ => none
def bi2S : Bi → Option Str
  | .max2 => some "max"
  | .min2 => some "min"
  | _ => none
def isStar : Expr → Bool
  | .Starred _ _ => true
  | _ => false
def isTup : Expr → Bool
  | .Tuple _ _ _ => true
  | _ => false
def isSlc : Expr → Bool
  | .Slice _ _ _ _ => true
  | _ => false
def bareC : Expr → Bool
  | .Call (.Name _ _) [] [] _ => true
  | _ => false
def allFz (l : List Sh) : Bool := l.all fun s => decide (s = .fz)
def mRs (m : Md) (s : Sh) : Bool := match m with
  | .st .fz => true
  | .op => true
  | .st t => decide (t = s)
def mdS : Md → Sh
  | .st s => s
  | .op => .fz
def elS : Sh → Option Sh
  | .fz => some .fz
  | .ls s => some s
  | _ => none
mutual
def okTg (st : Stc) : Tg → Expr → Bool
  | .nm i, e => match e with
    | .Name x _ => locB st i x
    | _ => false
  | .t2 a b, e => match e with
    | .Tuple [ea, eb] _ _ => okTg st a ea && okTg st b eb
    | _ => false
  | .t3 a b c, e => match e with
    | .Tuple [ea, eb, ec] _ _ => okTg st a ea && okTg st b eb && okTg st c ec
    | _ => false
  | .t4 a b c d, e => match e with
    | .Tuple [ea, eb, ec, ed] _ _ => okTg st a ea && okTg st b eb && okTg st c ec && okTg st d ed
    | _ => false
end
def tgIx : Tg → List Nat
  | .nm i => [i]
  | .t2 a b => tgIx a ++ tgIx b
  | .t3 a b c => tgIx a ++ tgIx b ++ tgIx c
  | .t4 a b c d => tgIx a ++ tgIx b ++ tgIx c ++ tgIx d
/-- a comprehension's own names, with their places -/
def ownOf (N : List Str) (vs : List Nat) : List (Str × Nat) := vs.map fun i => ((N[i]?).getD Str.empty, i)
def inner (st : Stc) (scope : Scope) : Stc := { st with sc := relS scope st.sc, fn := fun x => scope.names.lookup x == some .cell }
def free (st : Stc) : Stc := { st with Γ := [] }
section
variable (P : Prg)
mutual
def okE : Stc → Md → E → Expr → Bool
  | st, m, .v i, e => (match e with
    | .Name x _ => nmB st i x && shB st.Γ i m
    | _ => false)
  | st, m, .c d, e => (match e with
    | .Constant k _ _ => mSh m && cstB d k
    | _ => false)
  | st, m, .b2 o a b, e => (match e with
    | .BinOp ea op eb _ => mNew m && opB o op && okE st .op a ea && okE st .op b eb
    | _ => false)
  | st, m, .c2 o a b, e => (match e with
    | .Compare ea [op] [eb] _ => mSh m && cmB o op && !behindInMarks op eb && okE st .op a ea && okE st .op b eb
    | _ => false)
  | st, m, .ch o p a b c, e => (match e with
    | .Compare ea [op, op'] [eb, ec] _ => mSh m && cmB o op && cmB p op' && !lastMarks [op, op'] [eb, ec] && okE st .op a ea && okE st .op b eb && okE st .op c ec
    | _ => false)
  | st, m, .isN neg a, e => (match e with
    | .Compare ea [op] [.Constant .none _ _] _ => mSh m && (match neg, op with
      | false, .Is => true
      | true, .IsNot => true
      | _, _ => false) && okE st .op a ea
    | _ => false)
  | st, m, .and a b, e => (match e with
    | .BoolOp .And (x :: y :: r) pos => mSh m && okE st (.st .fz) a x && okE st (.st .fz) b (match r with
      | [] => y
      | _ => .BoolOp .And (y :: r) pos)
    | _ => false)
  | st, m, .or a b, e => (match e with
    | .BoolOp .Or (x :: y :: r) pos => mSh m && okE st (.st .fz) a x && okE st (.st .fz) b (match r with
      | [] => y
      | _ => .BoolOp .Or (y :: r) pos)
    | _ => false)
  | st, m, .not a, e => (match e with
    | .UnaryOp .Not ea _ => mSh m && okE st .op a ea
    | _ => false)
  | st, m, .ife c a b, e => (match e with
    | .IfExp ec ea eb _ => okE st .op c ec && okE st m a ea && okE st m b eb
    | _ => false)
  | st, m, .neg a, e => (match e with
    | .UnaryOp .USub ea _ => mSh m && okE st (.st .fz) a ea
    | _ => false)
  | st, m, .lst es, e => (match e with
    | .List xs _ => mNew m && okEs st (List.replicate xs.length .fz) es xs
    | _ => false)
  | st, m, .lsh s es, e => (match e with
    | .List xs _ => decide (m = .st (.ls s)) && okEs st (List.replicate xs.length s) es xs
    | _ => false)
  | st, m, .tup es, e => (match e with
    | .Tuple xs _ _ => mSh m && okEs st (List.replicate xs.length .fz) es xs
    | _ => false)
  | st, m, .tsh s es, e => (match e with
    | .Tuple xs _ _ => (match s with
      | .t2 a b => decide (m = .st s) && okEs st [a, b] es xs
      | _ => false)
    | _ => false)
  | st, m, .ix a i, e => (match e with
    | .Subscript ea ei _ => mSh m && !isSlc ei && okE st .op a ea && okE st .op i ei
    | _ => false)
  | st, m, .sl a lo hi, e => (match e with
    | .Subscript ea (.Slice l u none _) _ => mNew m && okE st .op a ea && okEo st lo l && okEo st hi u
    | _ => false)
  | st, m, .rvs a, e => (match e with
    | .Subscript ea (.Slice none none (some (.UnaryOp .USub (.Constant (.int 1) _ _) _)) _) _ => mNew m && okE st .op a ea
    | _ => false)
  | st, m, .call f es, e => (match e with
    | .Call (.Name x _) xs [] _ => (match P[f]? with
      | some fn => decide (x = fn.name) && glB st.sc x && allFz fn.pm && mRs m fn.rs && decide (xs.length = fn.np) && okEs st (List.replicate xs.length .fz) es xs
      | none => false)
    | _ => false)
  | st, m, .bi1 f a, e => (match e with
    | .Call (.Name x _) [ea] [] _ => mNew m && decide (bi1S f = some x) && glB st.sc x && !isStar ea && okE st .op a ea
    | _ => false)
  | st, m, .bi2 f a b, e => (match e with
    | .Call (.Name x _) [ea, eb] [] _ => mNew m && decide (bi2S f = some x) && glB st.sc x && !isStar ea && !isStar eb && okE st .op a ea && okE st .op b eb
    | _ => false)
  | st, m, .isi t a, e => (match e with
    | .Call (.Name x _) [ea, .Name y _] [] _ => mNew m && decide (x = ("isinstance" : Str)) && decide (y = tyS t) && glB st.sc x && glB st.sc y && !isStar ea && okE st .op a ea
    | _ => false)
  | st, m, .mt f o a, e => (match f with
    | .index => (match e with
      | .Call (.Attribute eo n ap) [ea] [] cp => mNew m && decide (n = ("index" : Str)) && (ap.endLine == cp.line) && !bareC eo && !isStar ea && okE st .op o eo && okE st .op a ea
      | _ => false)
    | _ => false)
  | st, m, .lc elt tg it ci vs, e => (match e with
    | .ListComp ee [⟨et, ei, ifs, 0⟩] scope _ => (match elS (mdS m) with
      | some s => blkC st.N st.sc scope (ownOf st.N vs) && okTg (inner st scope) tg et && (tgIx tg).all (fun i => vs.contains i) && vs.all (fun i => decide (sh st.Γ i = .fz)) &&
          okIt false st it et ei && okC (inner st scope) ci ifs && okE (inner st scope) (.st s) elt ee
      | none => false)
    | _ => false)
  | st, m, .scl a, e => mSh m && okE (free st) (.st .fz) a e
def okEs : Stc → List Sh → Es → List Expr → Bool
  | _, [], .nil, xs => xs.isEmpty
  | st, s :: ss, .cons e es, xs => (match xs with
    | x :: xs => !isStar x && okE st (.st s) e x && okEs st ss es xs
    | [] => false)
  | _, _, _, _ => false
def okEo : Stc → Eo → Option Expr → Bool
  | _, .no, o => o.isNone
  | st, .so e, o => (match o with
    | some x => okE st (.st .fz) e x
    | none => false)
def okC : Stc → Eo → List Expr → Bool
  | _, .no, l => l.isEmpty
  | st, .so e, l => (match l with
    | [x] => okE st .op e x
    | _ => false)
def okIt (b : Bool) : Stc → It → Expr → Expr → Bool
  | st, .sq a, _, e => okE st (if b then .st .fz else .op) a e && (match e with
    | .Set _ _ _ => false
    | _ => true)
  | st, .r1 a, _, e => (match e with
    | .Call (.Name x _) [ea] [] _ => decide (x = ("range" : Str)) && glB st.sc x && !isStar ea && okE st (.st .fz) a ea
    | _ => false)
  | st, .r2 a b, _, e => (match e with
    | .Call (.Name x _) [ea, eb] [] _ => decide (x = ("range" : Str)) && glB st.sc x && !isStar ea && !isStar eb && okE st (.st .fz) a ea && okE st (.st .fz) b eb
    | _ => false)
  | st, .r3 a b c, _, e => (match e with
    | .Call (.Name x _) [ea, eb, ec] [] _ => decide (x = ("range" : Str)) && glB st.sc x && !isStar ea && !isStar eb && !isStar ec && okE st (.st .fz) a ea && okE st (.st .fz) b eb && okE st (.st .fz) c ec
    | _ => false)
  | st, .en a, tg, e => isTup tg && (match e with
    | .Call (.Name x _) [ea] [] _ => decide (x = ("enumerate" : Str)) && glB st.sc x && !isStar ea && okE st (.st .fz) a ea
    | _ => false)
  | st, .zp a b, tg, e => isTup tg && (match e with
    | .Call (.Name x _) [ea, eb] [] _ => decide (x = ("zip" : Str)) && glB st.sc x && !isStar ea && !isStar eb && okE st (.st .fz) a ea && okE st (.st .fz) b eb
    | _ => false)
  | st, .rv a, _, e => (match e with
    | .Call (.Name x _) [ea] [] _ => decide (x = ("reversed" : Str)) && glB st.sc x && !isStar ea && okE st (.st .fz) a ea
    | _ => false)
end
end

/-! ### slots -/
structure RelF (K : PySem.W.Frag) (Γ : List Sh) (A B : AS) (ρ : En) (σ : L2.St) (H : Hp) : Prop where
  len : σ.length = ρ.length
  at_ : ∀ i d, ρ[i]? = some (some d) → ∃ v, σ[i]? = some (some v) ∧ Rp K B H v d ∧ (sh Γ i = .fz → Rp K A H v d) ∧
    (sh Γ i = .ls .fz → ∃ a vs ds, v = .ref a ∧ d = .list ds ∧ H a = some (.lst vs) ∧ ds.length ≤ V1.LIM ∧ RpL K A H vs ds)
  sub : ∀ a, A a → B a
  tr : ∀ a, B a → H a ≠ none
theorem RelF.ex {K : PySem.W.Frag} {Γ : List Sh} {A B : AS} {ρ : En} {σ : L2.St} {H H' : Hp} (R : RelF K Γ A B ρ σ H) (e : Ex H H') : RelF K Γ A B ρ σ H' := by
  refine ⟨R.len, fun i d h => ?_, R.sub, fun a q z => R.tr a q (e.back z)⟩
  obtain ⟨v, h1, h2, h3, h4⟩ := R.at_ i d h
  refine ⟨v, h1, h2.mono (fun _ q _ => q) fun _ _ _ q => e _ _ q, fun z => (h3 z).mono (fun _ q _ => q) fun _ _ _ q => e _ _ q, fun z => ?_⟩
  obtain ⟨a, vs, ds, e1, e2, e3, e4, e5⟩ := h4 z
  exact ⟨a, vs, ds, e1, e2, e _ _ e3, e4, e5.mono (fun _ q _ => q) fun _ _ _ q => e _ _ q⟩
section
variable (K : PySem.W.Frag) (A : AS) (H : Hp)
inductive OwG : List Sh → List V → List D → List Addr → Prop
  | nil : OwG [] [] [] []
  | cons {s : Sh} {ss : List Sh} {v : V} {vs : List V} {d : D} {ds : List D} {bs cs : List Addr} : Ow K A H s v d bs → OwG ss vs ds cs → OwG (s :: ss) (v :: vs) (d :: ds) (bs ++ cs)
end
theorem OwG.rep {K : PySem.W.Frag} {A : AS} {H : Hp} {s : Sh} : ∀ {n : Nat} {vs : List V} {ds : List D} {as : List Addr}, OwG K A H (List.replicate n s) vs ds as → OwL K A H s vs ds as
  | 0, _, _, _, h => by cases h; exact .nil
  | n + 1, _, _, _, h => by
    cases h with
    | cons a b => exact .cons a (OwG.rep b)
theorem OwG.length {K : PySem.W.Frag} {A : AS} {H : Hp} : ∀ {ss : List Sh} {vs : List V} {ds : List D} {as : List Addr}, OwG K A H ss vs ds as → vs.length = ds.length
  | [], _, _, _, h => by cases h; rfl
  | _ :: _, _, _, _, h => by
    cases h with
    | cons a b => simp [OwG.length b]
theorem OwG.tracked {K : PySem.W.Frag} {A : AS} {H : Hp} : ∀ {ss : List Sh} {vs : List V} {ds : List D} {as : List Addr}, OwG K A H ss vs ds as → ∀ a ∈ as, H a ≠ none
  | [], _, _, _, h, _, ha => by cases h; cases ha
  | _ :: _, _, _, _, h, a, ha => by
    cases h with
    | cons x y =>
      rcases List.mem_append.mp ha with ha | ha
      · exact x.tracked a ha
      · exact OwG.tracked y a ha
theorem OwG.mono {K : PySem.W.Frag} {A A' : AS} {H H' : Hp} (hA : ∀ a, A a → H a ≠ none → A' a) (e : Ex H H') : ∀ {ss : List Sh} {vs : List V} {ds : List D} {as : List Addr}, OwG K A H ss vs ds as → OwG K A' H' ss vs ds as
  | [], _, _, _, h => by cases h; exact .nil
  | _ :: _, _, _, _, h => by
    cases h with
    | cons x y => exact .cons (x.mono hA (fun a o _ q => e a o q) fun a _ o q => e a o q) (OwG.mono hA e y)

/-! ### readings -/
section
variable (W : Wd) (n : Nat) (E : XK) (st : Stc)
abbrev cfW : CF := callF W.P n
def semE (m : Md) (ir : MP.E) : TE := fun σ H Q => ∃ ρ A B, RelF W.K st.Γ A B ρ σ H ∧ okP W E m A H (evE (callF W.P n) ir ρ) Q
def semT (ir : MP.E) : TT := fun σ H Q => ∃ ρ A B, RelF W.K st.Γ A B ρ σ H ∧ okG W E H (evE (callF W.P n) ir ρ) fun d => okG W E H (V1.tru d) fun b => ∀ H', Ex H H' → Q b H'
def PostG (ss : List Sh) (A : AS) (H : Hp) (ds : List D) (Q : List V → Hp → Prop) : Prop := ∀ vs H' as A', Ex H H' → (∀ a, A' a → Nw A H a) → OwG W.K A' H' ss vs ds as → as.Nodup → (∀ a ∈ as, H a = none ∧ ¬ A' a) → Q vs H'
def shOkG : List Sh → List D → Bool
  | [], [] => true
  | s :: ss, d :: ds => shOk s d && shOkG ss ds
  | _, _ => false
def semEs (ss : List Sh) (es : Es) : TA := fun σ H Q => ∃ ρ A B, RelF W.K st.Γ A B ρ σ H ∧ (allFz ss = true ∨ ∃ ds, evEs (callF W.P n) es ρ = .ok ds) ∧ okG W E H (evEs (callF W.P n) es ρ) fun ds => shOkG ss ds = true ∧ PostG W ss A H ds Q
def semEo (o : Eo) : TO := fun σ H Q => ∃ ρ A B, RelF W.K st.Γ A B ρ σ H ∧ okG W E H (evEo (callF W.P n) o ρ) fun d => ∀ H', Ex H H' → Q d H'
def semC (o : Eo) : TT := fun σ H Q => ∃ ρ A B, RelF W.K st.Γ A B ρ σ H ∧ okG W E H (evC (callF W.P n) o ρ) fun d => ∀ H', Ex H H' → Q d H'
/-- what is kept of the heap: A as it was at H -/
def Kp (A : AS) (H : Hp) : Hp → Prop := fun H' => ∀ a o, A a → H a = some o → H' a = some o
structure WalkD (J : L2.It) (G A : AS) (H : Hp) (ds : List D) : Prop where
  ex : ∃ Y, L2.Walk J ds.length (Kp G H) Y ∧ ∀ i H1 x H2, i < ds.length → Kp G H H1 → Y i H1 x H2 → Ex H1 H2 ∧ ∃ d, ds[i]? = some d ∧ Rp W.K (Nw A H1) H2 x d
def semI (b : Bool) (it : MP.It) : TI := fun σ H R => ∃ ρ A B, RelF W.K st.Γ A B ρ σ H ∧ okG W E H (evIt (callF W.P n) it ρ) fun ds => ds.length ≤ V1.LIM → ∀ J H1 G A1, Ex H H1 → (∀ a, A1 a → Nw A H a ∧ H1 a ≠ none) → (∀ a, G a → H1 a ≠ none ∧ (b = true → Nw A H a)) → WalkD W J G A1 H1 ds → R J H1
end
end MP
/-! part h: expressions do what the small language says: the single forms. -/
namespace MP
open PySem PySem.Spec PyProof.Rows L2
theorem PE.weak {X : Cx} {e : Expr} {t t' : TE} (h : PE X e t) (w : ∀ σ H Q, t' σ H Q → t σ H Q) : PE X e t' := ⟨fun pins s σ H Q I q => h.run pins s σ H Q I (w σ H Q q)⟩
theorem PT.weak {X : Cx} {e : Expr} {t t' : TT} (h : PT X e t) (w : ∀ σ H Q, t' σ H Q → t σ H Q) : PT X e t' := ⟨fun pins s σ H Q I q => h.run pins s σ H Q I (w σ H Q q)⟩
theorem PA.weak {X : Cx} {e : List Expr} {t t' : TA} (h : PA X e t) (w : ∀ σ H Q, t' σ H Q → t σ H Q) : PA X e t' := ⟨fun pos pins s σ H Q I q => h.run pos pins s σ H Q I (w σ H Q q)⟩
theorem PI.weak {X : Cx} {tg e : Expr} {t t' : TI} (h : PI X tg e t) (w : ∀ σ H R, t' σ H R → t σ H R) : PI X tg e t' := ⟨fun pins s σ H R I q => h.run pins s σ H R I (w σ H R q)⟩
section
variable {W : Wd} {n : Nat} {E : XK} {st : Stc} {X : Cx}
theorem not_dbg {x : Str} (h : (!(x == ("__debug__" : Str))) = true) : (x == ("__debug__" : Str)) = false := by simpa using h
theorem glB_ok (g : Gd W n st E X) {x : Str} (h : glB st.sc x = true) : Gl X x ∧ (x == ("__debug__" : Str)) = false := by
  unfold glB at h
  obtain ⟨h1, h2⟩ := shp2' h
  refine ⟨?_, not_dbg h2⟩
  unfold Gl Env.kindOf
  rw [g.sc]
  split at h1
  · assumption
  · cases h1
theorem get_ok {ρ : En} {i : Nat} {m : Md} {A : AS} {H : Hp} {Q : VK} (h : okP W E m A H (get ρ i) Q) : ∃ d, ρ[i]? = some (some d) ∧ okP W E m A H (.ok d) Q := by
  unfold get at h
  split at h
  · rename_i d e
    exact ⟨d, e, h⟩
  · exact h.elim
theorem pe_v (g : Gd W n st E X) {m : Md} {i : Nat} {x : Str} {pos : Pos} (h : (nmB st i x && shB st.Γ i m) = true) : PE X (.Name x pos) (semE W n E st m (.v i)) := by
  obtain ⟨h1, h2⟩ := shp2' h
  unfold nmB at h1
  obtain ⟨h1, h3⟩ := shp2' h1
  obtain ⟨h1, h4⟩ := shp2' h1
  obtain ⟨h1, h5⟩ := shp2' h1
  have vis : Vis X.env.scope x := by rw [g.sc]; exact visB_ok h5
  refine PE.weak (pe_var (i := i) (by rw [g.N]; exact of_decide_eq_true h1) vis (not_dbg h4) (by simpa using h3)) ?_
  rintro σ H Q ⟨ρ, A, B, R, h⟩
  have h : okP W E m A H (get ρ i) Q := by unfold evE at h; exact h
  obtain ⟨d, hd, h⟩ := get_ok h
  obtain ⟨v, hv, _, r1, r2⟩ := R.at_ i d hd
  refine ⟨v, hv, ?_⟩
  cases m with
  | st s =>
    cases s with
    | fz => exact h.val (.inl rfl) (Ex.refl H) ((r1 (of_decide_eq_true h2)).sub fun a q => .inl q)
    | _ => cases h2
  | op =>
    have h2' : sh st.Γ i = .fz ∨ sh st.Γ i = .ls .fz := by simpa [shB] using h2
    rcases h2' with q | q
    · exact h.2 v H (Ex.refl H) (.of ((r1 q).sub fun a q => .inl q))
    · obtain ⟨a, vs, ds, rfl, rfl, e3, e4, e5⟩ := r2 q
      exact h.2 _ H (Ex.refl H) (.ow e3 e4 (e5.sub fun a q => .inl q))
theorem pe_c {m : Md} {d : D} {k : Const} {j : Nat} {pos : Pos} (h : (mSh m && cstB d k) = true) : PE X (.Constant k j pos) (semE W n E st m (.c d)) := by
  obtain ⟨hm, h⟩ := shp2' h
  have fin : ∀ {σ : L2.St} {H : Hp} {Q : VK} {v : V}, (∀ (K : PySem.W.Frag) (A : AS) (H : Hp), Rp K A H v d) → semE W n E st m (.c d) σ H Q → Q v H := by
    rintro σ H Q v r ⟨ρ, A, B, R, h⟩
    have h : okP W E m A H (.ok d) Q := by unfold evE at h; exact h
    exact h.val (mSh_of hm) (Ex.refl H) (r _ _ _)
  cases d <;> cases k <;> first | cases h | skip
  · exact PE.weak pe_non fun σ H Q q => fin (fun _ _ _ => .non) q
  · cases (beq_iff_eq.mp h)
    exact PE.weak pe_bl fun σ H Q q => fin (fun _ _ _ => .bl _) q
  · cases (of_decide_eq_true h)
    exact PE.weak pe_int fun σ H Q q => fin (fun _ _ _ => .int _) q
  · cases (of_decide_eq_true h)
    exact PE.weak pe_str fun σ H Q q => fin (fun _ _ _ => .str _) q
/-- two operands, one after another -/
theorem bin_sem {a b : MP.E} {m : Md} {A B : AS} {ρ : En} {σ : L2.St} {H : Hp} {Q : VK} {f : D → D → Rs D} {r : R2} (R : RelF W.K st.Γ A B ρ σ H)
    (h : okP W E m A H (evE (callF W.P n) a ρ >>= fun x => evE (callF W.P n) b ρ >>= fun y => f x y) Q)
    (hr : ∀ (v w : V) (H0 H2 : Hp) (dx dy : D), Ex H0 H2 → Sr W.K (Nw A H0) H2 v dx → Sr W.K (Nw A H0) H2 w dy → okP W E m A H0 (f dx dy) Q → r v w H2 Q) :
    semE W n E st .op a σ H fun x H1 => semE W n E st .op b σ H1 fun y H2 => r x y H2 Q := by
  refine ⟨ρ, A, B, R, okP_bindO h fun dx ea h1 v H1 e1 s1 => ⟨ρ, A, B, R.ex e1, okP_bindO (h1.ex e1) fun dy eb _ w H2 e2 s2 => ?_⟩⟩
  rw [ea, ok_bind, eb, ok_bind] at h
  exact hr v w H H2 dx dy (e1.trans e2) (s1.mono (fun _ q => q) e2) (s2.mono (Nw.mono e1) (Ex.refl _)) h
theorem op_all (hK : X.K = W.K) {o : B2} {op : Operator} (h : opB o op = true) : OpR X (binaryOp op) (r2 W E (V1.op2 o)) := by
  cases o <;> cases op <;> first | cases h | skip
  · exact op_add_ hK
  · exact op_sub_
  · exact op_mul_
  · exact op_fdiv_
  · exact op_mod_
  · exact op_pow_
  · exact op_shl_
  · exact op_shr_
  · exact op_band_
theorem cm_all (g : Gd W n st E X) {o : C2} {op : CmpOp} (h : cmB o op = true) : OpR X (compareOp op) (r2 W E (V1.cmp2 o)) := by
  have hu := g.un
  cases o <;> cases op <;> first | cases h | skip
  · exact op_eq_ g.K (by omega)
  · exact op_ne_ g.K (by omega)
  · exact op_lt_
  · exact op_le_
  · exact op_gt_
  · exact op_ge_
  · exact op_in_ g.K (by omega)
  · exact op_notin_ g.K (by omega)
theorem pe_b2 (g : Gd W n st E X) {m : Md} {o : B2} {op : Operator} {a b : MP.E} {ea eb : Expr} {pos : Pos} (hm : mNew m = true) (ho : opB o op = true)
    (ha : PE X ea (semE W n E st .op a)) (hb : PE X eb (semE W n E st .op b)) : PE X (.BinOp ea op eb pos) (semE W n E st m (.b2 o a b)) := by
  refine PE.weak (pe_op (op_all (E := E) g.K ho) ha hb) ?_
  rintro σ H Q ⟨ρ, A, B, R, h⟩
  unfold evE at h
  exact bin_sem R h fun v w H0 H2 dx dy e s1 s2 h3 => ⟨m, A, H0, dx, dy, hm, e, s1, s2, h3⟩
theorem pe_c2 (g : Gd W n st E X) {m : Md} {o : C2} {op : CmpOp} {a b : MP.E} {ea eb : Expr} {pos : Pos} (hm : mSh m = true) (ho : cmB o op = true) (hb0 : behindInMarks op eb = false)
    (ha : PE X ea (semE W n E st .op a)) (hb : PE X eb (semE W n E st .op b)) : PE X (.Compare ea [op] [eb] pos) (semE W n E st m (.c2 o a b)) := by
  refine PE.weak (pe_cmpR (cm_all (E := E) g ho) ha hb hb0) ?_
  rintro σ H Q ⟨ρ, A, B, R, h⟩
  unfold evE at h
  exact bin_sem R h fun v w H0 H2 dx dy e s1 s2 h3 => ⟨m, A, H0, dx, dy, mSh_new hm, e, s1, s2, h3⟩
/-- a value that is a truth value -/
theorem okP.bool {A : AS} {H : Hp} {x : Rs D} {q : D → Prop} {Q : Bool → Hp → Prop} (h : okG W E H x q) (hb : ∀ d, x = .ok d → ∃ b, d = .bool b) (k : ∀ d, x = .ok d → q d → ∀ b H', d = .bool b → Ex H H' → Q b H') :
    okP W E (.st .fz) A H x (fun v H' => ∃ c, v = .bl c ∧ Q c H') := by
  cases x with
  | ok d =>
    obtain ⟨b, rfl⟩ := hb d rfl
    refine ⟨shOk_fz _, fun v H' as A' e hA ow _ _ => ?_⟩
    have r := ow.fzD.2
    cases r
    exact ⟨b, rfl, k _ rfl h b H' rfl e⟩
  | exc c => exact h
  | bad => exact h
theorem cmp_bool {o : C2} {x y d : D} (h : V1.cmp2 o x y = .ok d) : ∃ b, d = .bool b := by
  unfold V1.cmp2 at h
  split at h <;> first
    | (cases h; exact ⟨_, rfl⟩)
    | (cases h; done)
    | (split at h <;> first | (cases h; exact ⟨_, rfl⟩) | cases h)
theorem pt_c2 (g : Gd W n st E X) {o : C2} {op : CmpOp} {a b : MP.E} {ea eb : Expr} {pos : Pos} (ho : cmB o op = true) (hb0 : behindInMarks op eb = false)
    (ha : PE X ea (semE W n E st .op a)) (hb : PE X eb (semE W n E st .op b)) : PT X (.Compare ea [op] [eb] pos) (semT W n E st (.c2 o a b)) := by
  refine PT.weak (pt_cmpR (cm_all (E := E) g ho) ha hb hb0) ?_
  rintro σ H Q ⟨ρ, A, B, R, h⟩
  have hB : ∀ d, evE (callF W.P n) (.c2 o a b) ρ = .ok d → ∃ c, d = .bool c := by
    intro d hd
    unfold evE at hd
    obtain ⟨x, _, hd⟩ := bind_eq_ok hd
    obtain ⟨y, _, hd⟩ := bind_eq_ok hd
    exact cmp_bool hd
  have h2 : okP W E (.st .fz) A H (evE (callF W.P n) (.c2 o a b) ρ) (fun v H' => ∃ c, v = .bl c ∧ Q c H') :=
    okP.bool h hB fun d _ q c H' e ex => by subst e; exact q H' ex
  unfold evE at h2
  exact bin_sem R h2 fun v w H0 H2 dx dy e s1 s2 h3 => ⟨_, A, H0, dx, dy, rfl, e, s1, s2, h3⟩
theorem chain_sem {a b c : MP.E} {o p : C2} {m : Md} {A B : AS} {ρ : En} {σ : L2.St} {H : Hp} {Q : VK} (hm : mSh m = true) (R : RelF W.K st.Γ A B ρ σ H)
    (h : okP W E m A H (evE (callF W.P n) (.ch o p a b c) ρ) Q) :
    tChain (r2 W E (V1.cmp2 o)) (r2 W E (V1.cmp2 p)) (semE W n E st .op a) (semE W n E st .op b) (semE W n E st .op c) σ H Q := by
  unfold evE at h
  refine ⟨ρ, A, B, R, okP_bindO h fun dx ea h1 v H1 e1 s1 => ⟨ρ, A, B, R.ex e1, okP_bindO (h1.ex e1) fun dy eb h2 w H2 e2 s2 => ?_⟩⟩
  rw [ea, ok_bind, eb, ok_bind] at h
  have s1 : Sr W.K (Nw A H) H2 v dx := s1.mono (fun _ q => q) e2
  have s2 : Sr W.K (Nw A H) H2 w dy := s2.mono (Nw.mono e1) (Ex.refl _)
  have h := h.up (e1.trans e2)
  refine ⟨.st .fz, Nw A H, H2, dx, dy, rfl, Ex.refl _, s1.mono (fun _ q => .inl q) (Ex.refl _), s2.mono (fun _ q => .inl q) (Ex.refl _), okP_bind h fun t et h3 z H3 e3 rz => ?_⟩
  obtain ⟨k, rfl⟩ := cmp_bool et
  cases rz
  refine ⟨k, rfl, ?_⟩
  cases k with
  | false => exact h3.val (mSh_of hm) e3 (.bl _)
  | true =>
    have h3 : okP W E m (Nw A H) H2 (evE (callF W.P n) c ρ >>= fun z => V1.cmp2 p dy z) Q := h3
    refine ⟨ρ, A, B, R.ex ((e1.trans e2).trans e3), okP.down (okP_bindO (h3.ex e3) fun du eu h4 u H4 e4 s4 => ?_)⟩
    refine ⟨m, Nw A H, H3, dy, du, mSh_new hm, e4, s2.mono (fun _ q => .inl q) (e3.trans e4), s4, h4⟩
theorem pe_ch (g : Gd W n st E X) {m : Md} {o p : C2} {op op' : CmpOp} {a b c : MP.E} {ea eb ec : Expr} {pos : Pos} (hm : mSh m = true) (ho : cmB o op = true) (hp : cmB p op' = true) (hb0 : lastMarks [op, op'] [eb, ec] = false)
    (ha : PE X ea (semE W n E st .op a)) (hb : PE X eb (semE W n E st .op b)) (hc : PE X ec (semE W n E st .op c)) : PE X (.Compare ea [op, op'] [eb, ec] pos) (semE W n E st m (.ch o p a b c)) := by
  refine PE.weak (pe_chain (cm_all (E := E) g ho) (cm_all (E := E) g hp) ha hb hc hb0) ?_
  rintro σ H Q ⟨ρ, A, B, R, h⟩
  exact chain_sem hm R h
theorem ch_bool {cf : CF} {o p : C2} {a b c : MP.E} {ρ : En} {d : D} (hd : evE cf (.ch o p a b c) ρ = .ok d) : ∃ k, d = .bool k := by
  unfold evE at hd
  obtain ⟨x, _, hd⟩ := bind_eq_ok hd
  obtain ⟨y, _, hd⟩ := bind_eq_ok hd
  obtain ⟨t, ht, hd⟩ := bind_eq_ok hd
  obtain ⟨k, rfl⟩ := cmp_bool ht
  cases k with
  | true =>
    obtain ⟨z, _, hd⟩ := bind_eq_ok hd
    exact cmp_bool hd
  | false =>
    cases hd
    exact ⟨_, rfl⟩
theorem pt_ch (g : Gd W n st E X) {o p : C2} {op op' : CmpOp} {a b c : MP.E} {ea eb ec : Expr} {pos : Pos} (ho : cmB o op = true) (hp : cmB p op' = true) (hb0 : lastMarks [op, op'] [eb, ec] = false)
    (ha : PE X ea (semE W n E st .op a)) (hb : PE X eb (semE W n E st .op b)) (hc : PE X ec (semE W n E st .op c)) : PT X (.Compare ea [op, op'] [eb, ec] pos) (semT W n E st (.ch o p a b c)) := by
  refine PT.weak (pt_chain (cm_all (E := E) g ho) (cm_all (E := E) g hp) ha hb hc hb0) ?_
  rintro σ H Q ⟨ρ, A, B, R, h⟩
  exact chain_sem rfl R (okP.bool h (fun d hd => ch_bool hd) fun d _ q c H' e ex => by subst e; exact q H' ex)
/-! one operand -/
theorem un_sem {a : MP.E} {m : Md} {A B : AS} {ρ : En} {σ : L2.St} {H : Hp} {Q : VK} {f : D → Rs D} {r : V → Hp → Prop} (R : RelF W.K st.Γ A B ρ σ H)
    (h : okP W E m A H (evE (callF W.P n) a ρ >>= f) Q) (hr : ∀ (v : V) (H1 : Hp) (dx : D), evE (callF W.P n) a ρ = .ok dx → Ex H H1 → Sr W.K (Nw A H) H1 v dx → okP W E m A H (f dx) Q → r v H1) :
    semE W n E st .op a σ H r := by
  refine ⟨ρ, A, B, R, okP_bindO h fun dx ea h1 v H1 e1 s1 => ?_⟩
  exact hr v H1 dx ea e1 s1 h1
theorem un_semS {a : MP.E} {m : Md} {A B : AS} {ρ : En} {σ : L2.St} {H : Hp} {Q : VK} {f : D → Rs D} {r : V → Hp → Prop} (R : RelF W.K st.Γ A B ρ σ H)
    (h : okP W E m A H (evE (callF W.P n) a ρ >>= f) Q) (hr : ∀ (v : V) (H1 : Hp) (dx : D), evE (callF W.P n) a ρ = .ok dx → Ex H H1 → Rp W.K (Nw A H) H1 v dx → okP W E m A H (f dx) Q → r v H1) :
    semE W n E st (.st .fz) a σ H r := by
  refine ⟨ρ, A, B, R, okP_bind h fun dx ea h1 v H1 e1 s1 => ?_⟩
  exact hr v H1 dx ea e1 s1 h1
theorem Rp.isNone {K : PySem.W.Frag} {A : AS} {H : Hp} {v : V} {d : D} (r : Rp K A H v d) : decide (v = .non) = V1.isN d := by
  cases r <;> rfl
theorem Sr.isNone {A : AS} {H : Hp} {v : V} {d : D} (r : Sr W.K A H v d) : decide (v = .non) = V1.isN d := by
  cases r with
  | of r => exact r.isNone
  | ow _ _ _ => rfl
theorem pe_isN_ {m : Md} {neg : Bool} {op : CmpOp} {a : MP.E} {ea : Expr} {j : Nat} {p pos : Pos} (hm : mSh m = true) (ho : (match neg, op with | false, .Is => true | true, .IsNot => true | _, _ => false) = true)
    (ha : PE X ea (semE W n E st .op a)) : PE X (.Compare ea [op] [.Constant .none j p] pos) (semE W n E st m (.isN neg a)) := by
  cases neg <;> cases op <;> first | cases ho | skip
  · refine PE.weak (pe_cmpR op_isN ha pe_non (nomark _)) ?_
    rintro σ H Q ⟨ρ, A, B, R, h⟩
    unfold evE at h
    refine un_sem R h fun v H1 dx ea e1 s1 h1 => ⟨rfl, ?_⟩
    rw [s1.isNone]
    exact h1.val (mSh_of hm) e1 (.bl _)
  · refine PE.weak (pe_cmpR op_notN ha pe_non (nomark _)) ?_
    rintro σ H Q ⟨ρ, A, B, R, h⟩
    unfold evE at h
    refine un_sem R h fun v H1 dx ea e1 s1 h1 => ⟨rfl, ?_⟩
    rw [s1.isNone]
    exact h1.val (mSh_of hm) e1 (.bl _)
theorem pt_isN_ {neg : Bool} {op : CmpOp} {a : MP.E} {ea : Expr} {j : Nat} {p pos : Pos} (ho : (match neg, op with | false, .Is => true | true, .IsNot => true | _, _ => false) = true)
    (ha : PE X ea (semE W n E st .op a)) : PT X (.Compare ea [op] [.Constant .none j p] pos) (semT W n E st (.isN neg a)) := by
  have hB : ∀ {ρ : En} {d : D}, evE (callF W.P n) (.isN neg a) ρ = .ok d → ∃ c, d = .bool c := by
    intro ρ d hd
    unfold evE at hd
    obtain ⟨x, _, hd⟩ := bind_eq_ok hd
    cases hd
    exact ⟨_, rfl⟩
  cases neg <;> cases op <;> first | cases ho | skip
  · refine PT.weak (pt_cmpR op_isN ha pe_non (nomark _)) ?_
    rintro σ H Q ⟨ρ, A, B, R, h⟩
    have h2 := okP.bool (A := A) h (fun d hd => hB hd) fun d _ q c H' e ex => by subst e; exact q H' ex
    unfold evE at h2
    refine un_sem R h2 fun v H1 dx ea e1 s1 h1 => ⟨rfl, ?_⟩
    rw [s1.isNone]
    exact h1.val (.inl rfl) e1 (.bl _)
  · refine PT.weak (pt_cmpR op_notN ha pe_non (nomark _)) ?_
    rintro σ H Q ⟨ρ, A, B, R, h⟩
    have h2 := okP.bool (A := A) h (fun d hd => hB hd) fun d _ q c H' e ex => by subst e; exact q H' ex
    unfold evE at h2
    refine un_sem R h2 fun v H1 dx ea e1 s1 h1 => ⟨rfl, ?_⟩
    rw [s1.isNone]
    exact h1.val (.inl rfl) e1 (.bl _)
/-! truth -/
theorem Sr.tru {A : AS} {H : Hp} {v : V} {d : D} (r : Sr W.K A H v d) {b : Bool} (h : V1.tru d = .ok b) : TruV W.K v H b := by
  cases d with
  | none => cases r.non; cases h; exact rfl
  | bool c => cases r.bl; cases h; exact rfl
  | int i => cases r.int; cases h; exact rfl
  | str s =>
    cases r.str
    have h : V1.limx s.length (Rs.ok ((s.length : Int) != 0)) = .ok b := h
    rcases limx_ok (n := s.length) (x := Rs.ok ((s.length : Int) != 0)) with ⟨e, l⟩ | e
    · rw [e] at h; cases h; exact ⟨line_le l, rfl⟩
    · rw [e] at h; cases h
  | list xs =>
    obtain ⟨a, us, rfl, h1, h2, h3⟩ := r.list
    cases h
    refine .inl ⟨us, .of h1, ?_⟩
    have := h3.length
    cases us <;> cases xs <;> first | rfl | simp at this
  | tuple xs =>
    obtain ⟨a, us, rfl, h1, h2, h3, _⟩ := r.tup
    cases h
    refine .inr (.inl ⟨us, h1, ?_⟩)
    have := h3.length
    cases us <;> cases xs <;> first | rfl | simp at this
  | dict k =>
    unfold V1.tru at h
    split at h <;> first | cases h | skip
    all_goals first
      | (rename_i e; cases e; done)
      | skip
    rename_i xs e
    cases e
    obtain ⟨a, us, rfl, h1, h2, h3⟩ := r.wk
    refine .inl ⟨us, h1, ?_⟩
    have := h3.length
    cases us <;> cases xs <;> first | rfl | simp at this
/-- the truth of a value, by the value -/
theorem pt_of (g : Gd W n st E X) {a : MP.E} {e : Expr} (ha : PE X e (semE W n E st .op a)) (he : ∀ whole, isTrue e X.env whole = (do let v ← whole; standAt e.pos; holding [v] (truthy v))) : PT X e (semT W n E st a) := by
  refine PT.weak (pt_truth ha he) ?_
  rintro σ H Q ⟨ρ, A, B, R, h⟩
  rw [g.K]
  refine ⟨ρ, A, B, R, ?_⟩
  cases ea : evE (callF W.P n) a ρ with
  | ok d =>
    rw [ea] at h
    refine ⟨rfl, fun v H' e s => ?_⟩
    have h : okG W E H (V1.tru d) fun b => ∀ H', Ex H H' → Q b H' := h
    cases hb : V1.tru d with
    | ok b =>
      rw [hb] at h
      exact ⟨b, s.tru hb, h H' e⟩
    | exc c =>
      exfalso
      unfold V1.tru at hb
      split at hb <;> first | cases hb | (unfold V1.limx at hb; split at hb <;> cases hb)
    | bad => rw [hb] at h; exact h.elim
  | exc c => rw [ea] at h; exact h
  | bad => rw [ea] at h; exact h
end
end MP
/-! part i: more forms. -/
namespace MP
open PySem PySem.Spec PyProof.Rows L2
section
variable {W : Wd} {n : Nat} {E : XK} {st : Stc} {X : Cx}
theorem okP.toFz {m : Md} {A : AS} {H : Hp} {r : Rs D} {Q : VK} (h : okP W E m A H r Q) (hm : m = .st .fz ∨ m = .op) : okP W E (.st .fz) A H r Q := by
  rcases hm with rfl | rfl
  · exact h
  · cases r with
    | ok d => exact ⟨shOk_fz _, fun v H' as A' e hA ow _ _ => h.2 v H' e (.of (ow.fzD.2.sub hA))⟩
    | exc c => exact h
    | bad => exact h
theorem tru_exc {d : D} {c : Str} : V1.tru d ≠ .exc c := by
  intro hb
  unfold V1.tru at hb
  split at hb <;> first | (cases hb; done) | (unfold V1.limx at hb; split at hb <;> cases hb)
theorem and_sem {a b : MP.E} {m : Md} {A B : AS} {ρ : En} {σ : L2.St} {H : Hp} {Q : VK} (hm : mSh m = true) (R : RelF W.K st.Γ A B ρ σ H) (h : okP W E m A H (evE (callF W.P n) (.and a b) ρ) Q) :
    tAndT W.K (semE W n E st (.st .fz) a) (semE W n E st (.st .fz) b) σ H Q := by
  unfold evE at h
  refine un_semS R h fun v H1 dx ea e1 r1 h1 => ?_
  cases ht : V1.tru dx with
  | ok t =>
    rw [ht, ok_bind] at h1
    refine ⟨t, (Sr.of r1).tru ht, ?_⟩
    cases t with
    | true => exact ⟨ρ, A, B, R.ex e1, (okP.toFz h1 (mSh_of hm)).ex e1⟩
    | false => exact okP.val h1 (mSh_of hm) e1 r1
  | exc c => exact absurd ht tru_exc
  | bad => rw [ht] at h1; exact h1.elim
theorem or_sem {a b : MP.E} {m : Md} {A B : AS} {ρ : En} {σ : L2.St} {H : Hp} {Q : VK} (hm : mSh m = true) (R : RelF W.K st.Γ A B ρ σ H) (h : okP W E m A H (evE (callF W.P n) (.or a b) ρ) Q) :
    tOrT W.K (semE W n E st (.st .fz) a) (semE W n E st (.st .fz) b) σ H Q := by
  unfold evE at h
  refine un_semS R h fun v H1 dx ea e1 r1 h1 => ?_
  cases ht : V1.tru dx with
  | ok t =>
    rw [ht, ok_bind] at h1
    refine ⟨t, (Sr.of r1).tru ht, ?_⟩
    cases t with
    | false => exact ⟨ρ, A, B, R.ex e1, (okP.toFz h1 (mSh_of hm)).ex e1⟩
    | true => exact okP.val h1 (mSh_of hm) e1 r1
  | exc c => exact absurd ht tru_exc
  | bad => rw [ht] at h1; exact h1.elim
theorem pe_and_ (g : Gd W n st E X) {m : Md} {a b : MP.E} {x y : Expr} {r : List Expr} {pos : Pos} (hm : mSh m = true) (ha : PE X x (semE W n E st (.st .fz) a))
    (hb : PE X (match r with | [] => y | _ => .BoolOp .And (y :: r) pos) (semE W n E st (.st .fz) b)) : PE X (.BoolOp .And (x :: y :: r) pos) (semE W n E st m (.and a b)) := by
  have hb : PE X (.BoolOp .And (y :: r) pos) (semE W n E st (.st .fz) b) := by
    cases r with
    | nil => exact pe_one hb
    | cons z r => exact hb
  refine PE.weak (pe_andT ha hb) ?_
  rintro σ H Q ⟨ρ, A, B, R, h⟩
  rw [g.K]
  exact and_sem hm R h
theorem pe_or_ (g : Gd W n st E X) {m : Md} {a b : MP.E} {x y : Expr} {r : List Expr} {pos : Pos} (hm : mSh m = true) (ha : PE X x (semE W n E st (.st .fz) a))
    (hb : PE X (match r with | [] => y | _ => .BoolOp .Or (y :: r) pos) (semE W n E st (.st .fz) b)) : PE X (.BoolOp .Or (x :: y :: r) pos) (semE W n E st m (.or a b)) := by
  have hb : PE X (.BoolOp .Or (y :: r) pos) (semE W n E st (.st .fz) b) := by
    cases r with
    | nil => exact pe_one hb
    | cons z r => exact hb
  refine PE.weak (pe_orT ha hb) ?_
  rintro σ H Q ⟨ρ, A, B, R, h⟩
  rw [g.K]
  exact or_sem hm R h
/-! tests -/
def isBo : Expr → Bool
  | .BoolOp _ _ _ => true
  | _ => false
structure PTW (X : Cx) (e : Expr) (t : TT) : Prop where
  pt : PT X e t
  pw : isBo e = true → PW X e t
theorem PTW.of {e : Expr} {t : TT} (h : PT X e t) (hb : isBo e = false) : PTW X e t := ⟨h, fun q => by rw [hb] at q; cases q⟩
theorem PW.weak {e : Expr} {t t' : TT} (h : PW X e t) (w : ∀ σ H Q, t' σ H Q → t σ H Q) : PW X e t' := ⟨fun wh pins s σ H Q I q => h.run wh pins s σ H Q I (w σ H Q q)⟩
theorem ptw_and (g : Gd W n st E X) {a b : MP.E} {x y : Expr} {r : List Expr} {pos : Pos} (ha : PTW X x (semT W n E st a))
    (hb : PTW X (match r with | [] => y | _ => .BoolOp .And (y :: r) pos) (semT W n E st b)) : PTW X (.BoolOp .And (x :: y :: r) pos) (semT W n E st (.and a b)) := by
  have hb : PW X (.BoolOp .And (y :: r) pos) (semT W n E st b) := by
    cases r with
    | nil => exact pw_and1 hb.pt
    | cons z r => exact hb.pw rfl
  have q : PW X (.BoolOp .And (x :: y :: r) pos) (semT W n E st (.and a b)) := by
    refine PW.weak (pw_and ha.pt hb) ?_
    rintro σ H Q ⟨ρ, A, B, R, h⟩
    refine ⟨ρ, A, B, R, ?_⟩
    unfold evE at h
    cases ea : evE (callF W.P n) a ρ with
    | ok d =>
      rw [ea, ok_bind] at h
      show okG W E H (V1.tru d) _
      cases ht : V1.tru d with
      | ok t =>
        rw [ht, ok_bind] at h
        intro H' e
        cases t with
        | true => exact ⟨ρ, A, B, R.ex e, by
            have h : okG W E H (evE (callF W.P n) b ρ) _ := h
            cases eb : evE (callF W.P n) b ρ with
            | ok d2 =>
              rw [eb] at h
              show okG W E H' (V1.tru d2) _
              have h : okG W E H (V1.tru d2) _ := h
              cases ht2 : V1.tru d2 with
              | ok t2 => rw [ht2] at h; exact fun H2 e2 => h H2 (e.trans e2)
              | exc c => exact absurd ht2 tru_exc
              | bad => rw [ht2] at h; exact h.elim
            | exc c => rw [eb] at h; exact fun H2 e2 => h H2 (e.trans e2)
            | bad => rw [eb] at h; exact h.elim⟩
        | false =>
          have h : okG W E H (V1.tru d) _ := h
          rw [ht] at h
          exact h H' e
      | exc c => exact absurd ht tru_exc
      | bad => rw [ht] at h; exact h.elim
    | exc c => rw [ea] at h; exact h
    | bad => rw [ea] at h; exact h.elim
  exact ⟨q.pt, fun _ => q⟩
theorem ptw_or (g : Gd W n st E X) {a b : MP.E} {x y : Expr} {r : List Expr} {pos : Pos} (ha : PTW X x (semT W n E st a))
    (hb : PTW X (match r with | [] => y | _ => .BoolOp .Or (y :: r) pos) (semT W n E st b)) : PTW X (.BoolOp .Or (x :: y :: r) pos) (semT W n E st (.or a b)) := by
  have hb : PW X (.BoolOp .Or (y :: r) pos) (semT W n E st b) := by
    cases r with
    | nil => exact pw_or1 hb.pt
    | cons z r => exact hb.pw rfl
  have q : PW X (.BoolOp .Or (x :: y :: r) pos) (semT W n E st (.or a b)) := by
    refine PW.weak (pw_or ha.pt hb) ?_
    rintro σ H Q ⟨ρ, A, B, R, h⟩
    refine ⟨ρ, A, B, R, ?_⟩
    unfold evE at h
    cases ea : evE (callF W.P n) a ρ with
    | ok d =>
      rw [ea, ok_bind] at h
      show okG W E H (V1.tru d) _
      cases ht : V1.tru d with
      | ok t =>
        rw [ht, ok_bind] at h
        intro H' e
        cases t with
        | false => exact ⟨ρ, A, B, R.ex e, by
            have h : okG W E H (evE (callF W.P n) b ρ) _ := h
            cases eb : evE (callF W.P n) b ρ with
            | ok d2 =>
              rw [eb] at h
              show okG W E H' (V1.tru d2) _
              have h : okG W E H (V1.tru d2) _ := h
              cases ht2 : V1.tru d2 with
              | ok t2 => rw [ht2] at h; exact fun H2 e2 => h H2 (e.trans e2)
              | exc c => exact absurd ht2 tru_exc
              | bad => rw [ht2] at h; exact h.elim
            | exc c => rw [eb] at h; exact fun H2 e2 => h H2 (e.trans e2)
            | bad => rw [eb] at h; exact h.elim⟩
        | true =>
          have h : okG W E H (V1.tru d) _ := h
          rw [ht] at h
          exact h H' e
      | exc c => exact absurd ht tru_exc
      | bad => rw [ht] at h; exact h.elim
    | exc c => rw [ea] at h; exact h
    | bad => rw [ea] at h; exact h.elim
  exact ⟨q.pt, fun _ => q⟩
theorem pe_not_ (g : Gd W n st E X) {m : Md} {a : MP.E} {x : Expr} {pos : Pos} (hm : mSh m = true) (ha : PE X x (semE W n E st .op a)) : PE X (.UnaryOp .Not x pos) (semE W n E st m (.not a)) := by
  refine PE.weak (pe_notT ha) ?_
  rintro σ H Q ⟨ρ, A, B, R, h⟩
  rw [g.K]
  unfold evE at h
  refine un_sem R h fun v H1 dx ea e1 s1 h1 => ?_
  cases ht : V1.tru dx with
  | ok t =>
    rw [ht, ok_bind] at h1
    exact ⟨t, s1.tru ht, h1.val (mSh_of hm) e1 (.bl _)⟩
  | exc c => exact absurd ht tru_exc
  | bad => rw [ht] at h1; exact h1.elim
theorem ptw_not (g : Gd W n st E X) {a : MP.E} {x : Expr} {pos : Pos} (ha : PTW X x (semT W n E st a)) : PTW X (.UnaryOp .Not x pos) (semT W n E st (.not a)) := by
  refine .of ?_ rfl
  refine PT.weak (pt_not ha.pt) ?_
  rintro σ H Q ⟨ρ, A, B, R, h⟩
  refine ⟨ρ, A, B, R, ?_⟩
  unfold evE at h
  cases ea : evE (callF W.P n) a ρ with
  | ok d =>
    rw [ea, ok_bind] at h
    show okG W E H (V1.tru d) _
    cases ht : V1.tru d with
    | ok t => rw [ht, ok_bind] at h; exact h
    | exc c => exact absurd ht tru_exc
    | bad => rw [ht] at h; exact h.elim
  | exc c => rw [ea] at h; exact h
  | bad => rw [ea] at h; exact h.elim
theorem ife_sem {α : Type} {c : MP.E} {A B : AS} {ρ : En} {σ : L2.St} {H : Hp} {q : α → Prop} {f g : Rs α} {Q : Bool → Hp → Prop} (R : RelF W.K st.Γ A B ρ σ H)
    (h : okG W E H (evE (callF W.P n) c ρ >>= fun x => V1.tru x >>= fun t => if t then f else g) q)
    (k : ∀ t H1, Ex H H1 → okG W E H (if t = true then f else g) q → Q t H1) : semT W n E st c σ H Q := by
  refine ⟨ρ, A, B, R, ?_⟩
  cases ea : evE (callF W.P n) c ρ with
  | ok d =>
    rw [ea, ok_bind] at h
    show okG W E H (V1.tru d) _
    cases ht : V1.tru d with
    | ok t => rw [ht, ok_bind] at h; exact fun H1 e => k t H1 e h
    | exc c => exact absurd ht tru_exc
    | bad => rw [ht] at h; exact h.elim
  | exc c => rw [ea] at h; exact h
  | bad => rw [ea] at h; exact h.elim
theorem okG_okP {m : Md} {A : AS} {H : Hp} {r : Rs D} {Q : VK} : okP W E m A H r Q ↔ okG W E H r fun d => mdOk m d = true ∧ PostE W.K m A H d Q := by
  cases r <;> exact Iff.rfl
theorem pe_ife {m : Md} {c a b : MP.E} {ec ea eb : Expr} {pos : Pos} (hc : PTW X ec (semT W n E st c)) (ha : PE X ea (semE W n E st m a)) (hb : PE X eb (semE W n E st m b)) : PE X (.IfExp ec ea eb pos) (semE W n E st m (.ife c a b)) := by
  refine PE.weak (pe_ifExp hc.pt ha hb) ?_
  rintro σ H Q ⟨ρ, A, B, R, h⟩
  unfold evE at h
  refine ife_sem R (okG_okP.mp h) fun t H1 e h1 => ?_
  cases t with
  | true => exact ⟨ρ, A, B, R.ex e, okP.ex (okG_okP.mpr h1) e⟩
  | false => exact ⟨ρ, A, B, R.ex e, okP.ex (okG_okP.mpr h1) e⟩
theorem pt_ifExp' {c a b : Expr} {tc ta tb : TT} {pos : Pos} (hc : PT X c tc) (ha : PT X a ta) (hb : PT X b tb) : PT X (.IfExp c a b pos) (fun σ H Q => tc σ H fun t H1 => if t = true then ta σ H1 Q else tb σ H1 Q) := by
  refine ⟨fun pins s σ H Q I h => ?_⟩
  refine isTrue_IfExp (thn (hc.run pins s σ H _ I h) fun d s1 ⟨H1, I1, q1⟩ => ?_)
  cases d with
  | true => exact ha.run pins s1 σ H1 Q I1 q1
  | false => exact hb.run pins s1 σ H1 Q I1 q1
theorem ptw_ife {c a b : MP.E} {ec ea eb : Expr} {pos : Pos} (hc : PTW X ec (semT W n E st c)) (ha : PTW X ea (semT W n E st a)) (hb : PTW X eb (semT W n E st b)) : PTW X (.IfExp ec ea eb pos) (semT W n E st (.ife c a b)) := by
  refine .of ?_ rfl
  refine PT.weak (pt_ifExp' hc.pt ha.pt hb.pt) ?_
  rintro σ H Q ⟨ρ, A, B, R, h⟩
  unfold evE at h
  refine ife_sem R h fun t H1 e h1 => ?_
  have up : ∀ {r : Rs D}, (okG W E H r fun d => okG W E H (V1.tru d) fun b => ∀ H', Ex H H' → Q b H') → okG W E H1 r fun d => okG W E H1 (V1.tru d) fun b => ∀ H', Ex H1 H' → Q b H' := by
    intro r q
    cases r with
    | ok d =>
      have q : okG W E H (V1.tru d) _ := q
      show okG W E H1 (V1.tru d) _
      cases ht : V1.tru d with
      | ok t => rw [ht] at q; exact fun H2 e2 => q H2 (e.trans e2)
      | exc c => exact absurd ht tru_exc
      | bad => rw [ht] at q; exact q.elim
    | exc c => exact fun H2 e2 => q H2 (e.trans e2)
    | bad => exact q.elim
  cases t with
  | true => exact ⟨ρ, A, B, R.ex e, up h1⟩
  | false => exact ⟨ρ, A, B, R.ex e, up h1⟩
theorem toInt_ok {d : D} {m : Md} {A : AS} {H : Hp} {Q : VK} {f : Int → Rs D} (h : okP W E m A H (V1.toInt d >>= f) Q) : ∃ i, d = .int i ∧ okP W E m A H (f i) Q := by
  cases d <;> first | exact ⟨_, rfl, h⟩ | exact h.elim
theorem bind_assoc' {α β γ : Type} (x : Rs α) (f : α → Rs β) (g : β → Rs γ) : ((x >>= f) >>= g) = x >>= fun a => f a >>= g := by
  cases x <;> rfl
theorem pe_neg_ {m : Md} {a : MP.E} {x : Expr} {pos : Pos} (hm : mSh m = true) (ha : PE X x (semE W n E st (.st .fz) a)) : PE X (.UnaryOp .USub x pos) (semE W n E st m (.neg a)) := by
  refine PE.weak (pe_un un_neg ha) ?_
  rintro σ H Q ⟨ρ, A, B, R, h⟩
  unfold evE at h
  rw [bind_assoc'] at h
  refine un_semS R h fun v H1 dx ea e1 r1 h1 => ?_
  obtain ⟨i, rfl, h1⟩ := toInt_ok h1
  cases r1
  exact ⟨i, rfl, h1.val (mSh_of hm) e1 (.int _)⟩
theorem slc_plain {b : Expr} (h : isSlc b = false) : PlainIx b := by
  cases b <;> first | (exact fun _ _ => rfl) | cases h
theorem pe_ix_ (g : Gd W n st E X) {m : Md} {a i : MP.E} {x y : Expr} {pos : Pos} (hm : mSh m = true) (hs : isSlc y = false) (ha : PE X x (semE W n E st .op a)) (hb : PE X y (semE W n E st .op i)) : PE X (.Subscript x y pos) (semE W n E st m (.ix a i)) := by
  refine PE.weak (pe_ix (ix_ (E := E) g.K) ha hb (slc_plain hs)) ?_
  rintro σ H Q ⟨ρ, A, B, R, h⟩
  unfold evE at h
  exact bin_sem R h fun v w H0 H2 dx dy e s1 s2 h3 => ⟨m, A, H0, dx, dy, hm, e, s1, s2, h3⟩
theorem pe_scl {m : Md} {a : MP.E} {e : Expr} (hm : mSh m = true) (ha : PE X e (semE W n E (free st) (.st .fz) a)) : PE X e (semE W n E st m (.scl a)) := by
  refine PE.weak ha ?_
  rintro σ H Q ⟨ρ, A, B, R, h⟩
  unfold evE at h
  refine ⟨ρ, B, B, ⟨R.len, fun i d q => ?_, fun _ q => q, R.tr⟩, ?_⟩
  · obtain ⟨v, h1, h2, _, _⟩ := R.at_ i d q
    have e : sh (free st).Γ i = .fz := by
      show sh [] i = .fz
      unfold sh
      simp
    exact ⟨v, h1, h2, fun _ => h2, fun z => by rw [e] at z; cases z⟩
  · cases ea : evE (callF W.P n) a ρ with
    | ok d =>
      rw [ea, ok_bind] at h
      obtain ⟨c, h⟩ := okP.iff h
      exact ⟨shOk_fz _, fun v H' as A' e hA ow _ _ => h.val (mSh_of hm) e (ow.fzD.2.scal c)⟩
    | exc c => rw [ea] at h; exact h
    | bad => rw [ea] at h; exact h.elim
end
end MP
/-! part j: calls, displays, slices. -/
namespace MP
open PySem PySem.Spec PyProof.Rows L2
section
variable {W : Wd} {n : Nat} {E : XK} {st : Stc} {X : Cx}
theorem star_cons {e : Expr} {es : List Expr} {env : PySem.Env} (h : isStar e = false) : starEach (e :: es) env = (false, eval e env) :: starEach es env := by
  cases e <;> first | rfl | cases h
theorem star_any {env : PySem.Env} {pos : Pos} : ∀ {es : List Expr}, (es.all fun e => !isStar e) = true → (backTo pos (starEach es env)).any (·.1) = false
  | [], _ => rfl
  | e :: es, h => by
    rw [List.all_cons, Bool.and_eq_true, Bool.not_eq_true'] at h
    rw [star_cons h.1]
    show (false || (backTo pos (starEach es env)).any (·.1)) = false
    rw [star_any h.2]
    rfl
theorem c1_sem {a : MP.E} {m : Md} {A B : AS} {ρ : En} {σ : L2.St} {H : Hp} {Q : VK} {f : D → Rs D} (hm : mNew m = true) (R : RelF W.K st.Γ A B ρ σ H)
    (h : okP W E m A H (evE (callF W.P n) a ρ >>= f) Q) : tCB (c1 W E f) (tCons (semE W n E st .op a) tNil) σ H Q :=
  un_sem R h fun v H1 dx _ e1 s1 h1 => ⟨v, m, A, H, dx, rfl, hm, e1, s1, h1⟩
theorem mg_none (g : Gd W n st E X) (wk : Wk W n) {x : Str} (h : x ∈ blts) : X.mg x = none := by
  rw [g.mg]
  exact wk.bl x h
theorem pe_bi1 (g : Gd W n st E X) (wk : Wk W n) {m : Md} {f : Bi} {a : MP.E} {x : Str} {ea : Expr} {p pos : Pos} (hm : mNew m = true) (hx : bi1S f = some x) (hg : glB st.sc x = true) (hs : isStar ea = false)
    (ha : PE X ea (semE W n E st .op a)) : PE X (.Call (.Name x p) [ea] [] pos) (semE W n E st m (.bi1 f a)) := by
  obtain ⟨gl, gd⟩ := glB_ok g hg
  have hu := g.un
  have fin : ∀ {t : TE}, (∀ σ H Q, tCB (c1 W E (V1.bi1 f)) (tCons (semE W n E st .op a) tNil) σ H Q → t σ H Q) → ∀ σ H Q, semE W n E st m (.bi1 f a) σ H Q → t σ H Q := by
    rintro t w σ H Q ⟨ρ, A, B, R, h⟩
    unfold evE at h
    exact w σ H Q (c1_sem hm R h)
  have pa : PA X [ea] (tCons (semE W n E st .op a) tNil) := pa_cons ha pa_nil (star_cons hs)
  have s2 := star_cons (es := []) (env := X.env) hs
  cases f <;> first | (cases hx; done) | skip
  all_goals (cases hx)
  · exact PE.weak (pe_callB (b_len (E := E) g.K) gl (mg_none g wk (by decide +kernel)) (by decide +kernel) pa (by decide) gd s2 rfl) (fin fun _ _ _ q => q)
  · exact PE.weak (pe_callTy (b_int (W := W) (E := E)) gl (mg_none g wk (by decide +kernel)) (by decide +kernel) pa (by decide) gd s2 rfl) (fin fun _ _ _ q => q)
  · exact PE.weak (pe_callB (b_abs (W := W) (E := E)) gl (mg_none g wk (by decide +kernel)) (by decide +kernel) pa (by decide) gd s2 rfl) (fin fun _ _ _ q => q)
  · exact PE.weak (pe_callB (b_sum (E := E) g.K g.calm) gl (mg_none g wk (by decide +kernel)) (by decide +kernel) pa (by decide) gd s2 rfl) (fin fun _ _ _ q => q)
  · exact PE.weak (pe_callB (b_max (E := E) g.K g.calm) gl (mg_none g wk (by decide +kernel)) (by decide +kernel) pa (by decide) gd s2 rfl) (fin fun _ _ _ q => q)
  · exact PE.weak (pe_callB (b_min (E := E) g.K g.calm) gl (mg_none g wk (by decide +kernel)) (by decide +kernel) pa (by decide) gd s2 rfl) (fin fun _ _ _ q => q)
  · exact PE.weak (pe_callB (b_sorted (E := E) g.K (by omega)) gl (mg_none g wk (by decide +kernel)) (by decide +kernel) pa (by decide) gd s2 rfl) (fin fun _ _ _ q => q)
  · exact PE.weak (pe_callTy (b_list (E := E) g.K) gl (mg_none g wk (by decide +kernel)) (by decide +kernel) pa (by decide) gd s2 rfl) (fin fun _ _ _ q => q)
  · exact PE.weak (pe_callTy (b_tuple (E := E) g.K) gl (mg_none g wk (by decide +kernel)) (by decide +kernel) pa (by decide) gd s2 rfl) (fin fun _ _ _ q => q)
  · exact PE.weak (pe_callB (b_all (E := E) g.K g.calm) gl (mg_none g wk (by decide +kernel)) (by decide +kernel) pa (by decide) gd s2 rfl) (fin fun _ _ _ q => q)
  · exact PE.weak (pe_callB (b_any (E := E) g.K g.calm) gl (mg_none g wk (by decide +kernel)) (by decide +kernel) pa (by decide) gd s2 rfl) (fin fun _ _ _ q => q)
  · exact PE.weak (pe_callB (b_repr (E := E) g.K g.gd (by omega)) gl (mg_none g wk (by decide +kernel)) (by decide +kernel) pa (by decide) gd s2 rfl) (fin fun _ _ _ q => q)
  · exact PE.weak (pe_callTy (b_str (W := W) (E := E)) gl (mg_none g wk (by decide +kernel)) (by decide +kernel) pa (by decide) gd s2 rfl) (fin fun _ _ _ q => q)
theorem pe_bi2 (g : Gd W n st E X) (wk : Wk W n) {m : Md} {f : Bi} {a b : MP.E} {x : Str} {ea eb : Expr} {p pos : Pos} (hm : mNew m = true) (hx : bi2S f = some x) (hg : glB st.sc x = true) (hs : isStar ea = false) (hs2 : isStar eb = false)
    (ha : PE X ea (semE W n E st .op a)) (hb : PE X eb (semE W n E st .op b)) : PE X (.Call (.Name x p) [ea, eb] [] pos) (semE W n E st m (.bi2 f a b)) := by
  obtain ⟨gl, gd⟩ := glB_ok g hg
  have fin : ∀ σ H Q, semE W n E st m (.bi2 f a b) σ H Q → tCB (c2 W E (V1.bi2 f)) (tCons (semE W n E st .op a) (tCons (semE W n E st .op b) tNil)) σ H Q := by
    rintro σ H Q ⟨ρ, A, B, R, h⟩
    unfold evE at h
    exact bin_sem (r := fun x y H Q => c2 W E (V1.bi2 f) [x, y] H Q) R h fun v w H0 H2 dx dy e s1 s2 h3 => ⟨v, w, m, A, H0, dx, dy, rfl, hm, e, s1, s2, h3⟩
  have pa : PA X [ea, eb] (tCons (semE W n E st .op a) (tCons (semE W n E st .op b) tNil)) := pa_cons ha (pa_cons hb pa_nil (star_cons hs2)) (star_cons hs)
  have s2 := star_cons (es := [eb]) (env := X.env) hs
  have s3 : (backTo pos (starEach [eb] X.env)).any (·.1) = false := star_any (by simp [hs2])
  cases f <;> first | (cases hx; done) | skip
  all_goals (cases hx)
  · exact PE.weak (pe_callB (b_max2 (W := W) (E := E) g.calm) gl (mg_none g wk (by decide +kernel)) (by decide +kernel) pa (by decide) gd s2 s3) fin
  · exact PE.weak (pe_callB (b_min2 (W := W) (E := E) g.calm) gl (mg_none g wk (by decide +kernel)) (by decide +kernel) pa (by decide) gd s2 s3) fin
theorem ty_blts (t : Ty) : tyS t ∈ blts := by cases t <;> decide +kernel
theorem pe_isi (g : Gd W n st E X) (wk : Wk W n) {m : Md} {t : Ty} {a : MP.E} {ea : Expr} {p p2 pos : Pos} (hm : mNew m = true) (hg : glB st.sc "isinstance" = true) (hg2 : glB st.sc (tyS t) = true) (hs : isStar ea = false)
    (ha : PE X ea (semE W n E st .op a)) : PE X (.Call (.Name "isinstance" p) [ea, .Name (tyS t) p2] [] pos) (semE W n E st m (.isi t a)) := by
  obtain ⟨gl, gd⟩ := glB_ok g hg
  obtain ⟨gl2, gd2⟩ := glB_ok g hg2
  have ht : PE X (.Name (tyS t) p2) (tC (.ty (tyN t))) := pe_bltn gl2 (mg_none g wk (ty_blts t)) (boot_ty t) rfl (by cases t <;> decide) gd2
  have pa : PA X [ea, .Name (tyS t) p2] (tCons (semE W n E st .op a) (tCons (tC (.ty (tyN t))) tNil)) := pa_cons ha (pa_cons ht pa_nil rfl) (star_cons hs)
  refine PE.weak (pe_callB (b_isi (E := E) g.K t) gl (mg_none g wk (by decide +kernel)) (by decide +kernel) pa (by decide) gd (star_cons hs) rfl) ?_
  rintro σ H Q ⟨ρ, A, B, R, h⟩
  unfold evE at h
  exact un_sem (r := fun v H1 => cI W E t [v, .ty (tyN t)] H1 Q) R h fun v H1 dx _ e1 s1 h1 => ⟨v, m, A, H, dx, rfl, hm, e1, s1, h1⟩
theorem base_of {o : Expr} {at_ : Str} {env : PySem.Env} (h : bareC o = false) : attributeBase o at_ env (eval o env) = eval o env := by
  unfold attributeBase
  cases o with
  | Call fn args kws pos =>
    cases fn with
    | Name id p =>
      cases args with
      | nil =>
        cases kws with
        | nil => cases h
        | cons _ _ => rfl
      | cons _ _ => rfl
    | _ => rfl
  | _ => rfl
theorem Sr.tyL {A : AS} {H : Hp} {v : V} {ds : List D} (s : Sr W.K A H v (.list ds)) : tyV W.K "list" v H := by
  obtain ⟨a, us, rfl, h1, _⟩ := s.list
  exact .inl ⟨rfl, us, .of h1⟩
theorem pe_index (g : Gd W n st E X) {m : Md} {o a : MP.E} {eo ea : Expr} {ap cp : Pos} (hm : mNew m = true) (hl : (ap.endLine == cp.line) = true) (hb : bareC eo = false) (hs : isStar ea = false)
    (ho : PE X eo (semE W n E st .op o)) (ha : PE X ea (semE W n E st .op a)) : PE X (.Call (.Attribute eo "index" ap) [ea] [] cp) (semE W n E st m (.mt .index o a)) := by
  have hu := g.un
  have s2 := star_cons (es := []) (env := X.env) hs
  refine PE.weak (pe_bm PySem.F.plainAttrs_list PySem.F.slot_list_index PySem.F.type_list_index (b_index (E := E) g.K (by omega)) ho (pa_cons ha pa_nil s2) (base_of hb) (by rw [s2]; rfl) hl s2 rfl) ?_
  rintro σ H Q ⟨ρ, A, B, R, h⟩
  unfold evE at h
  rw [g.K]
  refine ⟨ρ, A, B, R, okP_bindO h fun dx ea h1 v H1 e1 s1 => ?_⟩
  rw [ea, ok_bind] at h
  obtain ⟨c, h⟩ := okP.iff h
  obtain ⟨c', h1⟩ := okP.iff h1
  obtain ⟨ds, rfl⟩ : ∃ ds, dx = .list ds := by
    cases dx <;> first | exact ⟨_, rfl⟩ | cases c
  refine ⟨s1.tyL, ρ, A, B, R.ex e1, okP_bindO (h1.ex e1) fun dy eb _ w H2 e2 s2 => ?_⟩
  rw [eb, ok_bind] at h
  exact ⟨w, m, A, H, _, dy, rfl, hm, e1.trans e2, s1.mono (fun _ q => q) e2, s2.mono (Nw.mono e1) (Ex.refl _), h⟩
/-! displays -/
theorem shOkG_cons {s : Sh} {ss : List Sh} {d : D} {ds : List D} : shOkG (s :: ss) (d :: ds) = (shOk s d && shOkG ss ds) := rfl
theorem pa_nil_ : PA X [] (semEs W n E st [] .nil) := by
  refine PA.weak pa_nil ?_
  rintro σ H Q ⟨ρ, A, B, R, _, h⟩
  unfold evEs at h
  exact h.2 [] H [] (fun _ => False) (Ex.refl H) (fun _ q => q.elim) .nil List.nodup_nil (fun _ q => by cases q)
theorem okG_okP' {s : Sh} {A : AS} {H : Hp} {α : Type} {x : Rs D} {f : D → Rs α} {q : α → Prop} {Q : VK} (h : okG W E H (x >>= f) q)
    (k : ∀ d, x = .ok d → okG W E H (f d) q → shOk s d = true ∧ PostE W.K (.st s) A H d Q) : okP W E (.st s) A H x Q := by
  cases x with
  | ok d => exact k d rfl h
  | exc c => exact h
  | bad => exact h
theorem pa_cons_ {s : Sh} {ss : List Sh} {e : MP.E} {es : Es} {x : Expr} {xs : List Expr} (hs : isStar x = false) (hx : PE X x (semE W n E st (.st s) e)) (hxs : PA X xs (semEs W n E st ss es)) :
    PA X (x :: xs) (semEs W n E st (s :: ss) (.cons e es)) := by
  refine PA.weak (pa_cons hx hxs (star_cons hs)) ?_
  rintro σ H Q ⟨ρ, A, B, R, al, h⟩
  unfold evEs at h al
  refine ⟨ρ, A, B, R, okG_okP' h fun d ed h1 => ?_⟩
  rw [ed, ok_bind] at al
  have al2 : allFz ss = true ∨ ∃ ds, evEs (callF W.P n) es ρ = .ok ds := by
    rcases al with al | ⟨ds, al⟩
    · exact .inl (by unfold allFz at al ⊢; rw [List.all_cons] at al; exact (shp2' al).2)
    · obtain ⟨ds', h', _⟩ := bind_eq_ok al
      exact .inr ⟨ds', h'⟩
  -- the rest's end tells of the first, too
  have hsh : shOk s d = true := by
    cases er : evEs (callF W.P n) es ρ with
    | ok ds =>
      rw [er] at h1
      have h2 : shOkG (s :: ss) (d :: ds) = true ∧ _ := h1
      exact (Bool.and_eq_true_iff.mp h2.1).1
    | exc c =>
      rw [er] at al
      rcases al with al | ⟨ds, al⟩
      · unfold allFz at al
        rw [List.all_cons] at al
        rw [of_decide_eq_true (shp2' al).1]
        exact shOk_fz d
      · cases al
    | bad => rw [er] at h1; exact h1.elim
  refine ⟨hsh, fun v H1 as A1 e1 hA1 ow1 nd1 fr1 => ⟨ρ, A, B, R.ex e1, al2, ?_⟩⟩
  cases er : evEs (callF W.P n) es ρ with
  | bad => rw [er] at h1; exact h1.elim
  | exc c => rw [er] at h1; exact fun H2 e2 => h1 H2 (e1.trans e2)
  | ok ds =>
    rw [er] at h1
    obtain ⟨k1, k2⟩ : shOkG (s :: ss) (d :: ds) = true ∧ PostG W (s :: ss) A H (d :: ds) Q := h1
    refine ⟨(Bool.and_eq_true_iff.mp k1).2, fun vs H2 cs A2 e2 hA2 ow2 nd2 fr2 => ?_⟩
    have t1 : ∀ a ∈ as, H1 a ≠ none := ow1.tracked
    have tA : ∀ a, A a → H a ≠ none := fun a q => R.tr a (R.sub a q)
    refine k2 (v :: vs) H2 (as ++ cs) (fun a => (A1 a ∧ H1 a ≠ none) ∨ A2 a) (e1.trans e2) ?_ (.cons ?_ ?_) ?_ ?_
    · rintro a (⟨q, _⟩ | q)
      · exact hA1 a q
      · rcases hA2 a q with q | q
        · exact .inl q
        · exact .inr (e1.back q)
    · exact ow1.mono (fun a q t => .inl ⟨q, t⟩) (fun a o _ q => e2 a o q) fun a _ o q => e2 a o q
    · exact ow2.mono (fun a q _ => .inr q) (Ex.refl _)
    · rw [List.nodup_append]
      refine ⟨nd1, nd2, fun a ha b hb z => ?_⟩
      subst z
      exact t1 a ha (fr2 a hb).1
    · intro a ha
      rcases List.mem_append.mp ha with ha | ha
      · refine ⟨(fr1 a ha).1, ?_⟩
        rintro (⟨q, _⟩ | q)
        · exact (fr1 a ha).2 q
        · rcases hA2 a q with q | q
          · exact tA a q (fr1 a ha).1
          · exact t1 a ha q
      · refine ⟨e1.back (fr2 a ha).1, ?_⟩
        rintro (⟨_, q⟩ | q)
        · exact q (fr2 a ha).1
        · exact (fr2 a ha).2 q
theorem shOkG_rep {s : Sh} : ∀ {ds : List D}, shOkG (List.replicate ds.length s) ds = shOkL s ds
  | [] => by unfold shOkL; cases s <;> rfl
  | d :: ds => by
    show (shOk s d && shOkG (List.replicate ds.length s) ds) = _
    rw [shOkG_rep]
    cases s with
    | fz => rw [shOk_fz, shOkL_fz, shOkL_fz]; rfl
    | _ => conv => rhs; unfold shOkL
theorem allFz_rep : ∀ k : Nat, allFz (List.replicate k .fz) = true
  | 0 => rfl
  | k + 1 => by
    unfold allFz
    rw [List.replicate_succ, List.all_cons]
    have := allFz_rep k
    unfold allFz at this
    rw [this]
    rfl
theorem evEs_len {cf : CF} : ∀ {st : Stc} {P : Prg} {ss : List Sh} {es : Es} {xs : List Expr} {ρ : En} {ds : List D}, okEs P st ss es xs = true → evEs cf es ρ = .ok ds → ds.length = ss.length ∧ xs.length = ss.length
  | _, _, [], .nil, xs, ρ, ds, h, e => by
    unfold okEs at h
    unfold evEs at e
    cases e
    cases xs with
    | nil => exact ⟨rfl, rfl⟩
    | cons _ _ => cases h
  | st, P, s :: ss, .cons e es, xs, ρ, ds, h, ev => by
    cases xs with
    | nil => unfold okEs at h; cases h
    | cons x xs =>
      unfold okEs at h
      unfold evEs at ev
      obtain ⟨d, _, ev⟩ := bind_eq_ok ev
      obtain ⟨ds', e2, ev⟩ := bind_eq_ok ev
      cases ev
      obtain ⟨l1, l2⟩ := evEs_len (shp2' h).2 e2
      exact ⟨by simp [l1], by simp [l2]⟩
  | _, _, [], .cons _ _, _, _, _, h, _ => by unfold okEs at h; cases h
  | _, _, _ :: _, .nil, _, _, _, h, _ => by unfold okEs at h; cases h
theorem okG_bindP {m : Md} {A : AS} {H : Hp} {α : Type} {x : Rs α} {f : α → Rs D} {Q : VK} {q : α → Prop} (h : okP W E m A H (x >>= f) Q) (k : ∀ d, x = .ok d → okP W E m A H (f d) Q → q d) : okG W E H x q := by
  cases x with
  | ok d => exact k d rfl h
  | exc c => exact h
  | bad => exact h
theorem okG_calm {m : Md} {A : AS} {H : Hp} {α : Type} {x : Rs α} {f : α → Rs D} {Q : VK} (h : okP W E m A H (x.calm >>= f) Q) : ∃ d, x = .ok d ∧ okP W E m A H (f d) Q := by
  cases x with
  | ok d => exact ⟨d, rfl, h⟩
  | exc c => exact h.elim
  | bad => exact h.elim
theorem rep_of_len {k : Nat} {ds : List D} (h : ds.length = (List.replicate k Sh.fz).length) : k = ds.length := by simpa using h.symm
theorem pe_lst_ {m : Md} {es : Es} {xs : List Expr} {pos : Pos} (hm : mNew m = true) (hok : okEs W.P st (List.replicate xs.length .fz) es xs = true) (hxs : PA X xs (semEs W n E st (List.replicate xs.length .fz) es)) : PE X (.List xs pos) (semE W n E st m (.lst es)) := by
  refine PE.weak (pe_lst hxs) ?_
  rintro σ H Q ⟨ρ, A, B, R, h⟩
  unfold evE at h
  refine ⟨ρ, A, B, R, .inl (allFz_rep _), okG_bindP h fun ds eds h1 => ?_⟩
  obtain ⟨l1, _⟩ := evEs_len hok eds
  have hk := rep_of_len l1
  obtain ⟨lz, h1⟩ := okP.lim h1
  rw [hk]
  refine ⟨by rw [shOkG_rep]; exact shOkL_fz ds, fun vs H1 as A1 e1 hA ow nd fr => ?_⟩
  obtain ⟨ea, r⟩ := ow.rep.fz
  have r : RpL W.K (Nw A H) H1 vs ds := r.mono (fun a q _ => hA a q) fun _ _ _ q => q
  exact ⟨line_le (by rw [r.length]; exact lz), fun p hp => h1.newL hm e1 hp lz r⟩
theorem pe_tup_ {m : Md} {es : Es} {xs : List Expr} {k : Nat} {pos : Pos} (hm : mSh m = true) (hok : okEs W.P st (List.replicate xs.length .fz) es xs = true) (hxs : PA X xs (semEs W n E st (List.replicate xs.length .fz) es)) : PE X (.Tuple xs k pos) (semE W n E st m (.tup es)) := by
  refine PE.weak (pe_tup hxs) ?_
  rintro σ H Q ⟨ρ, A, B, R, h⟩
  unfold evE at h
  refine ⟨ρ, A, B, R, .inl (allFz_rep _), okG_bindP h fun ds eds h1 => ?_⟩
  obtain ⟨l1, _⟩ := evEs_len hok eds
  have hk := rep_of_len l1
  obtain ⟨lz, h1⟩ := okP.lim h1
  rw [hk]
  refine ⟨by rw [shOkG_rep]; exact shOkL_fz ds, fun vs H1 as A1 e1 hA ow nd fr => ?_⟩
  obtain ⟨ea, r⟩ := ow.rep.fz
  have r : RpL W.K (Nw A H) H1 vs ds := r.mono (fun a q _ => hA a q) fun _ _ _ q => q
  exact ⟨line_le (by rw [r.length]; exact lz), fun p hp => h1.newT (mSh_new hm) e1 hp lz r⟩
theorem pe_lsh_ {s : Sh} {es : Es} {xs : List Expr} {pos : Pos} (hok : okEs W.P st (List.replicate xs.length s) es xs = true) (hxs : PA X xs (semEs W n E st (List.replicate xs.length s) es)) : PE X (.List xs pos) (semE W n E st (.st (.ls s)) (.lsh s es)) := by
  refine PE.weak (pe_lst hxs) ?_
  rintro σ H Q ⟨ρ, A, B, R, h⟩
  unfold evE at h
  obtain ⟨ds, eds, h1⟩ := okG_calm h
  obtain ⟨l1, _⟩ := evEs_len hok eds
  have hk : xs.length = ds.length := by simpa using l1.symm
  obtain ⟨c, h1⟩ := okP.iff h1
  obtain ⟨lz, h1⟩ := okP.lim h1
  refine ⟨ρ, A, B, R, .inr ⟨ds, eds⟩, ?_⟩
  rw [eds, hk]
  have c : shOkL s ds = true := by unfold shOk at c; exact c
  refine ⟨by rw [shOkG_rep]; exact c, fun vs H1 as A1 e1 hA ow nd fr => ?_⟩
  refine ⟨line_le (by rw [ow.length]; exact lz), fun p hp => ?_⟩
  have np : p ∉ as := fun z => ow.tracked p z hp
  refine h1.2 (.ref p) (upd H1 p (.lst vs)) (p :: as) (fun a => A1 a ∧ H1 a ≠ none) (e1.trans (Ex.new hp)) (fun a q => hA a q.1) (.ls upd_same lz ((ow.mono (A' := fun a => A1 a ∧ H1 a ≠ none) (fun a q t => ⟨q, t⟩) (Ex.new hp)).rep)) (List.nodup_cons.mpr ⟨np, nd⟩) fun a ha => ?_
  rcases List.mem_cons.mp ha with z | ha
  · subst z
    exact ⟨e1.back hp, fun q => q.2 hp⟩
  · exact ⟨(fr a ha).1, fun q => (fr a ha).2 q.1⟩
theorem pe_tsh_ {s1 s2 : Sh} {es : Es} {xs : List Expr} {k : Nat} {pos : Pos} (hok : okEs W.P st [s1, s2] es xs = true) (hxs : PA X xs (semEs W n E st [s1, s2] es)) : PE X (.Tuple xs k pos) (semE W n E st (.st (.t2 s1 s2)) (.tsh (.t2 s1 s2) es)) := by
  refine PE.weak (pe_tup hxs) ?_
  rintro σ H Q ⟨ρ, A, B, R, h⟩
  unfold evE at h
  obtain ⟨ds, eds, h1⟩ := okG_calm h
  obtain ⟨l1, _⟩ := evEs_len hok eds
  obtain ⟨c, h1⟩ := okP.iff h1
  obtain ⟨lz, h1⟩ := okP.lim h1
  refine ⟨ρ, A, B, R, .inr ⟨ds, eds⟩, ?_⟩
  rw [eds]
  match ds, l1 with
  | [d1, d2], _ =>
    have c : (shOk s1 d1 && shOk s2 d2) = true := by unfold shOk at c; exact c
    refine ⟨by show (shOk s1 d1 && (shOk s2 d2 && true)) = true; rw [Bool.and_true]; exact c, fun vs H1 as A1 e1 hA ow nd fr => ?_⟩
    refine ⟨line_le (by rw [ow.length]; exact lz), fun p hp => ?_⟩
    have np : p ∉ as := fun z => ow.tracked p z hp
    have ow := ow.mono (A' := fun a => A1 a ∧ H1 a ≠ none) (fun a q t => ⟨q, t⟩) (Ex.new (o := .tup vs) hp)
    have fin : ∀ as', as' = as → Ow W.K (fun a => A1 a ∧ H1 a ≠ none) (upd H1 p (.tup vs)) (.t2 s1 s2) (.ref p) (.tuple [d1, d2]) (p :: as') → Q (.ref p) (upd H1 p (.tup vs)) := by
      intro as' z w
      subst z
      refine h1.2 (.ref p) (upd H1 p (.tup vs)) (p :: as') _ (e1.trans (Ex.new hp)) (fun a q => hA a q.1) w (List.nodup_cons.mpr ⟨np, nd⟩) fun a ha => ?_
      rcases List.mem_cons.mp ha with z | ha
      · subst z
        exact ⟨e1.back hp, fun q => q.2 hp⟩
      · exact ⟨(fr a ha).1, fun q => (fr a ha).2 q.1⟩
    cases ow with
    | cons o1 o2 =>
      cases o2 with
      | cons o2 o3 =>
        cases o3
        exact fin _ (by rw [List.append_nil]) (.t2 upd_same o1 o2)
/-! slices -/
theorem po_so {e : MP.E} {x : Expr} (hx : PE X x (semE W n E st (.st .fz) e)) : PO X (some x) (semEo W n E st (.so e)) := by
  have h := po_some hx
  refine ⟨fun pins s σ H Q I hw => h.run pins s σ H Q I ?_⟩
  obtain ⟨ρ, A, B, R, hw⟩ := hw
  unfold evEo at hw
  rw [bind_assoc'] at hw
  refine ⟨ρ, A, B, R, okG_bind hw fun d _ h1 v H1 e1 r => ?_⟩
  cases d with
  | int i =>
    cases r
    exact ⟨i, rfl, h1 H1 e1⟩
  | _ => exact h1.elim
theorem po_no : PO X none (semEo W n E st .no) := by
  have h := po_none (X := X)
  refine ⟨fun pins s σ H Q I hw => h.run pins s σ H Q I ?_⟩
  obtain ⟨ρ, A, B, R, hw⟩ := hw
  unfold evEo at hw
  exact hw H (Ex.refl H)
theorem pe_sl (g : Gd W n st E X) {m : Md} {a : MP.E} {lo hi : Eo} {x : Expr} {l u : Option Expr} {p pos : Pos} (hm : mNew m = true) (ha : PE X x (semE W n E st .op a)) (hl : PO X l (semEo W n E st lo)) (hu : PO X u (semEo W n E st hi)) :
    PE X (.Subscript x (.Slice l u none p) pos) (semE W n E st m (.sl a lo hi)) := by
  refine PE.weak (pe_slice (sl_ (E := E) g.K) ha hl hu) ?_
  rintro σ H Q ⟨ρ, A, B, R, h⟩
  unfold evE at h
  refine ⟨ρ, A, B, R, okP_bindO h fun dx ea h1 v H1 e1 s1 => ⟨ρ, A, B, R.ex e1, ?_⟩⟩
  rw [ea, ok_bind] at h
  have h1 := h1.ex e1
  refine okG_bindP h1 fun lo' el h2 H2 e2 => ⟨ρ, A, B, R.ex (e1.trans e2), ?_⟩
  rw [el, ok_bind] at h
  refine okG_bindP (h2.ex e2) fun hi' eh _ H3 e3 => ?_
  rw [eh, ok_bind] at h
  exact ⟨m, A, H, dx, hm, (e1.trans e2).trans e3, s1.mono (fun _ q => q) (e2.trans e3), h⟩
theorem pe_rvs (g : Gd W n st E X) {m : Md} {a : MP.E} {x : Expr} {k : Nat} {p1 p2 p3 pos : Pos} (hm : mNew m = true) (ha : PE X x (semE W n E st .op a)) :
    PE X (.Subscript x (.Slice none none (some (.UnaryOp .USub (.Constant (.int 1) k p1) p2)) p3) pos) (semE W n E st m (.rvs a)) := by
  refine PE.weak (pe_revL ha) ?_
  rintro σ H Q ⟨ρ, A, B, R, h⟩
  unfold evE at h
  rw [g.K]
  refine un_sem R h fun v H1 dx ea e1 s1 h1 => ?_
  cases dx with
  | list ds =>
    obtain ⟨b, us, rfl, k1, k2, k3⟩ := s1.list
    exact ⟨b, us, rfl, .of k1, fun p hp => h1.newL hm e1 hp (by rw [List.length_reverse]; exact k2) k3.reverse⟩
  | _ => exact h1.elim
end
end MP
/-! part k: targets, what is walked, calls of defs. -/
namespace MP
open PySem PySem.Spec PyProof.Rows L2
section
variable {W : Wd} {n : Nat} {E : XK} {st : Stc} {X : Cx}
/-! targets -/
structure SetR (K : PySem.W.Frag) (A : AS) (H : Hp) (ix : List Nat) (ρ ρ' : En) (σ σ' : L2.St) : Prop where
  ls : σ'.length = σ.length
  lr : ρ'.length = ρ.length
  out : ∀ i, i ∉ ix → σ'[i]? = σ[i]? ∧ ρ'[i]? = ρ[i]?
  inn : ∀ i, i ∈ ix → ∀ d, ρ'[i]? = some (some d) → ∃ v, σ'[i]? = some (some v) ∧ Rp K A H v d
theorem SetR.trans {K : PySem.W.Frag} {A : AS} {H : Hp} {ix jx : List Nat} {ρ ρ1 ρ2 : En} {σ σ1 σ2 : L2.St} (a : SetR K A H ix ρ ρ1 σ σ1) (b : SetR K A H jx ρ1 ρ2 σ1 σ2) : SetR K A H (ix ++ jx) ρ ρ2 σ σ2 := by
  refine ⟨b.ls.trans a.ls, b.lr.trans a.lr, fun i hi => ?_, fun i hi d hd => ?_⟩
  · have h1 : i ∉ ix := fun z => hi (List.mem_append_left _ z)
    have h2 : i ∉ jx := fun z => hi (List.mem_append_right _ z)
    exact ⟨(b.out i h2).1.trans (a.out i h1).1, (b.out i h2).2.trans (a.out i h1).2⟩
  · by_cases h2 : i ∈ jx
    · exact b.inn i h2 d hd
    · have h1 : i ∈ ix := (List.mem_append.mp hi).resolve_right h2
      rw [(b.out i h2).2] at hd
      obtain ⟨v, e, r⟩ := a.inn i h1 d hd
      exact ⟨v, (b.out i h2).1.trans e, r⟩
/-- a target takes a value -/
def gD (K : PySem.W.Frag) (tg : Tg) : TG := fun v σ H Q => ∃ A d ρ ρ', Rp K A H v d ∧ σ.length = ρ.length ∧ asg tg d ρ = .ok ρ' ∧ ∀ σ', SetR K A H (tgIx tg) ρ ρ' σ σ' → Q σ' H
theorem PG.weak {X : Cx} {e : Expr} {t t' : TG} (h : PG X e t) (w : ∀ v σ H Q, t' v σ H Q → t v σ H Q) : PG X e t' := ⟨fun pins s σ H v u Q I r q => h.run pins s σ H v u Q I r (w v σ H Q q)⟩
theorem locB_ok (g : Gd W n st E X) {i : Nat} {x : Str} (h : locB st i x = true) : X.N[i]? = some x ∧ L2.Loc X.env.scope x ∧ (X.fn x = true ∨ X.env.scope.names.lookup x = some .local) := by
  unfold locB at h
  obtain ⟨h1, h2⟩ := shp2' h
  refine ⟨by rw [g.N]; exact of_decide_eq_true h1, ?_⟩
  unfold L2.Loc
  rw [g.sc]
  split at h2
  · rename_i e
    exact ⟨.inl e, .inr e⟩
  · rename_i e
    exact ⟨.inr e, .inl (g.fn x h2)⟩
  · cases h2
theorem set_at {α : Type} {l : List α} {i j : Nat} {x : α} (h : i ≠ j) : (l.set i x)[j]? = l[j]? := List.getElem?_set_ne h
theorem pg_nm (g : Gd W n st E X) {i : Nat} {x : Str} {pos : Pos} (h : locB st i x = true) : PG X (.Name x pos) (gD W.K (.nm i)) := by
  obtain ⟨h1, h2, h3⟩ := locB_ok g h
  refine PG.weak (pg_name (by rw [g.N]; exact g.nd) h1 h2 h3) ?_
  rintro v σ H Q ⟨A, d, ρ, ρ', r, hl, ha, hq⟩
  unfold asg at ha
  cases ha
  refine hq _ ⟨by simp, by simp, fun j hj => ?_, fun j hj d' hd => ?_⟩
  · have hne : i ≠ j := fun z => hj (by rw [z]; exact List.mem_singleton.mpr rfl)
    exact ⟨set_at hne, set_at hne⟩
  · have e : j = i := List.mem_singleton.mp hj
    subst e
    rw [List.getElem?_set_self'] at hd
    cases h0 : ρ[j]? with
    | none => rw [h0] at hd; cases hd
    | some o =>
      rw [h0] at hd
      cases hd
      have hlt : j < σ.length := by rw [hl]; exact (List.getElem?_eq_some_iff.mp h0).1
      exact ⟨v, by rw [List.getElem?_set_self hlt], r⟩
theorem as_star {e : Expr} {es : List Expr} {env : PySem.Env} (h : isStar e = false) : assignEach (e :: es) env = (false, assign e env) :: assignEach es env := by
  cases e <;> first | rfl | cases h
theorem okTg_star {tg : Tg} {e : Expr} (h : okTg st tg e = true) : isStar e = false := by
  cases e <;> first | rfl | (cases tg <;> (unfold okTg at h; cases h))
theorem asg2 {a b : Tg} {d : D} {ρ ρ' : En} (h : asg (.t2 a b) d ρ = .ok ρ') : ∃ x y ρ1, d = .tuple [x, y] ∧ asg a x ρ = .ok ρ1 ∧ asg b y ρ1 = .ok ρ' := by
  cases d <;> first | (unfold asg at h; cases h; done) | skip
  rename_i xs
  match xs, h with
  | [], h => unfold asg at h; cases h
  | [_], h => unfold asg at h; cases h
  | [x, y], h =>
    unfold asg at h
    obtain ⟨ρ1, h1, h2⟩ := bind_eq_ok h
    exact ⟨x, y, ρ1, rfl, h1, h2⟩
  | _ :: _ :: _ :: _, h => unfold asg at h; cases h
theorem asg3 {a b c : Tg} {d : D} {ρ ρ' : En} (h : asg (.t3 a b c) d ρ = .ok ρ') : ∃ x y z ρ1 ρ2, d = .tuple [x, y, z] ∧ asg a x ρ = .ok ρ1 ∧ asg b y ρ1 = .ok ρ2 ∧ asg c z ρ2 = .ok ρ' := by
  cases d <;> first | (unfold asg at h; cases h; done) | skip
  rename_i xs
  match xs, h with
  | [], h => unfold asg at h; cases h
  | [_], h => unfold asg at h; cases h
  | [_, _], h => unfold asg at h; cases h
  | [x, y, z], h =>
    unfold asg at h
    obtain ⟨ρ2, h, h3⟩ := bind_eq_ok h
    obtain ⟨ρ1, h1, h2⟩ := bind_eq_ok h
    exact ⟨x, y, z, ρ1, ρ2, rfl, h1, h2, h3⟩
  | _ :: _ :: _ :: _ :: _, h => unfold asg at h; cases h
theorem asg4 {a b c e : Tg} {d : D} {ρ ρ' : En} (h : asg (.t4 a b c e) d ρ = .ok ρ') : ∃ x y z u ρ1 ρ2 ρ3, d = .tuple [x, y, z, u] ∧ asg a x ρ = .ok ρ1 ∧ asg b y ρ1 = .ok ρ2 ∧ asg c z ρ2 = .ok ρ3 ∧ asg e u ρ3 = .ok ρ' := by
  cases d <;> first | (unfold asg at h; cases h; done) | skip
  rename_i xs
  match xs, h with
  | [], h => unfold asg at h; cases h
  | [_], h => unfold asg at h; cases h
  | [_, _], h => unfold asg at h; cases h
  | [_, _, _], h => unfold asg at h; cases h
  | [x, y, z, u], h =>
    unfold asg at h
    obtain ⟨ρ3, h, h4⟩ := bind_eq_ok h
    obtain ⟨ρ2, h, h3⟩ := bind_eq_ok h
    obtain ⟨ρ1, h1, h2⟩ := bind_eq_ok h
    exact ⟨x, y, z, u, ρ1, ρ2, ρ3, rfl, h1, h2, h3, h4⟩
  | _ :: _ :: _ :: _ :: _ :: _, h => unfold asg at h; cases h
theorem pg_tg (g : Gd W n st E X) : ∀ (tg : Tg) (e : Expr), okTg st tg e = true → PG X e (gD W.K tg)
  | .nm i, e, h => by
    unfold okTg at h
    split at h
    · exact pg_nm g h
    · cases h
  | .t2 a b, e, h => by
    unfold okTg at h
    split at h
    · rename_i ea eb k pos
      obtain ⟨ha, hb⟩ := shp2' h
      have sa := okTg_star ha
      have sb := okTg_star hb
      have e1 : assignEach [ea, eb] X.env = [(false, assign ea X.env), (false, assign eb X.env)] := by rw [as_star sa, as_star sb]; rfl
      have e2 : assignEach [eb] X.env = [(false, assign eb X.env)] := by rw [as_star sb]; rfl
      refine PG.weak (pg_tup (n := 2) g.calm (pgs_cons (pg_tg g a ea ha) (pgs_cons (pg_tg g b eb hb) pgs_nil (by rw [e2]; rfl)) (by rw [e1, e2]; rfl)) (by rw [e1]; rfl) (by rw [e1]; rfl)) ?_
      rintro v σ H Q ⟨A, d, ρ, ρ', r, hl, hs, hq⟩
      obtain ⟨x, y, ρ1, rfl, h1, hs⟩ := asg2 hs
      cases r with
      | tup q1 q2 q3 =>
        cases q3 with
        | cons r1 q3 =>
          cases q3 with
          | cons r2 q3 =>
            cases q3
            refine ⟨_, _, rfl, ?_, rfl, _, _, rfl, A, _, ρ, ρ1, r1, hl, h1, fun σ1 s1 => ⟨_, _, rfl, A, _, ρ1, ρ', r2, ?_, hs, fun σ2 s2 => ⟨rfl, hq σ2 (s1.trans s2)⟩⟩⟩
            · rw [g.K]
              rcases q1 with ⟨_, q1⟩ | q1
              · exact .of q1
              · exact sqt0 q1
            · rw [s1.ls, s1.lr, hl]
    · cases h
  | .t3 a b c, e, h => by
    unfold okTg at h
    split at h
    · rename_i ea eb ec k pos
      obtain ⟨h, hc⟩ := shp2' h
      obtain ⟨ha, hb⟩ := shp2' h
      have sa := okTg_star ha
      have sb := okTg_star hb
      have sc := okTg_star hc
      have e1 : assignEach [ea, eb, ec] X.env = [(false, assign ea X.env), (false, assign eb X.env), (false, assign ec X.env)] := by rw [as_star sa, as_star sb, as_star sc]; rfl
      have e2 : assignEach [eb, ec] X.env = [(false, assign eb X.env), (false, assign ec X.env)] := by rw [as_star sb, as_star sc]; rfl
      have e3 : assignEach [ec] X.env = [(false, assign ec X.env)] := by rw [as_star sc]; rfl
      refine PG.weak (pg_tup (n := 3) g.calm (pgs_cons (pg_tg g a ea ha) (pgs_cons (pg_tg g b eb hb) (pgs_cons (pg_tg g c ec hc) pgs_nil (by rw [e3]; rfl)) (by rw [e2, e3]; rfl)) (by rw [e1, e2]; rfl)) (by rw [e1]; rfl) (by rw [e1]; rfl)) ?_
      rintro v σ H Q ⟨A, d, ρ, ρ', r, hl, hs, hq⟩
      obtain ⟨x, y, z, ρ1, ρ2, rfl, h1, h2, h3⟩ := asg3 hs
      cases r with
      | tup q1 q2 q3 =>
        cases q3 with
        | cons r1 q3 =>
          cases q3 with
          | cons r2 q3 =>
            cases q3 with
            | cons r3 q3 =>
            cases q3
            refine ⟨_, _, rfl, ?_, rfl, _, _, rfl, A, _, ρ, ρ1, r1, hl, h1, fun σ1 s1 => ⟨_, _, rfl, A, _, ρ1, ρ2, r2, ?_, h2, fun σ2 s2 => ⟨_, _, rfl, A, _, ρ2, ρ', r3, ?_, h3, fun σ3 s3 => ⟨rfl, hq σ3 ((s1.trans s2).trans s3)⟩⟩⟩⟩
            · rw [g.K]
              rcases q1 with ⟨_, q1⟩ | q1
              · exact .of q1
              · exact sqt0 q1
            · rw [s1.ls, s1.lr, hl]
            · rw [s2.ls, s2.lr, s1.ls, s1.lr, hl]
    · cases h
  | .t4 a b c d, e, h => by
    unfold okTg at h
    split at h
    · rename_i ea eb ec ed k pos
      obtain ⟨h, hd⟩ := shp2' h
      obtain ⟨h, hc⟩ := shp2' h
      obtain ⟨ha, hb⟩ := shp2' h
      have sa := okTg_star ha
      have sb := okTg_star hb
      have sc := okTg_star hc
      have sd := okTg_star hd
      have e1 : assignEach [ea, eb, ec, ed] X.env = [(false, assign ea X.env), (false, assign eb X.env), (false, assign ec X.env), (false, assign ed X.env)] := by rw [as_star sa, as_star sb, as_star sc, as_star sd]; rfl
      have e2 : assignEach [eb, ec, ed] X.env = [(false, assign eb X.env), (false, assign ec X.env), (false, assign ed X.env)] := by rw [as_star sb, as_star sc, as_star sd]; rfl
      have e3 : assignEach [ec, ed] X.env = [(false, assign ec X.env), (false, assign ed X.env)] := by rw [as_star sc, as_star sd]; rfl
      have e4 : assignEach [ed] X.env = [(false, assign ed X.env)] := by rw [as_star sd]; rfl
      refine PG.weak (pg_tup (n := 4) g.calm (pgs_cons (pg_tg g a ea ha) (pgs_cons (pg_tg g b eb hb) (pgs_cons (pg_tg g c ec hc) (pgs_cons (pg_tg g d ed hd) pgs_nil (by rw [e4]; rfl)) (by rw [e3, e4]; rfl)) (by rw [e2, e3]; rfl)) (by rw [e1, e2]; rfl)) (by rw [e1]; rfl) (by rw [e1]; rfl)) ?_
      rintro v σ H Q ⟨A, dd, ρ, ρ', r, hl, hs, hq⟩
      obtain ⟨x, y, z, u, ρ1, ρ2, ρ3, rfl, h1, h2, h3, h4⟩ := asg4 hs
      cases r with
      | tup q1 q2 q3 =>
        cases q3 with
        | cons r1 q3 =>
          cases q3 with
          | cons r2 q3 =>
            cases q3 with
            | cons r3 q3 =>
            cases q3 with
            | cons r4 q3 =>
            cases q3
            refine ⟨_, _, rfl, ?_, rfl, _, _, rfl, A, _, ρ, ρ1, r1, hl, h1, fun σ1 s1 => ⟨_, _, rfl, A, _, ρ1, ρ2, r2, ?_, h2, fun σ2 s2 => ⟨_, _, rfl, A, _, ρ2, ρ3, r3, ?_, h3, fun σ3 s3 => ⟨_, _, rfl, A, _, ρ3, ρ', r4, ?_, h4, fun σ4 s4 => ⟨rfl, hq σ4 (((s1.trans s2).trans s3).trans s4)⟩⟩⟩⟩⟩
            · rw [g.K]
              rcases q1 with ⟨_, q1⟩ | q1
              · exact .of q1
              · exact sqt0 q1
            · rw [s1.ls, s1.lr, hl]
            · rw [s2.ls, s2.lr, s1.ls, s1.lr, hl]
            · rw [s3.ls, s3.lr, s2.ls, s2.lr, s1.ls, s1.lr, hl]
    · cases h

/-! what is walked -/
theorem kp_rp {A : AS} {H H1 H' : Hp} {G : AS} (hG : ∀ a, Nw A H a → H1 a ≠ none → G a) (k : Kp G H1 H') {v : V} {d : D} (r : Rp W.K (Nw A H) H1 v d) : Rp W.K (Nw (fun a => Nw A H a ∧ H1 a ≠ none) H') H' v d :=
  r.mono (fun a q t => .inl ⟨q, t⟩) fun a o q e => k a o (hG a q (by rw [e]; exact fun z => nomatch z)) e
theorem walkD_at {J : L2.It} {xs : List V} {ds : List D} {A : AS} {H H1 : Hp} {G : AS} {G0 : Hp → Prop} (w : L2.Walk J xs.length G0 (YAt xs)) (h0 : ∀ H', Kp G H1 H' → G0 H') (r : RpL W.K (Nw A H) H1 xs ds)
    (hG : ∀ a, Nw A H a → H1 a ≠ none → G a) : WalkD W J G (fun a => Nw A H a ∧ H1 a ≠ none) H1 ds := by
  refine ⟨YAt xs, ?_, fun i H' x H2 hi k y => ?_⟩
  · rw [← r.length]
    exact w.mono h0 fun _ _ _ _ _ _ y => y
  · obtain ⟨rfl, hx⟩ := y
    obtain ⟨d, hd, rd⟩ := r.getV hx
    exact ⟨Ex.refl _, d, hd, kp_rp hG k rd⟩
theorem walkD_fn {J : L2.It} {f : Nat → Int} {m : Nat} {A1 : AS} {H1 : Hp} {G : AS} (w : L2.Walk J m (fun _ => True) (YFn fun i => .int (f i))) : WalkD W J G A1 H1 ((List.range m).map fun k => .int (f k)) := by
  refine ⟨YFn fun i => .int (f i), ?_, fun i H' x H2 hi k y => ?_⟩
  · rw [List.length_map, List.length_range]
    exact w.mono (fun _ _ => trivial) fun _ _ _ _ _ _ y => y
  · obtain ⟨rfl, rfl⟩ := y
    rw [List.length_map, List.length_range] at hi
    exact ⟨Ex.refl _, .int (f i), by simp [hi], .int _⟩
theorem enumL_len : ∀ (xs : List D) (k : Nat), (V1.enumL xs k).length = xs.length
  | [], _ => rfl
  | _ :: xs, k => by unfold V1.enumL; rw [List.length_cons, List.length_cons, enumL_len xs]
theorem enumL_get : ∀ (xs : List D) (k i : Nat) (d : D), xs[i]? = some d → (V1.enumL xs k)[i]? = some (.tuple [.int ((k + i : Nat) : Int), d])
  | [], _, _, _, h => by simp at h
  | x :: xs, k, 0, d, h => by
    unfold V1.enumL
    simp at h
    subst h
    simp
  | x :: xs, k, i + 1, d, h => by
    unfold V1.enumL
    rw [List.getElem?_cons_succ] at h ⊢
    rw [enumL_get xs (k + 1) i d h, show k + 1 + i = k + (i + 1) by omega]
theorem new_pair {A1 : AS} {H1 : Hp} {T : Addr} {x y : V} {d e : D} (hT : H1 T = none) (rx : Rp W.K (Nw A1 H1) H1 x d) (ry : Rp W.K (Nw A1 H1) H1 y e) : Rp W.K (Nw A1 H1) (upd H1 T (.tup [x, y])) (.ref T) (.tuple [d, e]) :=
  .tup (.inl ⟨.inr hT, upd_same⟩) (by show 2 ≤ V1.LIM; decide) ((RpL.cons rx (.cons ry .nil)).ex (Ex.new hT))
theorem okG_lim {α : Type} {H : Hp} {r : Rs α} {q : α → Prop} (h : okG W E H r q) : ∀ a, r = .ok a → q a := fun a e => by rw [e] at h; exact h
/-- the parts of a reading of what is walked, by the value -/
theorem semI_seq {b : Bool} {a : MP.E} {σ : L2.St} {H : Hp} {A B : AS} {ρ : En} {Q1 : V → Hp → Prop} {f : D → Rs (List D)} {q : List D → Prop} (Rl : RelF W.K st.Γ A B ρ σ H)
    (h : okG W E H (evE (callF W.P n) a ρ >>= f) q) (k : ∀ d ds, evE (callF W.P n) a ρ = .ok d → f d = .ok ds → q ds → ∀ v H1, Ex H H1 → (if b then Rp W.K (Nw A H) H1 v d else Sr W.K (Nw A H) H1 v d) → Q1 v H1)
    (hx : ∀ d c, f d ≠ .exc c) : semE W n E st (if b then .st .fz else .op) a σ H Q1 := by
  have kk : ∀ d, evE (callF W.P n) a ρ = .ok d → okG W E H (f d) q → ∀ v H1, Ex H H1 → (if b then Rp W.K (Nw A H) H1 v d else Sr W.K (Nw A H) H1 v d) → Q1 v H1 := fun d ed hf v H1 e s => by
    cases e2 : f d with
    | ok ds => rw [e2] at hf; exact k d ds ed e2 hf v H1 e s
    | exc c => exact absurd e2 (hx d c)
    | bad => rw [e2] at hf; exact hf.elim
  cases b with
  | true => exact ⟨ρ, A, B, Rl, okG_bind h kk⟩
  | false => exact ⟨ρ, A, B, Rl, okG_bindO h kk⟩
theorem srOf {b : Bool} {A : AS} {H : Hp} {v : V} {d : D} (h : if b then Rp W.K A H v d else Sr W.K A H v d) : Sr W.K A H v d := by
  cases b with
  | true => exact .of h
  | false => exact h
theorem items_exc {d : D} {c : Str} : V1.items d ≠ .exc c := by
  unfold V1.items
  split <;> exact fun z => nomatch z
theorem pi_split {tg e : Expr} {wi : TI} {α : Type} {v : L2.St → Hp → (L2.It → Hp → Prop) → Prop} (h : ∀ σ H R, v σ H R → ∃ t : TI, PI X tg e t ∧ t σ H R) : PI X tg e v :=
  ⟨fun pins s σ H R I q => let ⟨_, p, q'⟩ := h σ H R q; p.run pins s σ H R I q'⟩
theorem items_ok {d : D} {ds : List D} (h : V1.items d = .ok ds) : d = .list ds ∨ d = .tuple ds ∨ d = .dict [(.none, .list ds)] := by
  unfold V1.items at h
  split at h <;> first | (cases h; done) | skip
  all_goals (cases h)
  · exact .inl rfl
  · exact .inr (.inl rfl)
  · exact .inr (.inr rfl)
theorem kp_self {G : AS} {H : Hp} : Kp G H H := fun _ _ _ h => h
theorem pi_sq (g : Gd W n st E X) {b : Bool} {a : MP.E} {tg ea : Expr} (ha : PE X ea (semE W n E st (if b then .st .fz else .op) a)) : PI X tg ea (semI W n E st b (.sq a)) := by
  refine pi_split (α := Unit) (wi := semI W n E st b (.sq a)) ?_
  rintro σ H R ⟨ρ, A, B, Rl, h⟩
  unfold evIt at h
  have lk : ∀ (ad : Addr) (xs : List V) (ds : List D) (J : L2.It) (G0 : Hp → Prop) (H1 : Hp) (G : AS), L2.Walk J xs.length G0 (YAt xs) → Ex H H1 → (∀ H', Kp G H1 H' → G0 H') → RpL W.K (Nw A H) H1 xs ds → ds.length ≤ V1.LIM →
      (∀ a, Nw A H a → H1 a ≠ none → G a) → (∀ a, G a → H1 a ≠ none ∧ (b = true → Nw A H a)) →
      (ds.length ≤ V1.LIM → ∀ J H1 G A1, Ex H H1 → (∀ a, A1 a → Nw A H a ∧ H1 a ≠ none) → (∀ a, G a → H1 a ≠ none ∧ (b = true → Nw A H a)) → WalkD W J G A1 H1 ds → R J H1) → R J H1 := by
    intro ad xs ds J G0 H1 G w e1 h0 r hl hG hG2 hq
    exact hq hl J H1 G _ e1 (fun _ q => q) hG2 (walkD_at w h0 r hG)
  cases hd : evE (callF W.P n) a ρ with
  | bad => rw [hd] at h; exact h.elim
  | exc c =>
    refine ⟨_, pi_list ha, ?_⟩
    exact semI_seq Rl h (fun d ds ed => by rw [hd] at ed; cases ed) fun d c => items_exc
  | ok d =>
    cases hi : V1.items d with
    | bad => rw [hd, ok_bind, hi] at h; exact h.elim
    | exc c => exact absurd hi items_exc
    | ok ds =>
      rcases items_ok hi with rfl | rfl | rfl
      · refine ⟨_, pi_list ha, semI_seq Rl h (fun d ds' ed ei q v H1 e1 s => ?_) fun d c => items_exc⟩
        rw [hd] at ed
        cases ed
        cases ei
        obtain ⟨ad, xs, rfl, h1, h2, h3⟩ := (srOf s).list
        rw [g.K]
        refine ⟨ad, rfl, ⟨xs, .of h1⟩, lk ad xs ds _ _ H1 (fun c => (Nw A H c ∧ H1 c ≠ none) ∨ c = ad) walk_list e1 (fun H' k => .of (k ad _ (.inr rfl) h1)) h3 h2 (fun c q t => .inl ⟨q, t⟩) (fun c q => ?_) q⟩
        rcases q with q | q
        · exact ⟨q.2, fun _ => q.1⟩
        · subst q
          refine ⟨(by rw [h1]; exact fun z => nomatch z), fun hb => ?_⟩
          subst hb
          cases s with
          | lst q1 _ _ _ => exact q1
      · refine ⟨_, pi_tup ha, semI_seq Rl h (fun d ds' ed ei q v H1 e1 s => ?_) fun d c => items_exc⟩
        rw [hd] at ed
        cases ed
        cases ei
        cases srOf s with
        | of r =>
          cases r with
          | tup p1 p2 p3 =>
            rename_i ad xs
            rw [g.K]
            refine ⟨ad, rfl, ⟨xs, ?_⟩, lk ad xs ds _ _ H1 (fun c => (Nw A H c ∧ H1 c ≠ none)) walk_tup e1 (fun H' k => ?_) p3 p2 (fun c q t => ⟨q, t⟩) (fun c q => ⟨q.2, fun _ => q.1⟩) q⟩
            · rcases p1 with ⟨_, p1⟩ | p1
              · exact .of p1
              · exact sqt0 p1
            · rcases p1 with ⟨p0, p1⟩ | p1
              · exact .of (k _ _ ⟨p0, by rw [p1]; exact fun z => nomatch z⟩ p1)
              · exact sqt0 p1
      · refine ⟨_, pi_list ha, semI_seq Rl h (fun d ds' ed ei q v H1 e1 s => ?_) fun d c => items_exc⟩
        rw [hd] at ed
        cases ed
        cases ei
        cases srOf s with
        | of r =>
          cases r with
          | wk p1 p2 p3 =>
            rename_i ad xs
            rw [g.K]
            refine ⟨ad, rfl, ⟨xs, ?_⟩, lk ad xs ds _ _ H1 (fun c => (Nw A H c ∧ H1 c ≠ none)) walk_list e1 (fun H' k => ?_) p3 p2 (fun c q t => ⟨q, t⟩) (fun c q => ⟨q.2, fun _ => q.1⟩) q⟩
            · rcases p1 with ⟨_, p1⟩ | p1
              · exact .inl p1
              · exact sql0 p1
            · rcases p1 with ⟨p0, p1 | ⟨o, p1⟩⟩ | p1
              · exact .of (k _ _ ⟨p0, by rw [p1]; exact fun z => nomatch z⟩ p1)
              · exact .inl (.inr ⟨o, k _ _ ⟨p0, by rw [p1]; exact fun z => nomatch z⟩ p1⟩)
              · exact sql0 p1
end
end MP
/-! part l: ranges, enumerate, zip, reversed; calls of defs. -/
namespace MP
open PySem PySem.Spec PyProof.Rows L2
section
variable {W : Wd} {n : Nat} {E : XK} {st : Stc} {X : Cx}
theorem rng_ok {lo hi : Int} {ds : List D} (h : V1.rng lo hi = .ok ds) : (-(2 ^ 62) ≤ lo ∧ lo < 2 ^ 62 ∧ -(2 ^ 62) ≤ hi ∧ hi < 2 ^ 62 ∧ (hi - lo).toNat ≤ V1.LIM) ∧ ds = (List.range (hi - lo).toNat).map fun (k : Nat) => .int (lo + (k : Int)) := by
  unfold V1.rng at h
  split at h
  · cases h
    exact ⟨by assumption, rfl⟩
  · cases h
theorem rng_exc {lo hi : Int} {c : Str} : V1.rng lo hi ≠ .exc c := by
  unfold V1.rng
  split <;> exact fun z => nomatch z
theorem rng3_ok {lo hi c : Int} {ds : List D} (h : V1.rng3 lo hi c = .ok ds) : (c ≠ 0 ∧ c.natAbs < 1073741824 ∧ Builtin.Range.small lo hi c = true ∧ 0 ≤ Builtin.Range.rangeSize lo hi c ∧ (Builtin.Range.rangeSize lo hi c).toNat ≤ V1.LIM) ∧
    ds = (List.range (Builtin.Range.rangeSize lo hi c).toNat).map fun (k : Nat) => .int (lo + (k : Int) * c) := by
  unfold V1.rng3 at h
  split at h
  · cases h
    exact ⟨by assumption, rfl⟩
  · cases h
theorem rng3_exc {lo hi c e : Int} {x : Str} : V1.rng3 lo hi c ≠ .exc x := by
  unfold V1.rng3
  split <;> exact fun z => nomatch z
theorem toInt_okG {α : Type} {d : D} {H : Hp} {q : α → Prop} {f : Int → Rs α} (h : okG W E H (V1.toInt d >>= f) q) : ∃ i, d = .int i ∧ okG W E H (f i) q := by
  cases d <;> first | exact ⟨_, rfl, h⟩ | exact h.elim
/-- ranges need nothing of the heap -/
theorem rng_R {b : Bool} {A : AS} {H H1 : Hp} {R : L2.It → Hp → Prop} {ds : List D} {J : L2.It} {f : Nat → Int} {m : Nat} (hl : m ≤ V1.LIM) (e : ds = (List.range m).map fun k => .int (f k)) (e1 : Ex H H1) (w : L2.Walk J m (fun _ => True) (YFn fun i => .int (f i)))
    (h : ds.length ≤ V1.LIM → ∀ J H1 G A1, Ex H H1 → (∀ a, A1 a → Nw A H a ∧ H1 a ≠ none) → (∀ a, G a → H1 a ≠ none ∧ (b = true → Nw A H a)) → WalkD W J G A1 H1 ds → R J H1) : R J H1 := by
  subst e
  exact h (by rw [List.length_map, List.length_range]; exact hl) J H1 (fun _ => False) (fun _ => False) e1 (fun _ q => q.elim) (fun _ q => q.elim) (walkD_fn w)
theorem pi_r1 (g : Gd W n st E X) (wk : Wk W n) {b : Bool} {a : MP.E} {tg ea : Expr} {p pos : Pos} (hg : glB st.sc "range" = true) (hs : isStar ea = false) (ha : PE X ea (semE W n E st (.st .fz) a)) :
    PI X tg (.Call (.Name "range" p) [ea] [] pos) (semI W n E st b (.r1 a)) := by
  refine PI.weak (pi_range1 (glB_ok g hg).1 (mg_none g wk (by decide +kernel)) (pa_cons ha pa_nil (star_cons hs)) (star_cons hs)) ?_
  rintro σ H R ⟨ρ, A, B, Rl, h⟩
  unfold evIt at h
  rw [bind_assoc'] at h
  refine ⟨ρ, A, B, Rl, okG_bind h fun d ed h1 v H1 e1 r => ?_⟩
  obtain ⟨j, ej, h9⟩ := toInt_okG (f := fun j => V1.rng 0 j) h1
  subst ej
  cases r
  cases er : V1.rng 0 j with
  | bad => rw [er] at h9; exact h9.elim
  | exc c => exact absurd er rng_exc
  | ok ds =>
    rw [er] at h9
    obtain ⟨⟨_, _, q1, q2, q3⟩, q4⟩ := rng_ok er
    refine ⟨j, rfl, q1, q2, ?_⟩
    rw [Int.sub_zero] at q3 q4
    exact rng_R q3 q4 e1 walk_range h9
theorem pi_r2 (g : Gd W n st E X) (wk : Wk W n) {b : Bool} {a a2 : MP.E} {tg ea eb : Expr} {p pos : Pos} (hg : glB st.sc "range" = true) (hs : isStar ea = false) (hs2 : isStar eb = false) (ha : PE X ea (semE W n E st (.st .fz) a)) (hb : PE X eb (semE W n E st (.st .fz) a2)) :
    PI X tg (.Call (.Name "range" p) [ea, eb] [] pos) (semI W n E st b (.r2 a a2)) := by
  refine PI.weak (pi_range2 (glB_ok g hg).1 (mg_none g wk (by decide +kernel)) (pa_cons ha (pa_cons hb pa_nil (star_cons hs2)) (star_cons hs)) (by rw [star_cons hs, star_cons hs2]; rfl) (by rw [star_cons hs2]; rfl)) ?_
  rintro σ H R ⟨ρ, A, B, Rl, h⟩
  unfold evIt at h
  refine ⟨ρ, A, B, Rl, okG_bind h fun d ed h1 v H1 e1 r => ⟨ρ, A, B, Rl.ex e1, okG_bind (h1.ex e1) fun d2 ed2 h2 v2 H2 e2 r2 => ?_⟩⟩
  obtain ⟨i, ei, h8⟩ := toInt_okG (f := fun i => V1.toInt d2 >>= fun j => V1.rng i j) h2
  obtain ⟨j, ej, h9⟩ := toInt_okG (f := fun j => V1.rng i j) h8
  subst ei ej
  cases r
  cases r2
  cases er : V1.rng i j with
  | bad => rw [er] at h9; exact h9.elim
  | exc c => exact absurd er rng_exc
  | ok ds =>
    rw [er] at h9
    obtain ⟨⟨q1, q2, q3, q4, q5⟩, q6⟩ := rng_ok er
    exact ⟨i, j, rfl, ⟨q1, q2, q3, q4⟩, rng_R q5 q6 (e1.trans e2) walk_range h9⟩
theorem pi_r3 (g : Gd W n st E X) (wk : Wk W n) {b : Bool} {a a2 a3 : MP.E} {tg ea eb ec : Expr} {p pos : Pos} (hg : glB st.sc "range" = true) (hs : isStar ea = false) (hs2 : isStar eb = false) (hs3 : isStar ec = false)
    (ha : PE X ea (semE W n E st (.st .fz) a)) (hb : PE X eb (semE W n E st (.st .fz) a2)) (hc : PE X ec (semE W n E st (.st .fz) a3)) :
    PI X tg (.Call (.Name "range" p) [ea, eb, ec] [] pos) (semI W n E st b (.r3 a a2 a3)) := by
  refine PI.weak (pi_range3 (glB_ok g hg).1 (mg_none g wk (by decide +kernel)) (pa_cons ha (pa_cons hb (pa_cons hc pa_nil (star_cons hs3)) (star_cons hs2)) (star_cons hs)) (star_cons hs) (star_any (by simp [hs2, hs3]))) ?_
  rintro σ H R ⟨ρ, A, B, Rl, h⟩
  unfold evIt at h
  refine ⟨ρ, A, B, Rl, okG_bind h fun d ed h1 v H1 e1 r => ⟨ρ, A, B, Rl.ex e1, okG_bind (h1.ex e1) fun d2 ed2 h2 v2 H2 e2 r2 => ⟨ρ, A, B, Rl.ex (e1.trans e2), okG_bind ((h2.ex e2)) fun d3 ed3 h3 v3 H3 e3 r3 => ?_⟩⟩⟩
  obtain ⟨i, ei, h7⟩ := toInt_okG (f := fun i => V1.toInt d2 >>= fun j => V1.toInt d3 >>= fun c => V1.rng3 i j c) h3
  obtain ⟨j, ej, h8⟩ := toInt_okG (f := fun j => V1.toInt d3 >>= fun c => V1.rng3 i j c) h7
  obtain ⟨c, ec', h9⟩ := toInt_okG (f := fun c => V1.rng3 i j c) h8
  subst ei ej ec'
  cases r
  cases r2
  cases r3
  cases er : V1.rng3 i j c with
  | bad => rw [er] at h9; exact h9.elim
  | exc x => exact absurd er (rng3_exc (e := 0))
  | ok ds =>
    rw [er] at h9
    obtain ⟨⟨q1, q2, q3, q4, q5⟩, q6⟩ := rng3_ok er
    exact ⟨i, j, c, (Builtin.Range.rangeSize i j c).toNat, rfl, ⟨q1, q2, q3, (Int.toNat_of_nonneg q4).symm⟩, rng_R q5 q6 ((e1.trans e2).trans e3) walk_rangeC h9⟩
theorem tup_shape {e : Expr} (h : isTup e = true) : ∃ es k p, e = .Tuple es k p := by
  cases e <;> first | exact ⟨_, _, _, rfl⟩ | cases h
theorem rp_tracked {A : AS} {H : Hp} {a : Addr} {ds : List D} (r : Rp W.K A H (.ref a) (.list ds)) : A a ∧ H a ≠ none := by
  cases r with
  | lst h1 h2 _ _ => exact ⟨h1, by rw [h2]; exact fun z => nomatch z⟩
theorem pi_en (g : Gd W n st E X) (wk : Wk W n) {b : Bool} {a : MP.E} {tg ea : Expr} {p pos : Pos} (ht : isTup tg = true) (hg : glB st.sc "enumerate" = true) (hs : isStar ea = false) (ha : PE X ea (semE W n E st (.st .fz) a)) :
    PI X tg (.Call (.Name "enumerate" p) [ea] [] pos) (semI W n E st b (.en a)) := by
  obtain ⟨es, k, tp, rfl⟩ := tup_shape ht
  refine PI.weak (pi_enum (glB_ok g hg).1 (mg_none g wk (by decide +kernel)) (pa_cons ha pa_nil (star_cons hs)) (star_cons hs)) ?_
  rintro σ H R ⟨ρ, A, B, Rl, h⟩
  unfold evIt at h
  refine ⟨ρ, A, B, Rl, okG_bind h fun d ed h1 v H1 e1 r => ?_⟩
  cases d with
  | list ds =>
    cases r with
    | lst p1 p2 p3 p4 =>
      rename_i ad xs
      have h1 : (V1.enumL ds 0).length ≤ V1.LIM → ∀ J H1 G A1, Ex H H1 → (∀ a, A1 a → Nw A H a ∧ H1 a ≠ none) → (∀ a, G a → H1 a ≠ none ∧ (b = true → Nw A H a)) → WalkD W J G A1 H1 (V1.enumL ds 0) → R J H1 := h1
      rw [g.K]
      refine ⟨ad, xs, rfl, .of p2, h1 (by rw [enumL_len]; exact p3) _ H1 (fun c => Nw A H c ∧ H1 c ≠ none) (fun c => Nw A H c ∧ H1 c ≠ none) e1 (fun _ q => q) (fun c q => ⟨q.2, fun _ => q.1⟩) ⟨(YPair (fun i => some (.int (i : Nat))) (fun i => xs[i]?)), ?_, fun i H' x H2 hi k y => ?_⟩⟩
      · rw [enumL_len, ← p4.length]
        exact walk_enum.mono (fun H' k => .of (k ad _ ⟨p1, by rw [p2]; exact fun z => nomatch z⟩ p2)) fun _ _ _ _ _ _ y => y
      · obtain ⟨T, x1, x2, rfl, hT, rfl, hx1, hx2⟩ := y
        cases hx1
        obtain ⟨d, hd, rd⟩ := p4.getV hx2
        have hd2 := enumL_get ds 0 i d hd
        rw [Nat.zero_add] at hd2
        exact ⟨Ex.new hT, _, hd2, new_pair hT (.int _) (kp_rp (fun c q t => ⟨q, t⟩) k rd)⟩
  | _ => exact h1.elim
theorem zip_len (xs ys : List D) : (List.zipWith (fun p q => PyData.tuple [p, q]) xs ys).length = min xs.length ys.length := by simp
theorem pi_zp (g : Gd W n st E X) (wk : Wk W n) {b : Bool} {a a2 : MP.E} {tg ea eb : Expr} {p pos : Pos} (ht : isTup tg = true) (hg : glB st.sc "zip" = true) (hs : isStar ea = false) (hs2 : isStar eb = false) (ha : PE X ea (semE W n E st (.st .fz) a)) (hb : PE X eb (semE W n E st (.st .fz) a2)) :
    PI X tg (.Call (.Name "zip" p) [ea, eb] [] pos) (semI W n E st b (.zp a a2)) := by
  obtain ⟨es, k, tp, rfl⟩ := tup_shape ht
  refine PI.weak (pi_zip (glB_ok g hg).1 (mg_none g wk (by decide +kernel)) (pa_cons ha (pa_cons hb pa_nil (star_cons hs2)) (star_cons hs)) (star_cons hs) (star_any (by simp [hs2]))) ?_
  rintro σ H R ⟨ρ, A, B, Rl, h⟩
  unfold evIt at h
  refine ⟨ρ, A, B, Rl, okG_bind h fun d ed h1 v H1 e1 r => ⟨ρ, A, B, Rl.ex e1, okG_bind (h1.ex e1) fun d2 ed2 h2 v2 H2 e2 r2 => ?_⟩⟩
  have r := r.ex e2
  have r2 := r2.sub (Nw.mono e1)
  cases d with
  | list ds =>
    cases d2 with
    | list es =>
      cases r with
      | lst p1 p2 p3 p4 =>
        rename_i ad xs
        cases r2 with
        | lst q1 q2 q3 q4 =>
          rename_i bd ys
          have h2 : (List.zipWith (fun p q => PyData.tuple [p, q]) ds es).length ≤ V1.LIM → ∀ J H1 G A1, Ex H H1 → (∀ a, A1 a → Nw A H a ∧ H1 a ≠ none) → (∀ a, G a → H1 a ≠ none ∧ (b = true → Nw A H a)) → WalkD W J G A1 H1 (List.zipWith (fun p q => PyData.tuple [p, q]) ds es) → R J H1 := h2
          rw [g.K]
          refine ⟨ad, bd, xs, ys, rfl, .of p2, .of q2, h2 (by rw [zip_len]; exact Nat.le_trans (Nat.min_le_left _ _) p3) _ H2 (fun c => Nw A H c ∧ H2 c ≠ none) (fun c => Nw A H c ∧ H2 c ≠ none) (e1.trans e2) (fun _ q => q) (fun c q => ⟨q.2, fun _ => q.1⟩) ⟨(YPair (fun i => xs[i]?) (fun i => ys[i]?)), ?_, fun i H' x H3 hi k y => ?_⟩⟩
          · rw [zip_len]
            exact (walk_zip (by rw [p4.length, q4.length])).mono (fun H' k => ⟨.of (k ad _ ⟨p1, by rw [p2]; exact fun z => nomatch z⟩ p2), .of (k bd _ ⟨q1, by rw [q2]; exact fun z => nomatch z⟩ q2)⟩) fun _ _ _ _ _ _ y => y
          · obtain ⟨T, x1, x2, rfl, hT, rfl, hx1, hx2⟩ := y
            obtain ⟨d, hd, rd⟩ := p4.getV hx1
            obtain ⟨e, he, re⟩ := q4.getV hx2
            exact ⟨Ex.new hT, .tuple [d, e], by rw [List.getElem?_zipWith]; simp [hd, he], new_pair hT (kp_rp (fun c q t => ⟨q, t⟩) k rd) (kp_rp (fun c q t => ⟨q, t⟩) k re)⟩
    | _ => exact h2.elim
  | _ => cases d2 <;> exact h2.elim
theorem pi_rv (g : Gd W n st E X) (wk : Wk W n) {b : Bool} {a : MP.E} {tg ea : Expr} {p pos : Pos} (hg : glB st.sc "reversed" = true) (hs : isStar ea = false) (ha : PE X ea (semE W n E st (.st .fz) a)) :
    PI X tg (.Call (.Name "reversed" p) [ea] [] pos) (semI W n E st b (.rv a)) := by
  refine PI.weak (pi_reversed (glB_ok g hg).1 (mg_none g wk (by decide +kernel)) (pa_cons ha pa_nil (star_cons hs)) (star_cons hs)) ?_
  rintro σ H R ⟨ρ, A, B, Rl, h⟩
  unfold evIt at h
  refine ⟨ρ, A, B, Rl, okG_bind h fun d ed h1 v H1 e1 r => ?_⟩
  cases d with
  | list ds =>
    cases r with
    | lst p1 p2 p3 p4 =>
      rename_i ad xs
      have h1 : ds.reverse.length ≤ V1.LIM → ∀ J H1 G A1, Ex H H1 → (∀ a, A1 a → Nw A H a ∧ H1 a ≠ none) → (∀ a, G a → H1 a ≠ none ∧ (b = true → Nw A H a)) → WalkD W J G A1 H1 ds.reverse → R J H1 := h1
      rw [g.K]
      refine ⟨ad, xs, rfl, .of p2, h1 (by rw [List.length_reverse]; exact p3) _ H1 (fun c => Nw A H c ∧ H1 c ≠ none) (fun c => Nw A H c ∧ H1 c ≠ none) e1 (fun _ q => q) (fun c q => ⟨q.2, fun _ => q.1⟩) ⟨(fun i H x H' => H' = H ∧ xs[xs.length - 1 - i]? = some x), ?_, fun i H' x H2 hi k y => ?_⟩⟩
      · rw [List.length_reverse, ← p4.length]
        exact walk_rev.mono (fun H' k => .of (k ad _ ⟨p1, by rw [p2]; exact fun z => nomatch z⟩ p2)) fun _ _ _ _ _ _ y => y
      · obtain ⟨rfl, hx⟩ := y
        obtain ⟨d, hd, rd⟩ := p4.getV hx
        rw [List.length_reverse] at hi
        refine ⟨Ex.refl _, d, ?_, kp_rp (fun c q t => ⟨q, t⟩) k rd⟩
        rw [List.getElem?_reverse hi, ← p4.length]
        exact hd
  | _ => exact h1.elim
end
end MP
/-! part m: calls of defs; list comprehensions. -/
namespace MP
open PySem PySem.Spec PyProof.Rows L2
section
variable {W : Wd} {n : Nat} {E : XK} {st : Stc} {X : Cx}
theorem chg_ex {H H' : Hp} {O : Nat → List Addr} (h : Chg (ownS O) H H') (hO : ∀ i, O i = []) : Ex H H' := fun a o e => h.keep a o e fun ⟨i, hi⟩ => by rw [hO i] at hi; cases hi
theorem allFz_sh {pm : List Sh} (h : allFz pm = true) (i : Nat) : sh pm i = .fz := by
  unfold sh
  rw [List.getD_eq_getElem?_getD]
  cases e : pm[i]? with
  | none => rfl
  | some s =>
    unfold allFz at h
    exact of_decide_eq_true (List.all_eq_true.mp h s (List.mem_of_getElem? e))
/-- the call's promise from shared arguments -/
theorem spF_fz {m : Md} {k : Nat} {fn : Fn} {A : AS} {H H1 : Hp} {Q : VK} {vs : List V} {ds : List D} (hP : W.P[k]? = some fn) (hpm : allFz fn.pm = true) (hrs : mRs m fn.rs = true) (e1 : Ex H H1) (r : RpL W.K (Nw A H) H1 vs ds) (hl : ds.length = fn.np)
    (h : okP W E m A H (callF W.P n k ds >>= fun x => .ok x.1) Q) : spF W n k vs H1 Q E := by
  refine ⟨fn, hP, by rw [r.length, hl], ds, Nw A H, fun _ => [], ⟨r.length, fun i d hd => ?_, fun _ _ => rfl, fun _ => List.nodup_nil, fun _ _ _ a ha => (by cases ha), fun _ a ha => (by cases ha)⟩, ?_⟩
  · obtain ⟨v, hv, rv⟩ := r.get hd
    rw [allFz_sh hpm i]
    exact ⟨v, hv, .fz rv⟩
  · cases ec : callF W.P n k ds with
    | bad => rw [ec] at h; exact h.elim
    | exc c =>
      rw [ec] at h
      exact fun H' ch => h H' (e1.trans (chg_ex ch fun _ => rfl))
    | ok x =>
      obtain ⟨d, fin⟩ := x
      rw [ec] at h
      intro v H2 as A2 O2 ch hA ow nd fr _ _
      have e2 := chg_ex ch fun _ => rfl
      have hN : ∀ a, Nw (Nw A H) H1 a → Nw A H a := fun a q => q.elim id fun z => .inr (e1.back z)
      have h : okP W E m A H (.ok d) Q := h
      have rp : Rp W.K (Nw A H) H2 v d := ow.rp (fun a q _ => hN a (hA a q)) fun a q => .inr (e1.back (fr a q).1)
      cases m with
      | op => exact h.2 v H2 (e1.trans e2) (.of rp)
      | st s =>
        cases s with
        | fz => exact h.val (.inl rfl) (e1.trans e2) rp
        | _ =>
          have e : _ = fn.rs := of_decide_eq_true hrs
          subst_vars
          rw [← e] at ow
          exact h.2 v H2 as A2 (e1.trans e2) (fun a q => hN a (hA a q)) ow nd fun a ha => ⟨e1.back (fr a ha).1, (fr a ha).2⟩
theorem okEs_star : ∀ {ss : List Sh} {es : Es} {xs : List Expr}, okEs W.P st ss es xs = true → (xs.all fun e => !isStar e) = true
  | [], .nil, xs, h => by
    unfold okEs at h
    cases xs with
    | nil => rfl
    | cons _ _ => cases h
  | s :: ss, .cons e es, xs, h => by
    cases xs with
    | nil => rfl
    | cons x xs =>
      unfold okEs at h
      obtain ⟨h, h2⟩ := shp2' h
      obtain ⟨h, _⟩ := shp2' h
      rw [List.all_cons, h, okEs_star h2]
      rfl
  | [], .cons _ _, _, h => by unfold okEs at h; cases h
  | _ :: _, .nil, _, h => by unfold okEs at h; cases h
theorem pe_call_ (g : Gd W n st E X) (wk : Wk W n) {m : Md} {k : Nat} {fn : Fn} {es : Es} {x : Str} {xs : List Expr} {p pos : Pos} (hP : W.P[k]? = some fn) (hx : x = fn.name) (hg : glB st.sc x = true) (hpm : allFz fn.pm = true) (hrs : mRs m fn.rs = true)
    (hl : xs.length = fn.np) (hok : okEs W.P st (List.replicate xs.length .fz) es xs = true) (hxs : PA X xs (semEs W n E st (List.replicate xs.length .fz) es)) : PE X (.Call (.Name x p) xs [] pos) (semE W n E st m (.call k es)) := by
  subst hx
  obtain ⟨a, fd, ps, F, h1, h2, h3, h4⟩ := wk.fns k fn hP
  obtain ⟨gl, gd⟩ := glB_ok g hg
  rw [← g.prog, ← g.w, ← g.K, ← g.mg, ← g.base] at F
  rw [← g.mg] at h1
  rw [← g.K] at h2 h3
  have key : ∀ σ H Q, semE W n E st m (.call k es) σ H Q → semEs W n E st (List.replicate xs.length .fz) es σ H fun vs H1 => spF W n k vs H1 Q E := by
    rintro σ H Q ⟨ρ, A, B, R, h⟩
    unfold evE at h
    refine ⟨ρ, A, B, R, .inl (allFz_rep _), okG_bindP h fun ds eds h9 => ?_⟩
    obtain ⟨l1, _⟩ := evEs_len hok eds
    have hk := rep_of_len l1
    rw [hk]
    refine ⟨by rw [shOkG_rep]; exact shOkL_fz ds, fun vs H1 as A1 e1 hA ow nd fr => ?_⟩
    have r : RpL W.K (Nw A H) H1 vs ds := (ow.rep.fz).2.mono (fun a q _ => hA a q) fun _ _ _ q => q
    exact spF_fz hP hpm hrs e1 r (by rw [← hk, hl]) h9
  cases xs with
  | nil =>
    refine PE.weak (pe_callG0 F g.room g.gd gl h1 h2 h3 g.px gd) fun σ H Q q => ?_
    obtain ⟨ρ, A, B, R, _, q⟩ := key σ H Q q
    cases es with
    | nil =>
      unfold evEs at q
      exact q.2 [] H [] (fun _ => False) (Ex.refl H) (fun _ z => z.elim) .nil List.nodup_nil fun _ z => by cases z
    | cons _ _ => unfold okEs at hok; cases hok
  | cons e xs =>
    have hs := okEs_star hok
    have hs0 : isStar e = false := by
      rw [List.all_cons] at hs
      simpa using (shp2' hs).1
    have hs1 : (xs.all fun e => !isStar e) = true := by
      rw [List.all_cons] at hs
      exact (shp2' hs).2
    exact PE.weak (pe_callG F g.room g.gd gl h1 h2 h3 g.px gd hxs (star_cons hs0) (star_any hs1)) key
end
end MP
/-! part n: list comprehensions. -/
namespace MP
open PySem PySem.Spec PyProof.Rows L2
theorem lcL_exc {f : D → Rs (Option D)} {c : Str} : ∀ xs : List D, lcL xs f ≠ .exc c
  | [] => fun z => nomatch z
  | x :: xs => by
    unfold lcL
    cases f x with
    | ok o =>
      show (lcL xs f >>= fun r => _) ≠ _
      cases h : lcL xs f with
      | ok r => exact fun z => nomatch z
      | exc c' => exact absurd h (lcL_exc xs)
      | bad => exact fun z => nomatch z
    | exc _ => exact fun z => nomatch z
    | bad => exact fun z => nomatch z
theorem lcL_step {f : D → Rs (Option D)} {xs r : List D} {i : Nat} {d : D} (h : lcL (xs.drop i) f = .ok r) (hd : xs[i]? = some d) :
    ∃ o r', f d = .ok o ∧ lcL (xs.drop (i + 1)) f = .ok r' ∧ r = match o with | some d => d :: r' | none => r' := by
  obtain ⟨hi, e⟩ := List.getElem?_eq_some_iff.mp hd
  rw [List.drop_eq_getElem_cons hi, e] at h
  unfold lcL at h
  cases hf : f d with
  | ok o =>
    rw [hf] at h
    obtain ⟨r', h1, h2⟩ := bind_eq_ok (x := lcL (xs.drop (i + 1)) f) h
    exact ⟨o, r', rfl, h1, by cases h2; rfl⟩
  | exc _ => rw [hf] at h; cases h
  | bad => rw [hf] at h; cases h
theorem lcL_len {f : D → Rs (Option D)} : ∀ {xs r : List D}, lcL xs f = .ok r → r.length ≤ xs.length
  | [], _, h => by cases h; exact Nat.le_refl _
  | x :: xs, r, h => by
    unfold lcL at h
    obtain ⟨o, _, h⟩ := bind_eq_ok h
    obtain ⟨r', h1, h⟩ := bind_eq_ok h
    have := lcL_len h1
    cases h
    cases o with
    | none => exact Nat.le_succ_of_le this
    | some d => exact Nat.succ_le_succ this
theorem OwL.append {K : PySem.W.Frag} {A : AS} {H : Hp} {s : Sh} : ∀ {ds : List D} {vs us : List V} {es : List D} {as bs : List Addr}, OwL K A H s vs ds as → OwL K A H s us es bs → OwL K A H s (vs ++ us) (ds ++ es) (as ++ bs)
  | [], _, _, _, _, _, h, q => by cases h; exact q
  | d :: ds, _, _, _, _, _, h, q => by
    cases h with
    | cons h1 h2 =>
      rw [List.append_assoc]
      exact .cons h1 (OwL.append h2 q)
theorem OwL.one {K : PySem.W.Frag} {A : AS} {H : Hp} {s : Sh} {v : V} {d : D} {as : List Addr} (h : Ow K A H s v d as) : OwL K A H s [v] [d] as := by
  have := OwL.cons h (OwL.nil (s := s))
  rw [List.append_nil] at this
  exact this
theorem OwL.length {K : PySem.W.Frag} {A : AS} {H : Hp} {s : Sh} : ∀ {ds : List D} {vs : List V} {as : List Addr}, OwL K A H s vs ds as → vs.length = ds.length
  | [], _, _, h => by cases h; rfl
  | _ :: _, _, _, h => by
    cases h with
    | cons _ h2 => simp [OwL.length h2]
theorem shOkL_mem {s : Sh} : ∀ {ds : List D}, shOkL s ds = true → ∀ d ∈ ds, shOk s d = true
  | [], _, _, h => by cases h
  | e :: ds, q, d, h => by
    cases s with
    | fz => exact shOk_fz d
    | _ =>
      unfold shOkL at q
      obtain ⟨q1, q2⟩ := shp2' q
      rcases List.mem_cons.mp h with z | z
      · rw [z]; exact q1
      · exact shOkL_mem q2 d z
/-! wiping -/
theorem wipe_get (σ : L2.St) (i : Nat) : ∀ vs : List Nat, (wipe σ vs)[i]? = if i ∈ vs then (σ[i]?).map fun _ => none else σ[i]?
  | [] => by simp [wipe]
  | v :: vs => by
    unfold wipe
    by_cases h : v = i
    · subst h
      rw [List.getElem?_set_self', wipe_get σ v vs]
      simp only [List.mem_cons, true_or, if_true]
      split
      · cases σ[v]? <;> rfl
      · cases σ[v]? <;> rfl
    · rw [set_at h, wipe_get σ i vs]
      have : i ≠ v := fun z => h z.symm
      simp [this]
theorem wipeE_get (ρ : En) (i : Nat) : ∀ vs : List Nat, (wipeE ρ vs)[i]? = if i ∈ vs then (ρ[i]?).map fun _ => none else ρ[i]?
  | [] => by simp [wipeE]
  | v :: vs => by
    unfold wipeE
    by_cases h : v = i
    · subst h
      rw [List.getElem?_set_self', wipeE_get ρ v vs]
      simp only [List.mem_cons, true_or, if_true]
      split
      · cases ρ[v]? <;> rfl
      · cases ρ[v]? <;> rfl
    · rw [set_at h, wipeE_get ρ i vs]
      have : i ≠ v := fun z => h z.symm
      simp [this]
theorem wipeE_length (ρ : En) : ∀ vs : List Nat, (wipeE ρ vs).length = ρ.length
  | [] => rfl
  | v :: vs => by unfold wipeE; rw [List.length_set, wipeE_length ρ vs]
theorem wipe_back {K : PySem.W.Frag} {A : AS} {H : Hp} {ix vs : List Nat} {ρ ρ' : En} {σ σ' : L2.St} (h : SetR K A H ix ρ ρ' (wipe σ vs) σ') (hi : ∀ i ∈ ix, i ∈ vs) : wipe σ' vs = wipe σ vs := by
  apply List.ext_getElem?
  intro i
  rw [wipe_get, wipe_get]
  by_cases hv : i ∈ vs
  · rw [if_pos hv, if_pos hv]
    have hl : σ'.length = σ.length := h.ls.trans (wipe_length σ vs)
    cases e : σ[i]? with
    | none =>
      have : σ'[i]? = none := by
        rw [List.getElem?_eq_none_iff] at e ⊢
        rw [hl]; exact e
      rw [this]
    | some x =>
      obtain ⟨q, _⟩ := List.getElem?_eq_some_iff.mp e
      have : σ'[i]? = some σ'[i] := List.getElem?_eq_getElem (by rw [hl]; exact q)
      rw [this]
      rfl
  · rw [if_neg hv, if_neg hv]
    have hx : i ∉ ix := fun z => hv (hi i z)
    rw [(h.out i hx).1, wipe_get, if_neg hv]
section
variable {W : Wd} {n : Nat} {E : XK} {st : Stc} {X : Cx}
def E0 : XK := fun _ _ _ => False
theorem rev_sc {cl : List (Str × Addr)} {C : Addr} {scope : Scope} {env : PySem.Env} : (compEnvC scope cl C env).scope = relS scope env.scope := rfl
theorem gd_blk (g : Gd W n st E X) (wk : Wk W n) (s : Shared) (H : Hp) (scope : Scope) (C : Addr) (cl : List (Str × Addr)) (fp : List Addr) : Gd W n (inner st scope) E0 (X.blk s H scope (compEnvC scope cl C X.env) fp) where
  prog := g.prog
  w := g.w
  K := g.K
  mg := g.mg
  base := g.base
  N := g.N
  nd := g.nd
  sc := by
    show (compEnvC scope cl C X.env).scope = relS scope st.sc
    rw [rev_sc, g.sc]
  fn := fun _ h => h
  calm := g.calm
  room := g.room
  gd := g.gd
  un := g.un
  px := wk.pf _ g.prog g.w
theorem blk_rel {Γ : List Sh} {A B A1 : AS} {ρ ρ' : En} {σ σ' : L2.St} {H H1 H' H2 : Hp} {ix vs : List Nat} {A2 : AS} (R : RelF W.K Γ A B ρ σ H) (e : Ex H H2) (hs : SetR W.K A2 H2 ix (wipeE ρ vs) ρ' (wipe σ vs) σ') (hi : ∀ i ∈ ix, i ∈ vs) (hv : ∀ i ∈ vs, sh Γ i = .fz) :
    RelF W.K Γ (fun a => (A a ∨ A2 a) ∧ H2 a ≠ none) (fun a => B a ∨ ((A a ∨ A2 a) ∧ H2 a ≠ none)) ρ' σ' H2 := by
  have R2 := R.ex e
  refine ⟨?_, fun i d hd => ?_, fun a q => .inr q, fun a q => ?_⟩
  · rw [hs.ls, hs.lr, wipe_length, wipeE_length, R.len]
  · by_cases hx : i ∈ ix
    · obtain ⟨v, e1, r⟩ := hs.inn i hx d hd
      refine ⟨v, e1, r.mono (fun a q t => .inr ⟨.inr q, t⟩) fun _ _ _ q => q, fun _ => r.mono (fun a q t => ⟨.inr q, t⟩) fun _ _ _ q => q, fun z => ?_⟩
      rw [hv i (hi i hx)] at z
      cases z
    · rw [(hs.out i hx).2, wipeE_get] at hd
      by_cases hw : i ∈ vs
      · rw [if_pos hw] at hd
        cases e : ρ[i]? with
        | none => rw [e] at hd; cases hd
        | some o => rw [e] at hd; cases hd
      · rw [if_neg hw] at hd
        obtain ⟨v, e1, r1, r2, r3⟩ := R2.at_ i d hd
        refine ⟨v, by rw [(hs.out i hx).1, wipe_get, if_neg hw]; exact e1, r1.mono (fun a q t => .inl q) fun _ _ _ q => q, fun z => (r2 z).mono (fun a q t => ⟨.inl q, t⟩) fun _ _ _ q => q, fun z => ?_⟩
        obtain ⟨a, us, ds, k1, k2, k3, k4, k5⟩ := r3 z
        exact ⟨a, us, ds, k1, k2, k3, k4, k5.mono (fun a q t => ⟨.inl q, t⟩) fun _ _ _ q => q⟩
  · rcases q with q | q
    · exact R2.tr a q
    · exact q.2
/-- the new list so far -/
structure LcI (W : Wd) (s : Sh) (A : AS) (H H1 : Hp) (D : Addr) (f : MP.D → Rs (Option MP.D)) (ds r : List MP.D) (i : Nat) (H' : Hp) : Prop where
  ex : Ex H1 H'
  at_ : ∃ (acc : List V) (accd : List MP.D) (as : List Addr) (Ac : AS) (rest : List MP.D), H' D = some (.lst acc) ∧ OwL W.K Ac H' s acc accd as ∧ as.Nodup ∧ (∀ a ∈ as, H1 a = none ∧ a ≠ D ∧ ¬ Ac a) ∧ (∀ a, Ac a → Nw A H a ∧ a ≠ D ∧ H' a ≠ none) ∧
    accd.length ≤ i ∧ lcL (ds.drop i) f = .ok rest ∧ accd ++ rest = r
theorem lc_turn {m : Md} {s : Sh} {A B A1 : AS} {ρ : En} {σ : L2.St} {H H1 : Hp} {D : Addr} {ds r : List MP.D} {elt : MP.E} {tg : Tg} {ci : Eo} {vs : List Nat} {scope : Scope} {i : Nat} {x : V} {H' H2 : Hp} {d : MP.D}
    (R : RelF W.K st.Γ A B ρ σ H) (e1 : Ex H H1) (hA1 : ∀ a, A1 a → Nw A H a ∧ H1 a ≠ none) (hD : H1 D = none) (hl : ds.length ≤ V1.LIM) (hsh : shOkL s r = true) (hi : ∀ i ∈ tgIx tg, i ∈ vs) (hv : ∀ i ∈ vs, sh st.Γ i = .fz)
    (hlt : i < ds.length) (p : LcI W s A H H1 D (fun x => asg tg x (wipeE ρ vs) >>= fun ρ' => evC (callF W.P n) ci ρ' >>= fun t => if t then evE (callF W.P n) elt ρ' >>= fun d => .ok (some d) else .ok none) ds r i H')
    (e2 : Ex H' H2) (hd : ds[i]? = some d) (rx : Rp W.K (Nw A1 H') H2 x d) :
    gD W.K tg x (wipe σ vs) H2 fun σ2 H3 => wipe σ2 vs = wipe σ vs ∧ semC W n E0 (inner st scope) ci σ2 H3 fun b H4 =>
      if b = true then semE W n E0 (inner st scope) (.st s) elt σ2 H4 fun y H5 => ∃ acc, H5 D = some (.lst acc) ∧ acc.length < sizeLine ∧ LcI W s A H H1 D (fun x => asg tg x (wipeE ρ vs) >>= fun ρ' => evC (callF W.P n) ci ρ' >>= fun t => if t then evE (callF W.P n) elt ρ' >>= fun d => .ok (some d) else .ok none) ds r (i + 1) (upd H5 D (.lst (acc ++ [y])))
      else LcI W s A H H1 D (fun x => asg tg x (wipeE ρ vs) >>= fun ρ' => evC (callF W.P n) ci ρ' >>= fun t => if t then evE (callF W.P n) elt ρ' >>= fun d => .ok (some d) else .ok none) ds r (i + 1) H4 := by
  obtain ⟨ex, acc, accd, as, Ac, rest, hDl, ow, nd, fr, hAc, hlen, hlc, hr⟩ := p
  obtain ⟨o, rest', ho, hlc', hrest⟩ := lcL_step hlc hd
  obtain ⟨ρ', ha, ho⟩ := bind_eq_ok ho
  obtain ⟨t, ht, ho⟩ := bind_eq_ok ho
  have eH2 : Ex H H2 := (e1.trans ex).trans e2
  refine ⟨_, d, wipeE ρ vs, ρ', rx, by rw [wipe_length, wipeE_length, R.len], ha, fun σ' hs => ⟨wipe_back hs hi, ?_⟩⟩
  have RB := blk_rel (H1 := H1) (H' := H') (A1 := A1) R eH2 hs hi hv
  have tA : ∀ a, A a → H a ≠ none := fun a q => R.tr a (R.sub a q)
  refine ⟨ρ', _, _, RB, ?_⟩
  rw [ht]
  intro H4 e4
  cases t with
  | false =>
    simp only [Bool.false_eq_true, if_false] at ho ⊢
    cases ho
    have eH4 : Ex H' H4 := e2.trans e4
    refine ⟨ex.trans eH4, acc, accd, as, Ac, rest', eH4 _ _ hDl, OwL.mono (fun a q _ => q) (fun a o _ q => eH4 a o q) ow fun a _ o q => eH4 a o q, nd, fr, fun a q => ⟨(hAc a q).1, (hAc a q).2.1, fun z => (hAc a q).2.2 (eH4.back z)⟩, Nat.le_succ_of_le hlen, hlc', ?_⟩
    rw [← hr, hrest]
  | true =>
    simp only [if_true] at ho ⊢
    obtain ⟨dd, hdd, ho⟩ := bind_eq_ok ho
    cases ho
    have hdr : dd ∈ r := by rw [← hr, hrest]; exact List.mem_append_right _ List.mem_cons_self
    refine ⟨ρ', _, _, RB.ex e4, ?_⟩
    rw [hdd]
    refine ⟨shOkL_mem hsh dd hdr, fun y H5 as' A' e5 hA' ow' nd' fr' => ?_⟩
    have eH4 : Ex H' H4 := e2.trans e4
    have eH5 : Ex H' H5 := eH4.trans e5
    have tD : H4 D ≠ none := by rw [eH4 _ _ hDl]; exact fun z => nomatch z
    have tas : ∀ a ∈ as, H' a ≠ none := ow.tracked
    have Ab : ∀ a, ((A a ∨ Nw A1 H' a) ∧ H2 a ≠ none) → (Nw A H a ∧ a ≠ D ∧ a ∉ as) := by
      rintro a ⟨q | q | q, t⟩
      · refine ⟨.inl q, fun z => tA a q ?_, fun z => tA a q (e1.back (fr a z).1)⟩
        subst z
        exact e1.back hD
      · exact ⟨(hA1 a q).1, fun z => (hA1 a q).2 (by rw [z]; exact hD), fun z => (hA1 a q).2 (fr a z).1⟩
      · refine ⟨.inr (e1.back (ex.back q)), fun z => ?_, fun z => tas a z q⟩
        subst z
        rw [hDl] at q
        cases q
    have hA2 : ∀ a, A' a → Nw A H a ∧ a ≠ D ∧ a ∉ as := by
      intro a q
      rcases hA' a q with q | q
      · exact Ab a q
      · exact ⟨.inr (eH2.back (e4.back q)), fun z => tD (by rw [← z]; exact q), fun z => tas a z (eH4.back q)⟩
    have up : ∀ a o, a ≠ D → H5 a = some o → upd H5 D (.lst (acc ++ [y])) a = some o := fun a o h q => by rw [upd_ne h]; exact q
    have nD' : ∀ a ∈ as', a ≠ D := fun a ha z => tD (by rw [← z]; exact (fr' a ha).1)
    refine ⟨acc, eH5 _ _ hDl, ?_, ?_, acc ++ [y], accd ++ [dd], as ++ as', fun a => (Ac a ∨ A' a) ∧ H5 a ≠ none, rest', upd_same, ?_, ?_, ?_, ?_, ?_, hlc', ?_⟩
    · rw [ow.length, ← LIM_eq]; omega
    · exact (ex.trans eH5).mut hD
    · refine OwL.append (ow.mono ?_ ?_ ?_) (OwL.one (ow'.mono ?_ ?_ ?_))
      · exact fun a q t => ⟨.inl q, fun z => t (eH5.back z)⟩
      · exact fun a o q e => up a o (hAc a q).2.1 (eH5 a o e)
      · exact fun a q o e => up a o (fr a q).2.1 (eH5 a o e)
      · exact fun a q t => ⟨.inr q, t⟩
      · exact fun a o q e => up a o (hA2 a q).2.1 e
      · exact fun a q o e => up a o (nD' a q) e
    · rw [List.nodup_append]
      refine ⟨nd, nd', fun a ha b hb z => ?_⟩
      subst z
      exact tas a ha (eH4.back (fr' a hb).1)
    · intro a ha
      rcases List.mem_append.mp ha with ha | ha
      · refine ⟨(fr a ha).1, (fr a ha).2.1, ?_⟩
        rintro ⟨q | q, _⟩
        · exact (fr a ha).2.2 q
        · exact (hA2 a q).2.2 ha
      · refine ⟨ex.back (eH4.back (fr' a ha).1), nD' a ha, ?_⟩
        rintro ⟨q | q, _⟩
        · exact (hAc a q).2.2 (eH4.back (fr' a ha).1)
        · exact (fr' a ha).2 q
    · rintro a ⟨q | q, t⟩
      · exact ⟨(hAc a q).1, (hAc a q).2.1, by rw [upd_ne (hAc a q).2.1]; exact t⟩
      · exact ⟨(hA2 a q).1, (hA2 a q).2.1, by rw [upd_ne (hA2 a q).2.1]; exact t⟩
    · simp only [List.length_append, List.length_singleton]; omega
    · rw [← hr, hrest, List.append_assoc]
      rfl
end
end MP
/-! part o: list comprehensions, the end; all expressions. -/
namespace MP
open PySem PySem.Spec PyProof.Rows L2
section
variable {W : Wd} {n : Nat} {E : XK} {st : Stc} {X : Cx}
theorem PTs.weak {X : Cx} {e : List Expr} {t t' : TT} (h : PTs X e t) (w : ∀ σ H Q, t' σ H Q → t σ H Q) : PTs X e t' := ⟨fun pins s σ H Q I q => h.run pins s σ H Q I (w σ H Q q)⟩
def isSet : Expr → Bool
  | .Set _ _ _ => true
  | _ => false
theorem not_set {e : Expr} (h : isSet e = false) (env : PySem.Env) (x : Value) : foldedSetIterable e env x = pure x := by
  cases e <;> first | rfl | cases h
theorem okIt_set {b : Bool} {it : MP.It} {tg e : Expr} (h : okIt W.P b st it tg e = true) : isSet e = false := by
  cases e <;> first | rfl | skip
  cases it <;> unfold okIt at h
  · have := (shp2' h).2
    cases this
  all_goals first | (cases h; done) | (rw [Bool.and_false] at h; cases h)
theorem elS_ok {m : Md} {s : Sh} (h : elS (mdS m) = some s) : (m = .st (.ls s)) ∨ (s = .fz ∧ (m = .st .fz ∨ m = .op)) := by
  cases m with
  | op => cases h; exact .inr ⟨rfl, .inr rfl⟩
  | st t =>
    cases t with
    | fz => cases h; exact .inr ⟨rfl, .inl rfl⟩
    | ls t => cases h; exact .inl rfl
    | t2 _ _ => cases h
theorem own_ix (N : List Str) : ∀ vs : List Nat, (ownOf N vs).map (·.2) = vs
  | [] => rfl
  | v :: vs => by
    show v :: (ownOf N vs).map (·.2) = _
    rw [own_ix N vs]
theorem lc_fin {m : Md} {s : Sh} {A : AS} {H H1 H' : Hp} {D : Addr} {Q : VK} {f : MP.D → Rs (Option MP.D)} {ds r : List MP.D} (hm : elS (mdS m) = some s) (h : okP W E m A H (.ok (.list r)) Q) (e1 : Ex H H1) (hD : H1 D = none) (hl : r.length ≤ V1.LIM)
    (p : LcI W s A H H1 D f ds r ds.length H') : Q (.ref D) H' := by
  obtain ⟨ex, acc, accd, as, Ac, rest, hDl, ow, nd, fr, hAc, hlen, hlc, hr⟩ := p
  rw [List.drop_length] at hlc
  cases hlc
  rw [List.append_nil] at hr
  subst hr
  have e := e1.trans ex
  rcases elS_ok hm with rfl | ⟨rfl, hm2⟩
  · refine h.2 (.ref D) H' (D :: as) Ac e (fun a q => (hAc a q).1) (.ls hDl hl ow) (List.nodup_cons.mpr ⟨fun z => (fr D z).2.1 rfl, nd⟩) fun a ha => ?_
    rcases List.mem_cons.mp ha with z | z
    · subst z
      exact ⟨e1.back hD, fun q => (hAc a q).2.1 rfl⟩
    · exact ⟨e1.back (fr a z).1, (fr a z).2.2⟩
  · exact h.val hm2 e (.lst (.inr (e1.back hD)) hDl hl ((ow.fz).2.mono (fun a q _ => (hAc a q).1) fun _ _ _ q => q))
theorem lc_sem {m : Md} {s : Sh} {elt : MP.E} {tg : Tg} {it : MP.It} {ci : Eo} {vs : List Nat} {scope : Scope} (hm : elS (mdS m) = some s) (hi : ∀ i ∈ tgIx tg, i ∈ vs) (hv : ∀ i ∈ vs, sh st.Γ i = .fz) {σ : L2.St} {H : Hp} {Q : VK}
    (h : semE W n E st m (.lc elt tg it ci vs) σ H Q) : tLc (semI W n E st false it) (gD W.K tg) (semC W n E0 (inner st scope) ci) (semE W n E0 (inner st scope) (.st s) elt) vs σ H Q := by
  obtain ⟨ρ, A, B, R, h⟩ := h
  unfold evE at h
  refine ⟨ρ, A, B, R, okG_bindP h fun ds eds h9 hl J H1 G A1 e1 hA1 hG wd D hD => ?_⟩
  cases er : lcL ds (fun x => asg tg x (wipeE ρ vs) >>= fun ρ' => evC (callF W.P n) ci ρ' >>= fun t => if t then evE (callF W.P n) elt ρ' >>= fun d => .ok (some d) else .ok none) with
  | bad => rw [er] at h9; exact h9.elim
  | exc c => exact absurd er (lcL_exc ds)
  | ok r =>
    rw [er] at h9
    have h9 : okP W E m A H (.ok (.list r)) Q := h9
    obtain ⟨Y, w, wy⟩ := wd
    have hsh : shOkL s r = true := by
      rcases elS_ok hm with rfl | ⟨rfl, _⟩
      · have q : shOk (.ls s) (.list r) = true := h9.1
        unfold shOk at q
        exact q
      · exact shOkL_fz r
    refine lc_it w (LcI W s A H H1 D (fun x => asg tg x (wipeE ρ vs) >>= fun ρ' => evC (callF W.P n) ci ρ' >>= fun t => if t then evE (callF W.P n) elt ρ' >>= fun d => .ok (some d) else .ok none) ds r) ?_ (fun i H' _ p a o q e => p.ex a o e) ?_ ?_
    · exact ⟨Ex.new hD, [], [], [], fun _ => False, r, upd_same, .nil, List.nodup_nil, fun _ z => (by cases z), fun _ z => z.elim, Nat.zero_le _, er, rfl⟩
    · intro i x H' H2 hlt p y
      obtain ⟨e2, d, hd, rx⟩ := wy i H' x H2 hlt (fun a o q e => p.ex a o e) y
      exact lc_turn (m := m) R e1 hA1 hD hl hsh hi hv hlt p e2 hd rx
    · intro H' p
      exact lc_fin hm h9 e1 hD (Nat.le_trans (lcL_len er) hl) p
theorem pe_lc_ (g : Gd W n st E X) (wk : Wk W n) {m : Md} {s : Sh} {elt : MP.E} {tg : Tg} {it : MP.It} {ci : Eo} {vs : List Nat} {ee et ei : Expr} {ifs : List Expr} {scope : Scope} {pos : Pos} (hm : elS (mdS m) = some s)
    (hb : blkC st.N st.sc scope (ownOf st.N vs) = true) (ht : okTg (inner st scope) tg et = true) (hi : (tgIx tg).all (fun i => vs.contains i) = true) (hv : vs.all (fun i => decide (sh st.Γ i = .fz)) = true) (hs : isSet ei = false)
    (pi : PI X et ei (semI W n E st false it)) (pc : ∀ X', Gd W n (inner st scope) E0 X' → PTs X' ifs (semC W n E0 (inner st scope) ci)) (pe : ∀ X', Gd W n (inner st scope) E0 X' → PE X' ee (semE W n E0 (inner st scope) (.st s) elt)) :
    PE X (.ListComp ee [⟨et, ei, ifs, 0⟩] scope pos) (semE W n E st m (.lc elt tg it ci vs)) := by
  refine PE.weak (pe_lc (g := gD W.K tg) (own := ownOf st.N vs) g.calm (by rw [g.N]; exact g.nd) pi (by rw [g.N, g.sc]; exact blkOk_by hb) (fun s H C cl fp => pg_tg (gd_blk g wk s H scope C cl fp) tg et ht) (fun s H C cl fp => pc _ (gd_blk g wk s H scope C cl fp)) (fun s H C cl fp => pe _ (gd_blk g wk s H scope C cl fp)) (not_set hs X.env)) ?_
  intro σ H Q h
  rw [own_ix]
  exact lc_sem hm (fun i q => by simpa using List.all_eq_true.mp hi i q) (fun i q => of_decide_eq_true (List.all_eq_true.mp hv i q)) h
/-! tests of a clause -/
theorem pts_no : PTs X [] (semC W n E st .no) := by
  refine PTs.weak pts_nil ?_
  rintro σ H Q ⟨ρ, A, B, R, h⟩
  unfold evC at h
  exact h H (Ex.refl H)
theorem pts_so {e : MP.E} {x : Expr} (h : PT X x (semT W n E st e)) : PTs X [x] (semC W n E st (.so e)) := by
  refine PTs.weak (pts_one h) ?_
  rintro σ H Q ⟨ρ, A, B, R, h⟩
  unfold evC at h
  refine ⟨ρ, A, B, R, ?_⟩
  cases ee : evE (callF W.P n) e ρ with
  | bad => rw [ee] at h; exact h.elim
  | exc c => rw [ee] at h; exact h
  | ok d => rw [ee, ok_bind] at h; exact h
end
end MP
/-! part p: all expressions. -/
namespace MP
open PySem PySem.Spec PyProof.Rows L2
section
variable {W : Wd} {n : Nat}
structure Both (W : Wd) (n : Nat) (st : Stc) (m : Md) (ir : MP.E) (e : Expr) : Prop where
  pe : ∀ E X, Gd W n st E X → PE X e (semE W n E st m ir)
  pt : mSh m = true → ∀ E X, Gd W n st E X → PTW X e (semT W n E st ir)
theorem pe_toOp {E : XK} {st : Stc} {X : Cx} {m : Md} {ir : MP.E} {e : Expr} (hm : mSh m = true) (h : PE X e (semE W n E st m ir)) : PE X e (semE W n E st .op ir) := by
  rcases mSh_of hm with rfl | rfl
  · refine PE.weak h ?_
    rintro σ H Q ⟨ρ, A, B, R, h⟩
    exact ⟨ρ, A, B, R, okP.toFz h (.inr rfl)⟩
  · exact h
theorem Both.leaf {st : Stc} {m : Md} {ir : MP.E} {e : Expr} (pe : ∀ E X, Gd W n st E X → PE X e (semE W n E st m ir)) (he : ∀ (X : Cx) whole, isTrue e X.env whole = (do let v ← whole; standAt e.pos; holding [v] (truthy v))) (hb : isBo e = false) : Both W n st m ir e :=
  ⟨pe, fun hm E X g => .of (pt_of g (pe_toOp hm (pe E X g)) fun w => he X w) hb⟩
theorem free_gd {E : XK} {st : Stc} {X : Cx} (g : Gd W n st E X) : Gd W n (free st) E X := ⟨g.prog, g.w, g.K, g.mg, g.base, g.N, g.nd, g.sc, g.fn, g.calm, g.room, g.gd, g.un, g.px⟩
theorem scl_rel {Γ : List Sh} {A B : AS} {ρ : En} {σ : L2.St} {H : Hp} (R : RelF W.K Γ A B ρ σ H) : RelF W.K [] B B ρ σ H := by
  refine ⟨R.len, fun i d h => ?_, fun _ q => q, R.tr⟩
  obtain ⟨v, h1, h2, _, _⟩ := R.at_ i d h
  refine ⟨v, h1, h2, fun _ => h2, fun z => ?_⟩
  unfold sh at z
  cases z
theorem scl_sem {E : XK} {st : Stc} {a : MP.E} {σ : L2.St} {H : Hp} {Q : Bool → Hp → Prop} (h : semT W n E st (.scl a) σ H Q) : semT W n E (free st) a σ H Q := by
  obtain ⟨ρ, A, B, R, h⟩ := h
  refine ⟨ρ, B, B, scl_rel R, ?_⟩
  unfold evE at h
  cases e : evE (callF W.P n) a ρ with
  | bad => rw [e] at h; exact h.elim
  | exc c => rw [e] at h; exact h
  | ok d =>
    rw [e, ok_bind] at h
    by_cases hs : V1.scalar d = true
    · rw [if_pos hs] at h; exact h
    · rw [if_neg hs] at h; exact h.elim
theorem ptw_scl {E : XK} {st : Stc} {X : Cx} {a : MP.E} {e : Expr} (h : PTW X e (semT W n E (free st) a)) : PTW X e (semT W n E st (.scl a)) :=
  ⟨PT.weak h.pt fun _ _ _ q => scl_sem q, fun hb => PW.weak (h.pw hb) fun _ _ _ q => scl_sem q⟩
theorem ty_of {s : Str} {t : Ty} (h : s = tyS t) : s = tyS t := h
mutual
theorem e_ok (wk : Wk W n) : ∀ (ir : MP.E) (st : Stc) (m : Md) (e : Expr), okE W.P st m ir e = true → Both W n st m ir e
  | .v i, st, m, e, h => by
    unfold okE at h
    split at h
    · exact .leaf (fun E X g => pe_v g h) (fun _ _ => rfl) rfl
    · cases h
  | .c d, st, m, e, h => by
    unfold okE at h
    split at h
    · exact .leaf (fun E X g => pe_c h) (fun _ _ => rfl) rfl
    · cases h
  | .b2 o a b, st, m, e, h => by
    unfold okE at h
    split at h
    · obtain ⟨h, h4⟩ := shp2' h
      obtain ⟨h, h3⟩ := shp2' h
      obtain ⟨h1, h2⟩ := shp2' h
      have pa := e_ok wk a st _ _ h3
      have pb := e_ok wk b st _ _ h4
      exact .leaf (fun E X g => pe_b2 g h1 h2 (pa.pe E X g) (pb.pe E X g)) (fun _ _ => rfl) rfl
    · cases h
  | .c2 o a b, st, m, e, h => by
    unfold okE at h
    split at h
    · obtain ⟨h, h4⟩ := shp2' h
      obtain ⟨h, h3⟩ := shp2' h
      obtain ⟨h, h5⟩ := shp2' h
      obtain ⟨h1, h2⟩ := shp2' h
      have h5 := Bool.not_eq_true' _ |>.mp h5
      have pa := e_ok wk a st _ _ h3
      have pb := e_ok wk b st _ _ h4
      exact ⟨fun E X g => pe_c2 g h1 h2 h5 (pa.pe E X g) (pb.pe E X g), fun _ E X g => .of (pt_c2 g h2 h5 (pa.pe E X g) (pb.pe E X g)) rfl⟩
    · cases h
  | .ch o p a b c, st, m, e, h => by
    unfold okE at h
    split at h
    · obtain ⟨h, h7⟩ := shp2' h
      obtain ⟨h, h6⟩ := shp2' h
      obtain ⟨h, h5⟩ := shp2' h
      obtain ⟨h, h4⟩ := shp2' h
      obtain ⟨h, h3⟩ := shp2' h
      obtain ⟨h1, h2⟩ := shp2' h
      have h4 := Bool.not_eq_true' _ |>.mp h4
      have pa := e_ok wk a st _ _ h5
      have pb := e_ok wk b st _ _ h6
      have pc := e_ok wk c st _ _ h7
      exact ⟨fun E X g => pe_ch g h1 h2 h3 h4 (pa.pe E X g) (pb.pe E X g) (pc.pe E X g), fun _ E X g => .of (pt_ch g h2 h3 h4 (pa.pe E X g) (pb.pe E X g) (pc.pe E X g)) rfl⟩
    · cases h
  | .isN neg a, st, m, e, h => by
    unfold okE at h
    split at h
    · obtain ⟨h, h3⟩ := shp2' h
      obtain ⟨h1, h2⟩ := shp2' h
      have pa := e_ok wk a st _ _ h3
      exact ⟨fun E X g => pe_isN_ h1 h2 (pa.pe E X g), fun _ E X g => .of (pt_isN_ h2 (pa.pe E X g)) rfl⟩
    · cases h
  | .and a b, st, m, e, h => by
    unfold okE at h
    split at h
    · rename_i x y r pos
      obtain ⟨h, h3⟩ := shp2' h
      obtain ⟨h1, h2⟩ := shp2' h
      have pa := e_ok wk a st _ _ h2
      have pb := e_ok wk b st _ _ h3
      exact ⟨fun E X g => pe_and_ g h1 (pa.pe E X g) (pb.pe E X g), fun _ E X g => ptw_and g (pa.pt rfl E X g) (pb.pt rfl E X g)⟩
    · cases h
  | .or a b, st, m, e, h => by
    unfold okE at h
    split at h
    · obtain ⟨h, h3⟩ := shp2' h
      obtain ⟨h1, h2⟩ := shp2' h
      have pa := e_ok wk a st _ _ h2
      have pb := e_ok wk b st _ _ h3
      exact ⟨fun E X g => pe_or_ g h1 (pa.pe E X g) (pb.pe E X g), fun _ E X g => ptw_or g (pa.pt rfl E X g) (pb.pt rfl E X g)⟩
    · cases h
  | .not a, st, m, e, h => by
    unfold okE at h
    split at h
    · obtain ⟨h1, h2⟩ := shp2' h
      have pa := e_ok wk a st _ _ h2
      exact ⟨fun E X g => pe_not_ g h1 (pa.pe E X g), fun _ E X g => ptw_not g (pa.pt rfl E X g)⟩
    · cases h
  | .ife c a b, st, m, e, h => by
    unfold okE at h
    split at h
    · obtain ⟨h, h3⟩ := shp2' h
      obtain ⟨h1, h2⟩ := shp2' h
      have pc := e_ok wk c st _ _ h1
      have pa := e_ok wk a st _ _ h2
      have pb := e_ok wk b st _ _ h3
      exact ⟨fun E X g => pe_ife (pc.pt rfl E X g) (pa.pe E X g) (pb.pe E X g), fun hm E X g => ptw_ife (pc.pt rfl E X g) (pa.pt hm E X g) (pb.pt hm E X g)⟩
    · cases h
  | .neg a, st, m, e, h => by
    unfold okE at h
    split at h
    · obtain ⟨h1, h2⟩ := shp2' h
      have pa := e_ok wk a st _ _ h2
      exact .leaf (fun E X g => pe_neg_ h1 (pa.pe E X g)) (fun _ _ => rfl) rfl
    · cases h
  | .lst es, st, m, e, h => by
    unfold okE at h
    split at h
    · obtain ⟨h1, h2⟩ := shp2' h
      have pa := es_ok wk es st _ _ h2
      exact .leaf (fun E X g => pe_lst_ h1 h2 (pa E X g)) (fun _ _ => rfl) rfl
    · cases h
  | .lsh s es, st, m, e, h => by
    unfold okE at h
    split at h
    · obtain ⟨h1, h2⟩ := shp2' h
      have h1 := of_decide_eq_true h1
      subst h1
      have pa := es_ok wk es st _ _ h2
      exact .leaf (fun E X g => pe_lsh_ h2 (pa E X g)) (fun _ _ => rfl) rfl
    · cases h
  | .tup es, st, m, e, h => by
    unfold okE at h
    split at h
    · obtain ⟨h1, h2⟩ := shp2' h
      have pa := es_ok wk es st _ _ h2
      exact .leaf (fun E X g => pe_tup_ h1 h2 (pa E X g)) (fun _ _ => rfl) rfl
    · cases h
  | .tsh s es, st, m, e, h => by
    unfold okE at h
    split at h
    · split at h
      · obtain ⟨h1, h2⟩ := shp2' h
        have h1 := of_decide_eq_true h1
        subst h1
        have pa := es_ok wk es st _ _ h2
        exact .leaf (fun E X g => pe_tsh_ h2 (pa E X g)) (fun _ _ => rfl) rfl
      · cases h
    · cases h
  | .ix a i, st, m, e, h => by
    unfold okE at h
    split at h
    · obtain ⟨h, h4⟩ := shp2' h
      obtain ⟨h, h3⟩ := shp2' h
      obtain ⟨h1, h2⟩ := shp2' h
      have h2 := Bool.not_eq_true' _ |>.mp h2
      have pa := e_ok wk a st _ _ h3
      have pb := e_ok wk i st _ _ h4
      exact .leaf (fun E X g => pe_ix_ g h1 h2 (pa.pe E X g) (pb.pe E X g)) (fun _ _ => rfl) rfl
    · cases h
  | .sl a lo hi, st, m, e, h => by
    unfold okE at h
    split at h
    · obtain ⟨h, h4⟩ := shp2' h
      obtain ⟨h, h3⟩ := shp2' h
      obtain ⟨h1, h2⟩ := shp2' h
      have pa := e_ok wk a st _ _ h2
      have pl := eo_ok wk lo st _ h3
      have pu := eo_ok wk hi st _ h4
      exact .leaf (fun E X g => pe_sl g h1 (pa.pe E X g) (pl E X g) (pu E X g)) (fun _ _ => rfl) rfl
    · cases h
  | .rvs a, st, m, e, h => by
    unfold okE at h
    split at h
    · obtain ⟨h1, h2⟩ := shp2' h
      have pa := e_ok wk a st _ _ h2
      exact .leaf (fun E X g => pe_rvs g h1 (pa.pe E X g)) (fun _ _ => rfl) rfl
    · cases h
  | .call f es, st, m, e, h => by
    unfold okE at h
    split at h
    · split at h
      · rename_i fn hP
        obtain ⟨h, h6⟩ := shp2' h
        obtain ⟨h, h5⟩ := shp2' h
        obtain ⟨h, h4⟩ := shp2' h
        obtain ⟨h, h3⟩ := shp2' h
        obtain ⟨h1, h2⟩ := shp2' h
        have pa := es_ok wk es st _ _ h6
        exact .leaf (fun E X g => pe_call_ g wk hP (of_decide_eq_true h1) h2 h3 h4 (of_decide_eq_true h5) h6 (pa E X g)) (fun _ _ => rfl) rfl
      · cases h
    · cases h
  | .bi1 f a, st, m, e, h => by
    unfold okE at h
    split at h
    · obtain ⟨h, h5⟩ := shp2' h
      obtain ⟨h, h4⟩ := shp2' h
      obtain ⟨h, h3⟩ := shp2' h
      obtain ⟨h1, h2⟩ := shp2' h
      have h4 := Bool.not_eq_true' _ |>.mp h4
      have pa := e_ok wk a st _ _ h5
      exact .leaf (fun E X g => pe_bi1 g wk h1 (of_decide_eq_true h2) h3 h4 (pa.pe E X g)) (fun _ _ => rfl) rfl
    · cases h
  | .bi2 f a b, st, m, e, h => by
    unfold okE at h
    split at h
    · obtain ⟨h, h7⟩ := shp2' h
      obtain ⟨h, h6⟩ := shp2' h
      obtain ⟨h, h5⟩ := shp2' h
      obtain ⟨h, h4⟩ := shp2' h
      obtain ⟨h, h3⟩ := shp2' h
      obtain ⟨h1, h2⟩ := shp2' h
      have h4 := Bool.not_eq_true' _ |>.mp h4
      have h5 := Bool.not_eq_true' _ |>.mp h5
      have pa := e_ok wk a st _ _ h6
      have pb := e_ok wk b st _ _ h7
      exact .leaf (fun E X g => pe_bi2 g wk h1 (of_decide_eq_true h2) h3 h4 h5 (pa.pe E X g) (pb.pe E X g)) (fun _ _ => rfl) rfl
    · cases h
  | .isi t a, st, m, e, h => by
    unfold okE at h
    split at h
    · obtain ⟨h, h7⟩ := shp2' h
      obtain ⟨h, h6⟩ := shp2' h
      obtain ⟨h, h5⟩ := shp2' h
      obtain ⟨h, h4⟩ := shp2' h
      obtain ⟨h, h3⟩ := shp2' h
      obtain ⟨h1, h2⟩ := shp2' h
      have h2 := of_decide_eq_true h2
      have h3 := of_decide_eq_true h3
      subst h2 h3
      have h6 := Bool.not_eq_true' _ |>.mp h6
      have pa := e_ok wk a st _ _ h7
      exact .leaf (fun E X g => pe_isi g wk h1 h4 h5 h6 (pa.pe E X g)) (fun _ _ => rfl) rfl
    · cases h
  | .mt f o a, st, m, e, h => by
    cases f with
    | index =>
      unfold okE at h
      simp only at h
      split at h
      · obtain ⟨h, h7⟩ := shp2' h
        obtain ⟨h, h6⟩ := shp2' h
        obtain ⟨h, h5⟩ := shp2' h
        obtain ⟨h, h4⟩ := shp2' h
        obtain ⟨h, h3⟩ := shp2' h
        obtain ⟨h1, h2⟩ := shp2' h
        have h2 := of_decide_eq_true h2
        subst h2
        have h4 := Bool.not_eq_true' _ |>.mp h4
        have h5 := Bool.not_eq_true' _ |>.mp h5
        have po := e_ok wk o st _ _ h6
        have pa := e_ok wk a st _ _ h7
        exact .leaf (fun E X g => pe_index g h1 h3 h4 h5 (po.pe E X g) (pa.pe E X g)) (fun _ _ => rfl) rfl
      · cases h
    | count => unfold okE at h; cases h
  | .lc elt tg it ci vs, st, m, e, h => by
    unfold okE at h
    split at h
    · split at h
      · rename_i s hs
        obtain ⟨h, h7⟩ := shp2' h
        obtain ⟨h, h6⟩ := shp2' h
        obtain ⟨h, h5⟩ := shp2' h
        obtain ⟨h, h4⟩ := shp2' h
        obtain ⟨h, h3⟩ := shp2' h
        obtain ⟨h1, h2⟩ := shp2' h
        have pi := it_ok wk it false st _ _ h5
        have pc := ec_ok wk ci _ _ h6
        have pe := e_ok wk elt _ _ _ h7
        exact .leaf (fun E X g => pe_lc_ g wk hs h1 h2 h3 h4 (okIt_set h5) (pi E X g) (fun X' g' => pc E0 X' g') (fun X' g' => pe.pe E0 X' g')) (fun _ _ => rfl) rfl
      · cases h
    · cases h
  | .scl a, st, m, e, h => by
    unfold okE at h
    obtain ⟨h1, h2⟩ := shp2' h
    have pa := e_ok wk a _ _ _ h2
    exact ⟨fun E X g => pe_scl h1 (pa.pe E X (free_gd g)), fun _ E X g => ptw_scl (pa.pt rfl E X (free_gd g))⟩
theorem es_ok (wk : Wk W n) : ∀ (es : Es) (st : Stc) (ss : List Sh) (xs : List Expr), okEs W.P st ss es xs = true → ∀ E X, Gd W n st E X → PA X xs (semEs W n E st ss es)
  | .nil, st, ss, xs, h, E, X, g => by
    cases ss with
    | nil =>
      unfold okEs at h
      cases xs with
      | nil => exact pa_nil_
      | cons _ _ => cases h
    | cons _ _ => unfold okEs at h; cases h
  | .cons e es, st, ss, xs, h, E, X, g => by
    cases ss with
    | nil => unfold okEs at h; cases h
    | cons s ss =>
      unfold okEs at h
      cases xs with
      | nil => cases h
      | cons x xs =>
        obtain ⟨h, h3⟩ := shp2' h
        obtain ⟨h1, h2⟩ := shp2' h
        exact pa_cons_ (Bool.not_eq_true' _ |>.mp h1) ((e_ok wk e st _ _ h2).pe E X g) (es_ok wk es st ss xs h3 E X g)
theorem eo_ok (wk : Wk W n) : ∀ (eo : Eo) (st : Stc) (x : Option Expr), okEo W.P st eo x = true → ∀ E X, Gd W n st E X → PO X x (semEo W n E st eo)
  | .no, st, x, h, E, X, g => by
    unfold okEo at h
    cases x with
    | none => exact po_no
    | some _ => cases h
  | .so e, st, x, h, E, X, g => by
    unfold okEo at h
    cases x with
    | none => cases h
    | some x => exact po_so ((e_ok wk e st _ _ h).pe E X g)
theorem ec_ok (wk : Wk W n) : ∀ (eo : Eo) (st : Stc) (x : List Expr), okC W.P st eo x = true → ∀ E X, Gd W n st E X → PTs X x (semC W n E st eo)
  | .no, st, x, h, E, X, g => by
    unfold okC at h
    cases x with
    | nil => exact pts_no
    | cons _ _ => cases h
  | .so e, st, x, h, E, X, g => by
    unfold okC at h
    split at h
    · exact pts_so ((e_ok wk e st _ _ h).pt rfl E X g).pt
    · cases h
theorem it_ok (wk : Wk W n) : ∀ (it : MP.It) (b : Bool) (st : Stc) (tg e : Expr), okIt W.P b st it tg e = true → ∀ E X, Gd W n st E X → PI X tg e (semI W n E st b it)
  | .sq a, b, st, tg, e, h, E, X, g => by
    unfold okIt at h
    exact pi_sq g ((e_ok wk a st _ _ (shp2' h).1).pe E X g)
  | .r1 a, b, st, tg, e, h, E, X, g => by
    unfold okIt at h
    split at h
    · obtain ⟨h, h4⟩ := shp2' h
      obtain ⟨h, h3⟩ := shp2' h
      obtain ⟨h1, h2⟩ := shp2' h
      have h1 := of_decide_eq_true h1
      subst h1
      exact pi_r1 g wk h2 (Bool.not_eq_true' _ |>.mp h3) ((e_ok wk a st _ _ h4).pe E X g)
    · cases h
  | .r2 a a2, b, st, tg, e, h, E, X, g => by
    unfold okIt at h
    split at h
    · obtain ⟨h, h6⟩ := shp2' h
      obtain ⟨h, h5⟩ := shp2' h
      obtain ⟨h, h4⟩ := shp2' h
      obtain ⟨h, h3⟩ := shp2' h
      obtain ⟨h1, h2⟩ := shp2' h
      have h1 := of_decide_eq_true h1
      subst h1
      exact pi_r2 g wk h2 (Bool.not_eq_true' _ |>.mp h3) (Bool.not_eq_true' _ |>.mp h4) ((e_ok wk a st _ _ h5).pe E X g) ((e_ok wk a2 st _ _ h6).pe E X g)
    · cases h
  | .r3 a a2 a3, b, st, tg, e, h, E, X, g => by
    unfold okIt at h
    split at h
    · obtain ⟨h, h8⟩ := shp2' h
      obtain ⟨h, h7⟩ := shp2' h
      obtain ⟨h, h6⟩ := shp2' h
      obtain ⟨h, h5⟩ := shp2' h
      obtain ⟨h, h4⟩ := shp2' h
      obtain ⟨h, h3⟩ := shp2' h
      obtain ⟨h1, h2⟩ := shp2' h
      have h1 := of_decide_eq_true h1
      subst h1
      exact pi_r3 g wk h2 (Bool.not_eq_true' _ |>.mp h3) (Bool.not_eq_true' _ |>.mp h4) (Bool.not_eq_true' _ |>.mp h5) ((e_ok wk a st _ _ h6).pe E X g) ((e_ok wk a2 st _ _ h7).pe E X g) ((e_ok wk a3 st _ _ h8).pe E X g)
    · cases h
  | .en a, b, st, tg, e, h, E, X, g => by
    unfold okIt at h
    obtain ⟨h0, h⟩ := shp2' h
    split at h
    · obtain ⟨h, h4⟩ := shp2' h
      obtain ⟨h, h3⟩ := shp2' h
      obtain ⟨h1, h2⟩ := shp2' h
      have h1 := of_decide_eq_true h1
      subst h1
      exact pi_en g wk h0 h2 (Bool.not_eq_true' _ |>.mp h3) ((e_ok wk a st _ _ h4).pe E X g)
    · cases h
  | .zp a a2, b, st, tg, e, h, E, X, g => by
    unfold okIt at h
    obtain ⟨h0, h⟩ := shp2' h
    split at h
    · obtain ⟨h, h6⟩ := shp2' h
      obtain ⟨h, h5⟩ := shp2' h
      obtain ⟨h, h4⟩ := shp2' h
      obtain ⟨h, h3⟩ := shp2' h
      obtain ⟨h1, h2⟩ := shp2' h
      have h1 := of_decide_eq_true h1
      subst h1
      exact pi_zp g wk h0 h2 (Bool.not_eq_true' _ |>.mp h3) (Bool.not_eq_true' _ |>.mp h4) ((e_ok wk a st _ _ h5).pe E X g) ((e_ok wk a2 st _ _ h6).pe E X g)
    · cases h
  | .rv a, b, st, tg, e, h, E, X, g => by
    unfold okIt at h
    split at h
    · obtain ⟨h, h4⟩ := shp2' h
      obtain ⟨h, h3⟩ := shp2' h
      obtain ⟨h1, h2⟩ := shp2' h
      have h1 := of_decide_eq_true h1
      subst h1
      exact pi_rv g wk h2 (Bool.not_eq_true' _ |>.mp h3) ((e_ok wk a st _ _ h4).pe E X g)
    · cases h
end
end
end MP
/-! part q: statements: what they promise. -/
namespace MP
open PySem PySem.Spec PyProof.Rows L2
theorem Ow.lsD {K : PySem.W.Frag} {A : AS} {H : Hp} {s : Sh} {v : V} {d : D} {as : List Addr} (h : Ow K A H (.ls s) v d as) : ∃ a vs ds bs, v = .ref a ∧ d = .list ds ∧ as = a :: bs ∧ H a = some (.lst vs) ∧ ds.length ≤ V1.LIM ∧ OwL K A H s vs ds bs := by
  cases h with
  | ls h1 h2 h3 => exact ⟨_, _, _, _, rfl, rfl, rfl, h1, h2, h3⟩
theorem Ow.t2D {K : PySem.W.Frag} {A : AS} {H : Hp} {s1 s2 : Sh} {v : V} {d : D} {as : List Addr} (h : Ow K A H (.t2 s1 s2) v d as) : ∃ a v1 v2 d1 d2 bs cs, v = .ref a ∧ d = .tuple [d1, d2] ∧ as = a :: (bs ++ cs) ∧ H a = some (.tup [v1, v2]) ∧ Ow K A H s1 v1 d1 bs ∧ Ow K A H s2 v2 d2 cs := by
  cases h with
  | t2 h1 h2 h3 => exact ⟨_, _, _, _, _, _, _, rfl, rfl, rfl, h1, h2, h3⟩
/-- a def's frame: its parameters' shapes, its result's, its arguments -/
structure FC where
  np : Nat
  pm : List Sh
  rs : Sh
  vs : List V
abbrev FC.fl (C : FC) : Bool := allFz C.pm
structure RelA (W : Wd) (C : FC) (Γ : List Sh) (A : AS) (O : Nat → List Addr) (ρ : En) (σ : L2.St) (H : Hp) : Prop where
  len : σ.length = ρ.length
  at_ : ∀ i d, ρ[i]? = some (some d) → ∃ v, σ[i]? = some (some v) ∧ Ow W.K A H (sh Γ i) v d (O i)
  nd : ∀ i, (O i).Nodup
  dj : ∀ i j, i ≠ j → ∀ a ∈ O i, a ∉ O j
  sep : ∀ i, ∀ a ∈ O i, ¬ A a
  trA : ∀ a, A a → H a ≠ none
  trO : ∀ i, ∀ a ∈ O i, H a ≠ none
  pin : ∀ i, sh C.pm i ≠ .fz → sh Γ i = sh C.pm i ∧ ∃ d v, ρ[i]? = some (some d) ∧ C.vs[i]? = some v ∧ σ[i]? = some (some v)
structure Stp (fl : Bool) (A : AS) (O : Nat → List Addr) (H : Hp) (A' : AS) (O' : Nat → List Addr) (H' : Hp) : Prop where
  chg : Chg (ownS O) H H'
  sub : ∀ a, A' a → Nw A H a ∨ (fl = true ∧ ownS O a)
  own : ∀ a, ownS O' a → H a = none ∨ ownS O a
  mon : ∀ a, A a → A' a
theorem chg_of {H H' : Hp} {B : AS} (e : Ex H H') : Chg B H H' := ⟨fun a o h _ => e a o h, fun a h => e.back h⟩
theorem Stp.refl {fl : Bool} {A : AS} {O : Nat → List Addr} {H : Hp} : Stp fl A O H A O H := ⟨chg_of (Ex.refl H), fun _ q => .inl (.inl q), fun _ q => .inr q, fun _ q => q⟩
theorem Chg.trans' {O O1 : Nat → List Addr} {H H1 H2 : Hp} (a : Chg (ownS O) H H1) (own : ∀ a, ownS O1 a → H a = none ∨ ownS O a) (b : Chg (ownS O1) H1 H2) : Chg (ownS O) H H2 := by
  refine ⟨fun x o h q => b.keep x o (a.keep x o h q) fun z => ?_, fun x h => a.dom x (b.dom x h)⟩
  rcases own x z with z | z
  · rw [h] at z; cases z
  · exact q z
theorem Stp.trans {fl : Bool} {A A1 A2 : AS} {O O1 O2 : Nat → List Addr} {H H1 H2 : Hp} (a : Stp fl A O H A1 O1 H1) (b : Stp fl A1 O1 H1 A2 O2 H2) : Stp fl A O H A2 O2 H2 := by
  refine ⟨a.chg.trans' a.own b.chg, fun x q => ?_, fun x q => ?_, fun x q => b.mon x (a.mon x q)⟩
  · rcases b.sub x q with (q | q) | ⟨f, q⟩
    · exact a.sub x q
    · exact .inl (.inr (a.chg.dom x q))
    · rcases a.own x q with q | q
      · exact .inl (.inr q)
      · exact .inr ⟨f, q⟩
  · rcases b.own x q with q | q
    · exact .inl (a.chg.dom x q)
    · exact a.own x q
section
variable (W : Wd) (C : FC)
/-- what stands at a return -/
structure RetOk (A : AS) (O : Nat → List Addr) (H : Hp) (ρ : En) (v : V) (d : D) (as : List Addr) : Prop where
  ow : Ow W.K A H C.rs v d as
  nd : as.Nodup
  fr : ∀ a ∈ as, ¬ A a ∧ ¬ ownS O a
  at_ : ∀ i, sh C.pm i ≠ .fz → ∃ d v, ρ[i]? = some (some d) ∧ C.vs[i]? = some v ∧ Ow W.K A H (sh C.pm i) v d (O i)
  ndO : ∀ i, (O i).Nodup
  dj : ∀ i j, i ≠ j → ∀ a ∈ O i, a ∉ O j
  sep : ∀ i, ∀ a ∈ O i, ¬ A a
def LpG (Γl : Option (List Sh)) (A : AS) (O : Nat → List Addr) (H : Hp) (ρ : En) (q : L2.St → Hp → Prop) : Prop := match Γl with
  | some Γ => ∀ σ' H' A' O', RelA W C Γ A' O' ρ σ' H' → Stp C.fl A O H A' O' H' → q σ' H'
  | none => False
def PostS (Γn : List Sh) (Γl : Option (List Sh)) (A : AS) (O : Nat → List Addr) (H : Hp) (T : Ends) : Fl → Prop
  | .nx ρ => ∀ σ' H' A' O', RelA W C Γn A' O' ρ σ' H' → Stp C.fl A O H A' O' H' → T.nx σ' H'
  | .brk ρ => LpG W C Γl A O H ρ T.bk
  | .cnt ρ => LpG W C Γl A O H ρ T.ct
  | .ret d ρ => shOk C.rs d = true ∧ ∀ v H' A' O' as, Stp C.fl A O H A' O' H' → RetOk W C A' O' H' ρ v d as → (∀ a ∈ as, H a = none ∨ (C.fl = true ∧ ownS O a)) → T.rt v H'
def okS (E : XK) (O : Nat → List Addr) (H : Hp) (r : Rs Fl) (q : Fl → Prop) : Prop := match r with
  | .ok f => q f
  | .exc c => ∀ H', Chg (ownS O) H H' → E (.ref (W.ca c)) none H'
  | .bad => False
end
section
variable {W : Wd} {C : FC} {E : XK} {Γ Γn : List Sh} {Γl : Option (List Sh)} {A A1 A2 : AS} {O O1 : Nat → List Addr} {H H1 : Hp} {T : Ends} {ρ ρ' : En} {σ σ' : L2.St}
theorem LpG.step {q : L2.St → Hp → Prop} (h : LpG W C Γl A O H ρ q) (s : Stp C.fl A O H A1 O1 H1) : LpG W C Γl A1 O1 H1 ρ q := by
  cases Γl with
  | none => exact h
  | some Γ => exact fun σ' H' A' O' R s2 => h σ' H' A' O' R (s.trans s2)
theorem PostS.step {f : Fl} (h : PostS W C Γn Γl A O H T f) (s : Stp C.fl A O H A1 O1 H1) : PostS W C Γn Γl A1 O1 H1 T f := by
  cases f with
  | nx ρ => exact fun σ' H' A' O' R s2 => h σ' H' A' O' R (s.trans s2)
  | brk ρ => exact LpG.step h s
  | cnt ρ => exact LpG.step h s
  | ret d ρ =>
    refine ⟨h.1, fun v H' A' O' as s2 r fr => h.2 v H' A' O' as (s.trans s2) r fun a ha => ?_⟩
    rcases fr a ha with q | ⟨f, q⟩
    · exact .inl (s.chg.dom a q)
    · rcases s.own a q with q | q
      · exact .inl q
      · exact .inr ⟨f, q⟩
theorem okS.step {r : Rs Fl} (h : okS W E O H r (PostS W C Γn Γl A O H T)) (s : Stp C.fl A O H A1 O1 H1) : okS W E O1 H1 r (PostS W C Γn Γl A1 O1 H1 T) := by
  cases r with
  | ok f => exact PostS.step h s
  | exc c => exact fun H' ch => h H' (s.chg.trans' s.own ch)
  | bad => exact h
/-- an expression's part of a statement -/
theorem okS_P {m : Md} {x : Rs D} {f : D → Rs Fl} {q : Fl → Prop} {Q : VK} (h : okS W E O H (x >>= f) q) (k : ∀ d, x = .ok d → okS W E O H (f d) q → mdOk m d = true ∧ PostE W.K m A H d Q) : okP W E m A H x Q := by
  cases x with
  | ok d => exact k d rfl h
  | exc c => exact fun H' e => h H' (chg_of e)
  | bad => exact h
theorem okS_G {α : Type} {x : Rs α} {f : α → Rs Fl} {q : Fl → Prop} {p : α → Prop} (h : okS W E O H (x >>= f) q) (k : ∀ d, x = .ok d → okS W E O H (f d) q → p d) : okG W E H x p := by
  cases x with
  | ok d => exact k d rfl h
  | exc c => exact fun H' e => h H' (chg_of e)
  | bad => exact h
/-- the expressions' reading -/
theorem RelA.toF (R : RelA W C Γ A O ρ σ H) : RelF W.K Γ A (fun a => A a ∨ ownS O a) ρ σ H := by
  refine ⟨R.len, fun i d hd => ?_, fun a q => .inl q, fun a q => ?_⟩
  · obtain ⟨v, hv, ow⟩ := R.at_ i d hd
    refine ⟨v, hv, Ow.rp (fun a q _ => .inl q) ow fun a ha => .inr ⟨i, ha⟩, fun z => ?_, fun z => ?_⟩
    · rw [z] at ow
      exact ow.fzD.2
    · rw [z] at ow
      obtain ⟨a, vs, ds, bs, e1, e2, _, h1, h2, h3⟩ := ow.lsD
      exact ⟨a, vs, ds, e1, e2, h1, h2, h3.fz.2⟩
  · rcases q with q | ⟨i, q⟩
    · exact R.trA a q
    · exact R.trO i a q
def putO (O : Nat → List Addr) (i : Nat) (as : List Addr) : Nat → List Addr := fun j => if j = i then as else O j
theorem putO_same {i : Nat} {as : List Addr} : putO O i as i = as := by unfold putO; rw [if_pos rfl]
theorem putO_ne {i j : Nat} {as : List Addr} (h : j ≠ i) : putO O i as j = O j := by unfold putO; rw [if_neg h]
theorem sh_set_ne {i j : Nat} {s : Sh} (h : i ≠ j) : sh (Γ.set i s) j = sh Γ j := by
  unfold sh
  rw [List.getD_eq_getElem?_getD, List.getD_eq_getElem?_getD, List.getElem?_set_ne h]
theorem sh_set_same {i : Nat} {s : Sh} (h : i < Γ.length) : sh (Γ.set i s) i = s := by
  unfold sh
  rw [List.getD_eq_getElem?_getD, List.getElem?_set_self h]
  rfl
/-- a fresh value put into a slot -/
theorem RelA.put {i : Nat} {s : Sh} {v : V} {d : D} {as : List Addr} (R : RelA W C Γ A O ρ σ H) (e : Ex H H1) (hA : ∀ a, A1 a → Nw A H a) (ow : Ow W.K A1 H1 s v d as) (nd : as.Nodup) (fr : ∀ a ∈ as, H a = none ∧ ¬ A1 a) (hi : i < Γ.length) (hp : sh C.pm i = .fz) :
    ∃ A' O', RelA W C (Γ.set i s) A' O' (ρ.set i (some d)) (σ.set i (some v)) H1 ∧ Stp C.fl A O H A' O' H1 := by
  refine ⟨fun a => (A a ∨ A1 a) ∧ H1 a ≠ none, putO O i as, ⟨?_, fun j d' hd => ?_, fun j => ?_, fun j k hjk a ha => ?_, fun j a ha => ?_, fun a q => q.2, fun j a ha => ?_, fun j hj => ?_⟩, chg_of e, fun a q => ?_, ?_, fun a q => ⟨.inl q, fun z => R.trA a q (e.back z)⟩⟩
  · simp [R.len]
  · by_cases h : i = j
    · subst h
      rw [List.getElem?_set_self'] at hd
      cases h0 : ρ[i]? with
      | none => rw [h0] at hd; cases hd
      | some o =>
        rw [h0] at hd
        cases hd
        have hlt : i < σ.length := by rw [R.len]; exact (List.getElem?_eq_some_iff.mp h0).1
        refine ⟨v, by rw [List.getElem?_set_self hlt], ?_⟩
        rw [sh_set_same hi, putO_same]
        exact ow.mono (fun a q t => ⟨.inr q, t⟩) (fun _ _ _ q => q) fun _ _ _ q => q
    · rw [set_at h] at hd
      obtain ⟨w, hw, o⟩ := R.at_ j d' hd
      refine ⟨w, by rw [set_at h]; exact hw, ?_⟩
      rw [sh_set_ne h, putO_ne fun z => h z.symm]
      exact o.mono (fun a q t => ⟨.inl q, fun z => t (e.back z)⟩) (fun a o _ q => e a o q) fun a _ o q => e a o q
  · by_cases h : j = i
    · subst h; rw [putO_same]; exact nd
    · rw [putO_ne h]; exact R.nd j
  · by_cases h : j = i
    · subst h
      rw [putO_same] at ha
      rw [putO_ne fun z => hjk z.symm]
      exact fun z => R.trO k a z (fr a ha).1
    · rw [putO_ne h] at ha
      by_cases h2 : k = i
      · subst h2
        rw [putO_same]
        exact fun z => R.trO j a ha (fr a z).1
      · rw [putO_ne h2]; exact R.dj j k hjk a ha
  · by_cases h : j = i
    · subst h
      rw [putO_same] at ha
      rintro ⟨q | q, _⟩
      · exact R.trA a q (fr a ha).1
      · exact (fr a ha).2 q
    · rw [putO_ne h] at ha
      rintro ⟨q | q, _⟩
      · exact R.sep j a ha q
      · rcases hA a q with q | q
        · exact R.sep j a ha q
        · exact R.trO j a ha q
  · by_cases h : j = i
    · subst h
      rw [putO_same] at ha
      exact ow.tracked a ha
    · rw [putO_ne h] at ha
      exact fun z => R.trO j a ha (e.back z)
  · have h : i ≠ j := fun z => hj (by rw [← z]; exact hp)
    obtain ⟨p1, d0, v0, p2, p3, p4⟩ := R.pin j hj
    exact ⟨by rw [sh_set_ne h]; exact p1, d0, v0, by rw [set_at h]; exact p2, p3, by rw [set_at h]; exact p4⟩
  · rcases q with ⟨q | q, _⟩
    · exact .inl (.inl q)
    · exact .inl (hA a q)
  · rintro a ⟨j, ha⟩
    by_cases h : j = i
    · subst h
      rw [putO_same] at ha
      exact .inl (fr a ha).1
    · rw [putO_ne h] at ha
      exact .inr ⟨j, ha⟩
/-- shared values put into slots -/
theorem RelA.puts {ix : List Nat} (R : RelA W C Γ A O ρ σ H) (e : Ex H H1) (hA : ∀ a, A1 a → H1 a ≠ none → ¬ ownS O a ∧ (Nw A H a ∨ A2 a)) (s : SetR W.K A1 H1 ix ρ ρ' σ σ') (hg : ∀ i ∈ ix, sh Γ i = .fz) (hp : ∀ i ∈ ix, sh C.pm i = .fz) :
    ∃ O', RelA W C Γ (fun a => (A a ∨ A1 a) ∧ H1 a ≠ none) O' ρ' σ' H1 ∧ (∀ a, ownS O' a → ownS O a) := by
  refine ⟨fun j => if j ∈ ix then [] else O j, ⟨?_, fun j d' hd => ?_, fun j => ?_, fun j k hjk a ha => ?_, fun j a ha => ?_, fun a q => q.2, fun j a ha => ?_, fun j hj => ?_⟩, ?_⟩
  · rw [s.ls, s.lr, R.len]
  · by_cases h : j ∈ ix
    · obtain ⟨v, hv, r⟩ := s.inn j h d' hd
      refine ⟨v, hv, ?_⟩
      rw [hg j h, if_pos h]
      exact .fz (r.mono (fun a q t => ⟨.inr q, t⟩) fun _ _ _ q => q)
    · rw [(s.out j h).2] at hd
      obtain ⟨w, hw, o⟩ := R.at_ j d' hd
      refine ⟨w, by rw [(s.out j h).1]; exact hw, ?_⟩
      rw [if_neg h]
      exact o.mono (fun a q t => ⟨.inl q, fun z => t (e.back z)⟩) (fun a o _ q => e a o q) fun a _ o q => e a o q
  · by_cases h : j ∈ ix
    · rw [if_pos h]; exact List.nodup_nil
    · rw [if_neg h]; exact R.nd j
  · by_cases h : j ∈ ix
    · rw [if_pos h] at ha; cases ha
    · rw [if_neg h] at ha
      by_cases h2 : k ∈ ix
      · rw [if_pos h2]; exact fun z => nomatch z
      · rw [if_neg h2]; exact R.dj j k hjk a ha
  · by_cases h : j ∈ ix
    · rw [if_pos h] at ha; cases ha
    · rw [if_neg h] at ha
      rintro ⟨q | q, t⟩
      · exact R.sep j a ha q
      · exact (hA a q t).1 ⟨j, ha⟩
  · by_cases h : j ∈ ix
    · rw [if_pos h] at ha; cases ha
    · rw [if_neg h] at ha
      exact fun z => R.trO j a ha (e.back z)
  · have h : j ∉ ix := fun z => hj (hp j z)
    obtain ⟨p1, d0, v0, p2, p3, p4⟩ := R.pin j hj
    exact ⟨p1, d0, v0, by rw [(s.out j h).2]; exact p2, p3, by rw [(s.out j h).1]; exact p4⟩
  · rintro a ⟨j, ha⟩
    have ha : a ∈ (if j ∈ ix then [] else O j) := ha
    by_cases h : j ∈ ix
    · rw [if_pos h] at ha; cases ha
    · rw [if_neg h] at ha; exact ⟨j, ha⟩
/-- an owned value is let go: it is shared from now on -/
theorem RelA.fz {i : Nat} (R : RelA W C Γ A O ρ σ H) (hi : i < Γ.length) (hf : C.fl = true) : ∃ A' O', RelA W C (Γ.set i .fz) A' O' ρ σ H ∧ Stp C.fl A O H A' O' H := by
  have hp : ∀ j, sh C.pm j = .fz := fun j => allFz_sh hf j
  refine ⟨fun a => A a ∨ a ∈ O i, putO O i [], ⟨R.len, fun j d' hd => ?_, fun j => ?_, fun j k hjk a ha => ?_, fun j a ha => ?_, fun a q => ?_, fun j a ha => ?_, fun j hj => absurd (hp j) hj⟩, chg_of (Ex.refl H), fun a q => ?_, ?_, fun a q => .inl q⟩
  · obtain ⟨w, hw, o⟩ := R.at_ j d' hd
    refine ⟨w, hw, ?_⟩
    by_cases h : i = j
    · subst h
      rw [sh_set_same hi, putO_same]
      exact .fz (Ow.rp (fun a q _ => .inl q) o fun a q => .inr q)
    · rw [sh_set_ne h, putO_ne fun z => h z.symm]
      exact o.mono (fun a q _ => .inl q) (fun _ _ _ q => q) fun _ _ _ q => q
  · by_cases h : j = i
    · subst h; rw [putO_same]; exact List.nodup_nil
    · rw [putO_ne h]; exact R.nd j
  · by_cases h : j = i
    · subst h; rw [putO_same] at ha; cases ha
    · rw [putO_ne h] at ha
      by_cases h2 : k = i
      · subst h2; rw [putO_same]; exact fun z => nomatch z
      · rw [putO_ne h2]; exact R.dj j k hjk a ha
  · by_cases h : j = i
    · subst h; rw [putO_same] at ha; cases ha
    · rw [putO_ne h] at ha
      rintro (q | q)
      · exact R.sep j a ha q
      · exact R.dj j i h a ha q
  · rcases q with q | q
    · exact R.trA a q
    · exact R.trO i a q
  · by_cases h : j = i
    · subst h; rw [putO_same] at ha; cases ha
    · rw [putO_ne h] at ha; exact R.trO j a ha
  · rcases q with q | q
    · exact .inl (.inl q)
    · exact .inr ⟨hf, i, q⟩
  · rintro a ⟨j, ha⟩
    by_cases h : j = i
    · subst h; rw [putO_same] at ha; cases ha
    · rw [putO_ne h] at ha; exact .inr ⟨j, ha⟩
theorem grow_stp {A1 : AS} {fl : Bool} (e : Ex H H1) (hA : ∀ a, A1 a → Nw A H a) (tr : ∀ a, A a → H a ≠ none) (ho : ∀ a, ownS O1 a → ownS O a) : Stp fl A O H (fun a => (A a ∨ A1 a) ∧ H1 a ≠ none) O1 H1 :=
  ⟨chg_of e, fun a q => q.1.elim (fun k => .inl (.inl k)) fun k => .inl (hA a k), fun a q => .inr (ho a q), fun a q => ⟨.inl q, fun z => tr a q (e.back z)⟩⟩
end
end MP
/-! part r: statements: the single forms. -/
namespace MP
open PySem PySem.Spec PyProof.Rows L2
theorem PS.weak {X : Cx} {e : Stmt} {t t' : TS} (h : PS X e t) (w : ∀ T σ H, t' T σ H → t T σ H) : PS X e t' := ⟨fun pins s σ H T I q => h.run pins s σ H T I (w T σ H q)⟩
theorem PSs.weak {X : Cx} {e : List Stmt} {t t' : TS} (h : PSs X e t) (w : ∀ T σ H, t' T σ H → t T σ H) : PSs X e t' := ⟨fun pins s σ H T I q => h.run pins s σ H T I (w T σ H q)⟩
section
variable (W : Wd) (n : Nat) (E : XK) (C : FC) (Γ Γn : List Sh) (Γl : Option (List Sh))
def semS (s : MP.S) : TS := fun T σ H => ∃ ρ A O, RelA W C Γ A O ρ σ H ∧ okS W E O H (exS (callF W.P n) s ρ) (PostS W C Γn Γl A O H T)
def semSs (s : Ss) : TS := fun T σ H => ∃ ρ A O, RelA W C Γ A O ρ σ H ∧ okS W E O H (exSs (callF W.P n) s ρ) (PostS W C Γn Γl A O H T)
end
section
variable {W : Wd} {n : Nat} {E : XK} {C : FC} {st : Stc} {Γ Γn : List Sh} {Γl : Option (List Sh)} {X : Cx}
theorem okS_if {O : Nat → List Addr} {H : Hp} {c : Prop} [Decidable c] {x : Rs Fl} {q : Fl → Prop} (h : okS W E O H (if c then x else .bad) q) : c ∧ okS W E O H x q := by
  by_cases hc : c
  · rw [if_pos hc] at h; exact ⟨hc, h⟩
  · rw [if_neg hc] at h; exact h.elim
theorem set_sem {i : Nat} {s : Sh} {e : MP.E} (hi : i < st.Γ.length) (hp : sh C.pm i = .fz) {T : Ends} {σ : L2.St} {H : Hp} (h : semS W n E C st.Γ (st.Γ.set i s) Γl (.set i s e) T σ H) :
    semE W n E st (.st s) e σ H fun x H1 => T.nx (σ.set i (some x)) H1 := by
  obtain ⟨ρ, A, O, R, h⟩ := h
  unfold exS at h
  refine ⟨ρ, A, _, R.toF, okS_P h fun d ed h1 => ?_⟩
  obtain ⟨hs, h1⟩ := okS_if h1
  refine ⟨hs, fun v H1 as A1 e1 hA ow nd fr => ?_⟩
  obtain ⟨A', O', R', S⟩ := R.put e1 hA ow nd fr hi hp
  exact h1 _ _ _ _ R' S
theorem sw_eq {elt : Expr} {gs : List Comprehension} {scope : Scope} {pos py : Pos} {y : Str} {l : Nat} {env : PySem.Env} :
    swapsWith (.ListComp elt gs scope pos) (some (.Name y py)) l env = pure (env.blockKind == .function && env.kindOf y == some .local && py.line == pos.line && !(scope.names.any fun (n, k) => n == y && (k == .local || k == .cell))) := rfl
def isLc : Expr → Bool
  | .ListComp _ _ _ _ => true
  | .SetComp _ _ _ _ => true
  | .DictComp _ _ _ _ _ => true
  | _ => false
theorem sw_none {e : Expr} (h : isLc e = false) (t : Option Expr) (l : Nat) (env : PySem.Env) : swapsWith e t l env = pure false := by
  cases e <;> first | rfl | cases h
theorem sw_tup {e : Expr} {ts : List Expr} {k : Nat} {p : Pos} (l : Nat) (env : PySem.Env) : swapsWithSole [.Tuple ts k p] e l env = pure false := by
  cases e <;> rfl
theorem ps_set_ (g : Gd W n st E X) {i : Nat} {s : Sh} {ir : MP.E} {x : Str} {e : Expr} {px pos : Pos} (hl : locB st i x = true) (hi : i < st.Γ.length) (hp : sh C.pm i = .fz) (he : PE X e (semE W n E st (.st s) ir)) (hs : swapsWith e (some (.Name x px)) pos.line X.env = pure false) :
    PS X (.Assign [.Name x px] e pos) (semS W n E C st.Γ (st.Γ.set i s) Γl (.set i s ir)) := by
  obtain ⟨h1, h2, h3⟩ := locB_ok g hl
  exact PS.weak (ps_set (by rw [g.N]; exact g.nd) h1 h2 he hs h3) fun T σ H h => set_sem hi hp h
/-- name = [..], the name a local, on one line -/
theorem ps_set_lc (g : Gd W n st E X) (wk : Wk W n) {i : Nat} {s s1 : Sh} {x : Str} {elt : MP.E} {tg : Tg} {it : MP.It} {ci : Eo} {vs : List Nat} {ee et ei : Expr} {ifs : List Expr} {scope : Scope} {px pos pos' : Pos} (hl : decide (st.N[i]? = some x) = true) (hlk : st.sc.names.lookup x = some .local) (hi : i < st.Γ.length) (hp : sh C.pm i = .fz)
    (hsw : ((if st.sc.kind.isAnnotationScope then ScopeKind.function else st.sc.kind) == .function && px.line == pos.line && !(scope.names.any fun (n, k) => n == x && (k == .local || k == .cell))) = true)
    (hm : elS (mdS (.st s)) = some s1)
    (hb : blkC st.N st.sc scope (ownOf st.N vs) = true) (ht : okTg (inner st scope) tg et = true) (hti : (tgIx tg).all (fun i => vs.contains i) = true) (hv : vs.all (fun i => decide (sh st.Γ i = .fz)) = true) (hs : isSet ei = false)
    (pi : PI X et ei (semI W n E st false it)) (pc : ∀ X', Gd W n (inner st scope) E0 X' → PTs X' ifs (semC W n E0 (inner st scope) ci)) (pe : ∀ X', Gd W n (inner st scope) E0 X' → PE X' ee (semE W n E0 (inner st scope) (.st s1) elt)) :
    PS X (.Assign [.Name x px] (.ListComp ee [⟨et, ei, ifs, 0⟩] scope pos) pos') (semS W n E C st.Γ (st.Γ.set i s) Γl (.set i s (.lc elt tg it ci vs))) := by
  have hsw' : swapsWith (.ListComp ee [⟨et, ei, ifs, 0⟩] scope pos) (some (.Name x px)) pos'.line X.env = pure true := by
    rw [sw_eq]
    unfold Env.blockKind Env.kindOf
    rw [g.sc, hlk]
    obtain ⟨h1, h2⟩ := shp2' hsw
    obtain ⟨h1, h3⟩ := shp2' h1
    rw [h1, h2, h3]
    rfl
  refine PS.weak (ps_setLc (g := gD W.K tg) (own := ownOf st.N vs) g.calm (by rw [g.N]; exact g.nd) (by rw [g.N]; exact of_decide_eq_true hl) (by rw [g.sc]; exact hlk) hsw' pi (by rw [g.N, g.sc]; exact blkOk_by hb) (fun s H C cl fp => pg_tg (gd_blk g wk s H scope C cl fp) tg et ht)
    (fun s H C cl fp => pc _ (gd_blk g wk s H scope C cl fp)) (fun s H C cl fp => pe _ (gd_blk g wk s H scope C cl fp)) (not_set hs X.env)) ?_
  intro T σ H h
  rw [own_ix]
  exact lc_sem hm (fun i q => by simpa using List.all_eq_true.mp hti i q) (fun i q => of_decide_eq_true (List.all_eq_true.mp hv i q)) (set_sem hi hp h)
/-! several names -/
theorem bind_exc {α β : Type} {x : Rs α} {f : α → Rs β} {c : Str} (h : (x >>= f) = .exc c) : x = .exc c ∨ ∃ a, x = .ok a ∧ f a = .exc c := by
  cases x with
  | ok a => exact .inr ⟨a, rfl, h⟩
  | exc c' => cases h; exact .inl rfl
  | bad => cases h
theorem asg_exc : ∀ (tg : Tg) (d : D) (ρ : En) {c : Str}, asg tg d ρ ≠ .exc c
  | .nm i, d, ρ, c => fun h => by unfold asg at h; cases h
  | .t2 a b, d, ρ, c => fun h => by
    cases d <;> first | (unfold asg at h; cases h; done) | skip
    rename_i xs
    match xs, h with
    | [], h => unfold asg at h; cases h
    | [_], h => unfold asg at h; cases h
    | [x, y], h =>
      unfold asg at h
      rcases bind_exc h with h | ⟨r, _, h⟩
      · exact asg_exc a _ _ h
      · exact asg_exc b _ _ h
    | _ :: _ :: _ :: _, h => unfold asg at h; cases h
  | .t3 a b c', d, ρ, c => fun h => by
    cases d <;> first | (unfold asg at h; cases h; done) | skip
    rename_i xs
    match xs, h with
    | [], h => unfold asg at h; cases h
    | [_], h => unfold asg at h; cases h
    | [_, _], h => unfold asg at h; cases h
    | [x, y, z], h =>
      unfold asg at h
      rcases bind_exc h with h | ⟨r, _, h⟩
      · rcases bind_exc h with h | ⟨r, _, h⟩
        · exact asg_exc a _ _ h
        · exact asg_exc b _ _ h
      · exact asg_exc c' _ _ h
    | _ :: _ :: _ :: _ :: _, h => unfold asg at h; cases h
  | .t4 a b c' e, d, ρ, c => fun h => by
    cases d <;> first | (unfold asg at h; cases h; done) | skip
    rename_i xs
    match xs, h with
    | [], h => unfold asg at h; cases h
    | [_], h => unfold asg at h; cases h
    | [_, _], h => unfold asg at h; cases h
    | [_, _, _], h => unfold asg at h; cases h
    | [x, y, z, u], h =>
      unfold asg at h
      rcases bind_exc h with h | ⟨r, _, h⟩
      · rcases bind_exc h with h | ⟨r, _, h⟩
        · rcases bind_exc h with h | ⟨r, _, h⟩
          · exact asg_exc a _ _ h
          · exact asg_exc b _ _ h
        · exact asg_exc c' _ _ h
      · exact asg_exc e _ _ h
    | _ :: _ :: _ :: _ :: _ :: _, h => unfold asg at h; cases h
theorem un_sem' (g : Gd W n st E X) {tg : Tg} {e : MP.E} (hg : (tgIx tg).all (fun i => decide (sh st.Γ i = .fz) && decide (sh C.pm i = .fz)) = true) {T : Ends} {σ : L2.St} {H : Hp} (h : semS W n E C st.Γ st.Γ Γl (.un tg e) T σ H) :
    semE W n E st (.st .fz) e σ H fun x H1 => gD W.K tg x σ H1 T.nx := by
  obtain ⟨ρ, A, O, R, h⟩ := h
  unfold exS at h
  refine ⟨ρ, A, _, R.toF, okS_P h fun d ed h1 => ⟨shOk_fz d, fun v H1 as A1 e1 hA ow nd fr => ?_⟩⟩
  cases ea : asg tg d ρ with
  | bad => rw [ea] at h1; exact h1.elim
  | exc c =>
    exact absurd ea (asg_exc tg d ρ)
  | ok ρ' =>
    rw [ea] at h1
    refine ⟨A1, d, ρ, ρ', ow.fzD.2, R.len, ea, fun σ' s => ?_⟩
    have no : ∀ a, A1 a → ¬ ownS O a := by
      rintro a k ⟨j, hj⟩
      rcases hA a k with k | k
      · exact R.sep j a hj k
      · exact R.trO j a hj k
    obtain ⟨O', R', q⟩ := R.puts (A2 := fun _ => False) e1 (fun a k t => ⟨no a k, .inl (hA a k)⟩) s (fun i hi => of_decide_eq_true (shp2' (List.all_eq_true.mp hg i hi)).1) fun i hi => of_decide_eq_true (shp2' (List.all_eq_true.mp hg i hi)).2
    exact h1 _ _ _ _ R' (grow_stp e1 hA R.trA q)
def isTupE : Expr → Option (List Expr)
  | .Tuple xs _ _ => some xs
  | _ => none
/-- the stores are not swapped -/
def noSwap (sc : Scope) (ts : List Expr) (value : Expr) : Bool := match value with
  | .Tuple vs _ _ => !(ts.length == 2 || ts.length == 3) || vs.length != ts.length || ((ts.filterMap fun
    | .Name id pos => if sc.names.lookup id == some .local && pos.line == (ts.head?.map (·.pos.line)).getD 0 then some id else none
    | _ => none).length != ts.length)
  | _ => true
theorem noSwap_ok (env : PySem.Env) {ts : List Expr} {k : Nat} {p : Pos} {value : Expr} (h : noSwap env.scope ts value = true) : swappedStores [.Tuple ts k p] value env = pure none := by
  cases value <;> first | rfl | skip
  rename_i vs k2 p2
  unfold noSwap at h
  simp only at h
  unfold swappedStores
  simp only
  by_cases h1 : (!(ts.length == 2 || ts.length == 3) || vs.length != ts.length || env.blockKind != .function) = true
  · rw [if_pos h1]
  · rw [if_neg h1]
    split
    · rfl
    · have h3 : ((ts.filterMap fun
    | .Name id pos => if env.kindOf id == some .local && pos.line == (ts.head?.map (·.pos.line)).getD 0 then some id else none
    | _ => none).length != ts.length) = true := by
        simp only [Bool.or_eq_true] at h h1
        rcases h with (h | h) | h
        · exact absurd (.inl (.inl h)) h1
        · exact absurd (.inl (.inr h)) h1
        · exact h
      split
      · rfl
      · rename_i h5
        exact absurd (Bool.or_eq_true _ _ |>.mpr (.inl h3)) h5
theorem ps_un_ (g : Gd W n st E X) {tg : Tg} {ir : MP.E} {ts : List Expr} {k : Nat} {p pos : Pos} {e : Expr} (ht : okTg st tg (.Tuple ts k p) = true) (hg : (tgIx tg).all (fun i => decide (sh st.Γ i = .fz) && decide (sh C.pm i = .fz)) = true)
    (hn : noSwap st.sc ts e = true) (he : PE X e (semE W n E st (.st .fz) ir)) : PS X (.Assign [.Tuple ts k p] e pos) (semS W n E C st.Γ st.Γ Γl (.un tg ir)) :=
  PS.weak (ps_asg he (pg_tg g tg _ ht) (sw_tup pos.line X.env) (noSwap_ok X.env (by rw [g.sc]; exact hn)) rfl) fun T σ H h => un_sem' g hg h
/-! small ones -/
theorem RelA.grow {ρ : En} {σ : L2.St} {A A1 : AS} {O : Nat → List Addr} {H H1 : Hp} (R : RelA W C Γ A O ρ σ H) (e : Ex H H1) (hA : ∀ a, A1 a → H1 a ≠ none → ¬ ownS O a) : RelA W C Γ (fun a => (A a ∨ A1 a) ∧ H1 a ≠ none) O ρ σ H1 := by
  refine ⟨R.len, fun j d hd => ?_, R.nd, R.dj, fun j a ha => ?_, fun a q => q.2, fun j a ha => fun z => R.trO j a ha (e.back z), R.pin⟩
  · obtain ⟨v, hv, o⟩ := R.at_ j d hd
    exact ⟨v, hv, o.mono (fun a q t => ⟨.inl q, fun z => t (e.back z)⟩) (fun a o _ q => e a o q) fun a _ o q => e a o q⟩
  · rintro ⟨q | q, t⟩
    · exact R.sep j a ha q
    · exact hA a q t ⟨j, ha⟩
theorem RelA.new_own {ρ : En} {σ : L2.St} {A A1 : AS} {O : Nat → List Addr} {H : Hp} (R : RelA W C Γ A O ρ σ H) (hA : ∀ a, A1 a → Nw A H a) : ∀ a, A1 a → ¬ ownS O a := by
  rintro a q ⟨j, hj⟩
  rcases hA a q with k | k
  · exact R.sep j a hj k
  · exact R.trO j a hj k
theorem RelA.ret {ρ : En} {σ : L2.St} {A : AS} {O : Nat → List Addr} {H : Hp} (R : RelA W C Γ A O ρ σ H) : (∀ i, sh C.pm i ≠ .fz → ∃ d v, ρ[i]? = some (some d) ∧ C.vs[i]? = some v ∧ Ow W.K A H (sh C.pm i) v d (O i)) := by
  intro i hi
  obtain ⟨p1, d, v, p2, p3, p4⟩ := R.pin i hi
  obtain ⟨w, hw, o⟩ := R.at_ i d p2
  rw [p4] at hw
  cases hw
  rw [p1] at o
  exact ⟨d, v, p2, p3, o⟩
theorem ps_ret_ {ir : MP.E} {e : Expr} {pos : Pos} (he : PE X e (semE W n E st (.st C.rs) ir)) : PS X (.Return (some e) pos) (semS W n E C st.Γ Γn Γl (.ret ir)) := by
  refine PS.weak (ps_ret he) ?_
  rintro T σ H ⟨ρ, A, O, R, h⟩
  unfold exS at h
  refine ⟨ρ, A, _, R.toF, okS_P h fun d ed h1 => ⟨h1.1, fun v H1 as A1 e1 hA ow nd fr => ?_⟩⟩
  have no := R.new_own hA
  have R1 := R.grow e1 (A1 := A1) fun a q _ => no a q
  refine h1.2 v H1 _ O as (grow_stp e1 hA R.trA fun _ q => q) ⟨ow.mono (fun a q t => ⟨.inr q, t⟩) (fun _ _ _ q => q) fun _ _ _ q => q, nd, fun a ha => ⟨?_, ?_⟩, R1.ret, R1.nd, R1.dj, R1.sep⟩ fun a ha => .inl (fr a ha).1
  · rintro ⟨q | q, _⟩
    · exact R.trA a q (fr a ha).1
    · exact (fr a ha).2 q
  · rintro ⟨j, q⟩
    exact R.trO j a q (fr a ha).1
theorem ps_retN_ {pos : Pos} : PS X (.Return none pos) (semS W n E C Γ Γn Γl .retN) := by
  refine PS.weak ps_retN ?_
  rintro T σ H ⟨ρ, A, O, R, h⟩
  unfold exS at h
  have h : shOk C.rs .none = true ∧ _ := h
  have hr : C.rs = .fz := by
    have q := h.1
    generalize C.rs = s at q
    cases s with
    | fz => rfl
    | _ => unfold shOk at q; cases q
  refine h.2 .non H A O [] Stp.refl ⟨?_, List.nodup_nil, fun _ q => (by cases q), R.ret, R.nd, R.dj, R.sep⟩ fun _ q => (by cases q)
  rw [hr]
  exact .fz .non
/-- an owned value is given back -/
theorem ps_retv_ (g : Gd W n st E X) {i : Nat} {x : Str} {px pos : Pos} (hx : nmB st i x = true) (hs : sh st.Γ i = C.rs) (hf : C.fl = true) : PS X (.Return (some (.Name x px)) pos) (semS W n E C st.Γ Γn Γl (.retv i)) := by
  unfold nmB at hx
  obtain ⟨h1, h3⟩ := shp2' hx
  obtain ⟨h1, h4⟩ := shp2' h1
  obtain ⟨h1, h5⟩ := shp2' h1
  have vis : Vis X.env.scope x := by rw [g.sc]; exact visB_ok h5
  refine PS.weak (ps_ret (pe_var (i := i) (by rw [g.N]; exact of_decide_eq_true h1) vis (not_dbg h4) (by simpa using h3))) ?_
  rintro T σ H ⟨ρ, A, O, R, h⟩
  unfold exS at h
  unfold get at h
  split at h
  · rename_i d hd
    have h : shOk C.rs d = true ∧ _ := h
    obtain ⟨v, hv, o⟩ := R.at_ i d hd
    rw [hs] at o
    refine ⟨v, hv, h.2 v H A (fun _ => []) (O i) ⟨chg_of (Ex.refl H), fun a q => .inl (.inl q), fun a ⟨_, q⟩ => (by cases q), fun _ q => q⟩ ⟨o, R.nd i, fun a ha => ⟨R.sep i a ha, fun ⟨_, q⟩ => (by cases q)⟩, fun j hj => absurd (allFz_sh hf j) hj, fun _ => List.nodup_nil, fun _ _ _ _ q => (by cases q), fun _ _ q => (by cases q)⟩ fun a ha => .inr ⟨hf, i, ha⟩⟩
  · exact h.elim
theorem ps_pas_ {pos : Pos} : PS X (.Pass pos) (semS W n E C Γ Γ Γl .pas) := by
  refine PS.weak ps_pass ?_
  rintro T σ H ⟨ρ, A, O, R, h⟩
  unfold exS at h
  exact h _ _ _ _ R Stp.refl
theorem ps_brk_ {pos : Pos} : PS X (.Break pos) (semS W n E C Γ Γn (some Γ) .brk) := by
  refine PS.weak ps_break ?_
  rintro T σ H ⟨ρ, A, O, R, h⟩
  unfold exS at h
  have h : LpG W C (some Γ) A O H ρ T.bk := h
  exact h _ _ _ _ R Stp.refl
theorem ps_cnt_ {pos : Pos} : PS X (.Continue pos) (semS W n E C Γ Γn (some Γ) .cnt) := by
  refine PS.weak ps_continue ?_
  rintro T σ H ⟨ρ, A, O, R, h⟩
  unfold exS at h
  have h : LpG W C (some Γ) A O H ρ T.ct := h
  exact h _ _ _ _ R Stp.refl
theorem ps_ex_ {ir : MP.E} {e : Expr} {pos : Pos} (he : PE X e (semE W n E st .op ir)) (hs : isLc e = false) : PS X (.Expr e pos) (semS W n E C st.Γ st.Γ Γl (.ex ir)) := by
  refine PS.weak (ps_expr he (sw_none hs none pos.line X.env)) ?_
  rintro T σ H ⟨ρ, A, O, R, h⟩
  unfold exS at h
  refine ⟨ρ, A, _, R.toF, okS_P h fun d ed h1 => ⟨rfl, fun v H1 e1 s => ?_⟩⟩
  exact h1 _ _ _ _ (R.grow (A1 := fun _ => False) e1 fun a q => q.elim) (grow_stp e1 (fun _ q => q.elim) R.trA fun _ q => q)
/-! one after another -/
theorem pss_nil_ : PSs X [] (semSs W n E C Γ Γ Γl .nil) := by
  refine PSs.weak pss_nil ?_
  rintro T σ H ⟨ρ, A, O, R, h⟩
  unfold exSs at h
  exact h _ _ _ _ R Stp.refl
theorem pss_cons_ {Γ1 : List Sh} {s : MP.S} {r : Ss} {x : Stmt} {xs : List Stmt} (h1 : PS X x (semS W n E C Γ Γ1 Γl s)) (h2 : PSs X xs (semSs W n E C Γ1 Γn Γl r)) : PSs X (x :: xs) (semSs W n E C Γ Γn Γl (.cons s r)) := by
  refine PSs.weak (pss_cons h1 h2) ?_
  rintro T σ H ⟨ρ, A, O, R, h⟩
  unfold exSs at h
  refine ⟨ρ, A, O, R, ?_⟩
  cases es : exS (callF W.P n) s ρ with
  | bad => rw [es] at h; exact h.elim
  | exc c => rw [es] at h; exact h
  | ok f =>
    rw [es, ok_bind] at h
    cases f with
    | nx ρ' => exact fun σ' H' A' O' R' S => ⟨ρ', A', O', R', okS.step h S⟩
    | brk ρ' => exact h
    | cnt ρ' => exact h
    | ret d ρ' => exact h
theorem pss_fz_ {i : Nat} {r : Ss} {xs : List Stmt} (hi : i < Γ.length) (hf : C.fl = true) (h2 : PSs X xs (semSs W n E C (Γ.set i .fz) Γn Γl r)) : PSs X xs (semSs W n E C Γ Γn Γl (.cons (.fz i) r)) := by
  refine PSs.weak h2 ?_
  rintro T σ H ⟨ρ, A, O, R, h⟩
  unfold exSs exS at h
  obtain ⟨A', O', R', S⟩ := R.fz hi hf
  exact ⟨ρ, A', O', R', okS.step h S⟩
/-! falling through -/
mutual
def falls : MP.S → Bool
  | .ret _ => false
  | .retv _ => false
  | .retN => false
  | .brk => false
  | .cnt => false
  | .ifs _ a b => fallsS a || fallsS b
  | _ => true
def fallsS : Ss → Bool
  | .nil => true
  | .cons s r => falls s && fallsS r
end
mutual
theorem falls_ok {cf : CF} : ∀ (s : MP.S) (ρ ρ' : En), falls s = false → exS cf s ρ ≠ .ok (.nx ρ')
  | .ret e, ρ, ρ', h, z => by
    unfold exS at z
    obtain ⟨d, _, z⟩ := bind_eq_ok z
    cases z
  | .retv e, ρ, ρ', h, z => by
    unfold exS at z
    obtain ⟨d, _, z⟩ := bind_eq_ok z
    cases z
  | .retN, ρ, ρ', h, z => by unfold exS at z; cases z
  | .brk, ρ, ρ', h, z => by unfold exS at z; cases z
  | .cnt, ρ, ρ', h, z => by unfold exS at z; cases z
  | .ifs c a b, ρ, ρ', h, z => by
    unfold exS at z
    obtain ⟨d, _, z⟩ := bind_eq_ok z
    obtain ⟨t, _, z⟩ := bind_eq_ok z
    unfold falls at h
    rw [Bool.or_eq_false_iff] at h
    cases t with
    | true => exact fallsS_ok a ρ ρ' h.1 z
    | false => exact fallsS_ok b ρ ρ' h.2 z
  | .set _ _ _, _, _, h, _ => by unfold falls at h; cases h
  | .un _ _, _, _, h, _ => by unfold falls at h; cases h
  | .par _ _ _ _, _, _, h, _ => by unfold falls at h; cases h
  | .mu _ _ _ _, _, _, h, _ => by unfold falls at h; cases h
  | .si _ _ _, _, _, h, _ => by unfold falls at h; cases h
  | .par2 _ _ _ _ _, _, _, h, _ => by unfold falls at h; cases h
  | .aug _ _ _, _, _, h, _ => by unfold falls at h; cases h
  | .appPop _ _ _, _, _, h, _ => by unfold falls at h; cases h
  | .ex _, _, _, h, _ => by unfold falls at h; cases h
  | .for_ _ _ _, _, _, h, _ => by unfold falls at h; cases h
  | .whl _ _, _, _, h, _ => by unfold falls at h; cases h
  | .pas, _, _, h, _ => by unfold falls at h; cases h
  | .fz _, _, _, h, _ => by unfold falls at h; cases h
theorem fallsS_ok {cf : CF} : ∀ (s : Ss) (ρ ρ' : En), fallsS s = false → exSs cf s ρ ≠ .ok (.nx ρ')
  | .nil, _, _, h, _ => by unfold fallsS at h; cases h
  | .cons s r, ρ, ρ', h, z => by
    unfold exSs at z
    obtain ⟨f, hf, z⟩ := bind_eq_ok z
    unfold fallsS at h
    rw [Bool.and_eq_false_iff] at h
    cases f with
    | nx ρ1 =>
      rcases h with h | h
      · exact falls_ok s ρ ρ1 h hf
      · exact fallsS_ok r ρ1 ρ' h z
    | brk _ => cases z
    | cnt _ => cases z
    | ret _ _ => cases z
end
/-- a suite's end, read otherwise -/
theorem ends_mono {Γa Γb : List Sh} {r : Rs Fl} {A : AS} {O : Nat → List Addr} {H : Hp} {T : Ends} (h : okS W E O H r (PostS W C Γa Γl A O H T)) (q : Γa = Γb ∨ ∀ ρ, r ≠ .ok (.nx ρ)) : okS W E O H r (PostS W C Γb Γl A O H T) := by
  rcases q with rfl | q
  · exact h
  · cases r with
    | bad => exact h
    | exc c => exact h
    | ok f =>
      cases f with
      | nx ρ => exact absurd rfl (q ρ)
      | brk _ => exact h
      | cnt _ => exact h
      | ret _ _ => exact h
theorem ps_if_ {c : MP.E} {a b : Ss} {Γa Γb : List Sh} {ec : Expr} {xa xb : List Stmt} {pos : Pos} (hc : PT X ec (semT W n E st c)) (ha : PSs X xa (semSs W n E C st.Γ Γa Γl a)) (hb : PSs X xb (semSs W n E C st.Γ Γb Γl b))
    (qa : Γn = Γa ∨ fallsS a = false) (qb : Γn = Γb ∨ fallsS b = false) : PS X (.If ec xa xb pos) (semS W n E C st.Γ Γn Γl (.ifs c a b)) := by
  refine PS.weak (ps_if hc ha hb) ?_
  rintro T σ H ⟨ρ, A, O, R, h⟩
  unfold exS at h
  refine ⟨ρ, A, _, R.toF, okS_G h fun d ed h1 => okS_G h1 fun t et h2 H1 e1 => ?_⟩
  have R1 := R.grow (A1 := fun _ => False) e1 fun a q => q.elim
  have S : Stp C.fl A O H (fun a => (A a ∨ False) ∧ H1 a ≠ none) O H1 := grow_stp (A1 := fun _ => False) e1 (fun _ q => q.elim) R.trA fun _ q => q
  have h2 := okS.step h2 S
  cases t with
  | true => exact ⟨ρ, _, O, R1, ends_mono h2 (qa.imp id fun q ρ' => fallsS_ok a ρ ρ' q)⟩
  | false => exact ⟨ρ, _, O, R1, ends_mono h2 (qb.imp id fun q ρ' => fallsS_ok b ρ ρ' q)⟩
end
end MP
/-! part s: loops. -/
namespace MP
open PySem PySem.Spec PyProof.Rows L2
section
variable {W : Wd} {n : Nat} {E : XK} {C : FC} {st : Stc} {Γ Γn : List Sh} {Γl : Option (List Sh)} {X : Cx}
theorem forL_cons {x : D} {xs : List D} {f : D → En → Rs Fl} {ρ : En} : forL (x :: xs) f ρ = f x ρ >>= fun fl => match fl with
    | .nx ρ' => forL xs f ρ'
    | .cnt ρ' => forL xs f ρ'
    | .brk ρ' => .ok (.nx ρ')
    | .ret d ρ' => .ok (.ret d ρ') := rfl
/-- a loop's state -/
structure LpI (W : Wd) (E : XK) (C : FC) (Γ Γn : List Sh) (Γl : Option (List Sh)) (T : Ends) (G : AS) (H1 : Hp) (r : En → Rs Fl) (σ : L2.St) (H : Hp) : Prop where
  kp : Kp G H1 H
  ex : ∃ ρ A O, RelA W C Γ A O ρ σ H ∧ okS W E O H (r ρ) (PostS W C Γn Γl A O H T) ∧ ∀ a, G a → A a
theorem kp_stp {G A A' : AS} {O O' : Nat → List Addr} {H1 H H' : Hp} {fl : Bool} (k : Kp G H1 H) (s : Stp fl A O H A' O' H') (hG : ∀ a, G a → A a) (sep : ∀ i, ∀ a ∈ O i, ¬ A a) : Kp G H1 H' := fun a o q e =>
  s.chg.keep a o (k a o q e) fun ⟨i, hi⟩ => sep i a hi (hG a q)
/-- the body's end, within a loop -/
theorem lp_post {T : Ends} {G : AS} {H1 H : Hp} {A : AS} {O : Nat → List Addr} {Γb : List Sh} {fl : Fl} {r : En → Rs Fl} {N : L2.St → Hp → Prop} (k : Kp G H1 H) (hG : ∀ a, G a → A a) (sep : ∀ i, ∀ a ∈ O i, ¬ A a) 
    (h : okS W E O H (match fl with
      | .nx ρ' => r ρ'
      | .cnt ρ' => r ρ'
      | .brk ρ' => .ok (.nx ρ')
      | .ret d ρ' => .ok (.ret d ρ')) (PostS W C Γ Γl A O H T)) (hb : Γb = Γ ∨ ∀ ρ, fl ≠ .nx ρ) (hN : ∀ σ' H', LpI W E C Γ Γ Γl T G H1 r σ' H' → N σ' H') :
    PostS W C Γb (some Γ) A O H { T with nx := N, ct := N, bk := T.nx } fl := by
  cases fl with
  | nx ρ =>
    have e : Γb = Γ := hb.resolve_right fun z => z ρ rfl
    subst e
    exact fun σ' H' A' O' R S => hN σ' H' ⟨kp_stp k S hG sep, ρ, A', O', R, okS.step h S, fun a q => S.mon a (hG a q)⟩
  | cnt ρ => exact fun σ' H' A' O' R S => hN σ' H' ⟨kp_stp k S hG sep, ρ, A', O', R, okS.step h S, fun a q => S.mon a (hG a q)⟩
  | brk ρ => exact fun σ' H' A' O' R S => h σ' H' A' O' R S
  | ret d ρ => exact ⟨h.1, fun v H' A' O' as S => h.2 v H' A' O' as S⟩
theorem ps_for_ (g : Gd W n st E X) (po : PassesOwn (model X.prog X.w) X.A X.env X.xe) {tg : Tg} {it : MP.It} {b : Ss} {Γb : List Sh} {et ei : Expr} {xb : List Stmt} {pos : Pos} (ht : okTg st tg et = true) (hg : (tgIx tg).all (fun i => decide (sh st.Γ i = .fz) && decide (sh C.pm i = .fz)) = true)
    (hs : isSet ei = false) (pi : PI X et ei (semI W n E st true it)) (pb : PSs X xb (semSs W n E C st.Γ Γb (some st.Γ) b)) (hb : Γb = st.Γ ∨ fallsS b = false) : PS X (.For et ei xb [] pos) (semS W n E C st.Γ st.Γ Γl (.for_ tg it b)) := by
  refine PS.weak (ps_for po g.calm pi (pg_tg g tg et ht) pb (not_set hs X.env)) ?_
  rintro T σ H ⟨ρ, A, O, R, h⟩
  unfold exS at h
  refine ⟨ρ, A, _, R.toF, okS_G h fun ds ed h1 hl J H1 G A1 e1 hA1 hG wd => ?_⟩
  obtain ⟨Y, w, wy⟩ := wd
  have hAG : ∀ a, A1 a ∨ G a → Nw A H a := fun a q => q.elim (fun q => (hA1 a q).1) fun q => (hG a q).2 rfl
  have tAG : ∀ a, A1 a ∨ G a → H1 a ≠ none := fun a q => q.elim (fun q => (hA1 a q).2) fun q => (hG a q).1
  have R1 := R.grow (A1 := fun a => A1 a ∨ G a) e1 fun a q _ => R.new_own hAG a q
  have S1 : Stp C.fl A O H (fun a => (A a ∨ (A1 a ∨ G a)) ∧ H1 a ≠ none) O H1 := grow_stp e1 hAG R.trA fun _ q => q
  refine for_it w (fun i σ' H' => LpI W E C st.Γ st.Γ Γl T (fun a => A1 a ∨ G a) H1 (fun ρ' => forL (ds.drop i) (fun x ρ' => asg tg x ρ' >>= fun ρ2 => exSs (callF W.P n) b ρ2) ρ') σ' H') ?_ ?_ ?_ ?_
  · exact ⟨fun _ _ _ e => e, ρ, _, O, R1, okS.step h1 S1, fun a q => ⟨.inr q, tAG a q⟩⟩
  · exact fun i σ' H' _ p a o q e => p.kp a o (.inr q) e
  · rintro i x σ' H' H2 hi ⟨kp, ρ', A', O', R', h2, hGA⟩ y
    obtain ⟨e2, d, hd, rx⟩ := wy i H' x H2 hi (fun a o q e => kp a o (.inr q) e) y
    obtain ⟨hi', ed'⟩ := List.getElem?_eq_some_iff.mp hd
    rw [List.drop_eq_getElem_cons hi', ed', forL_cons] at h2
    cases ea : asg tg d ρ' with
    | bad => rw [ea] at h2; exact h2.elim
    | exc c => exact absurd ea (asg_exc tg d ρ')
    | ok ρ2 =>
      rw [ea, ok_bind] at h2
      refine ⟨_, d, ρ', ρ2, rx, R'.len, ea, fun σ2 s => ?_⟩
      have no : ∀ a, Nw A1 H' a → ¬ ownS O' a := by
        intro a k
        rcases k with k | k
        · exact fun ⟨j, hj⟩ => R'.sep j a hj (hGA a (.inl k))
        · exact fun ⟨j, hj⟩ => R'.trO j a hj k
      obtain ⟨O2, R2, q2⟩ := R'.puts (A2 := fun _ => True) e2 (fun a k t => ⟨no a k, .inr trivial⟩) s (fun i hi => of_decide_eq_true (shp2' (List.all_eq_true.mp hg i hi)).1) fun i hi => of_decide_eq_true (shp2' (List.all_eq_true.mp hg i hi)).2
      · have S2 : Stp C.fl A' O' H' (fun a => (A' a ∨ Nw A1 H' a) ∧ H2 a ≠ none) O2 H2 := grow_stp e2 (fun a q => q.elim (fun q => .inl (hGA a (.inl q))) .inr) R'.trA q2
        refine ⟨ρ2, _, O2, R2, ?_⟩
        have h3 := okS.step h2 S2
        cases eb : exSs (callF W.P n) b ρ2 with
        | bad => rw [eb] at h3; exact h3.elim
        | exc c => rw [eb] at h3; exact h3
        | ok fl =>
          rw [eb, ok_bind] at h3
          exact lp_post (r := fun ρ' => forL (ds.drop (i + 1)) (fun x ρ' => asg tg x ρ' >>= fun ρ2 => exSs (callF W.P n) b ρ2) ρ') (kp_stp kp S2 hGA R'.sep) (fun a q => S2.mon a (hGA a q)) R2.sep h3 (hb.imp id fun q ρ9 z => fallsS_ok b ρ2 ρ9 q (by rw [eb, z])) fun _ _ q => q
  · rintro σ' H' ⟨kp, ρ', A', O', R', h2, hGA⟩
    rw [List.drop_length] at h2
    exact h2 _ _ _ _ R' Stp.refl
theorem whileL_succ {c : En → Rs Bool} {f : En → Rs Fl} {m : Nat} {ρ : En} : whileL c f (m + 1) ρ = c ρ >>= fun t => if t then f ρ >>= fun fl => match fl with
      | .nx ρ' => whileL c f m ρ'
      | .cnt ρ' => whileL c f m ρ'
      | .brk ρ' => .ok (.nx ρ')
      | .ret d ρ' => .ok (.ret d ρ')
    else .ok (.nx ρ) := rfl
theorem ps_whl_ (g : Gd W n st E X) (po : PassesOwn (model X.prog X.w) X.A X.env X.xe) {c : MP.E} {b : Ss} {Γb : List Sh} {ec : Expr} {xb : List Stmt} {pos : Pos} (hc : PT X ec (semT W n E st c)) (pb : PSs X xb (semSs W n E C st.Γ Γb (some st.Γ) b)) (hb : Γb = st.Γ ∨ fallsS b = false) :
    PS X (.While ec xb [] pos) (semS W n E C st.Γ st.Γ Γl (.whl c b)) := by
  refine PS.weak (ps_while po hc pb) ?_
  rintro T σ H ⟨ρ, A, O, R, h⟩
  unfold exS at h
  refine ⟨fun m σ' H' => LpI W E C st.Γ st.Γ Γl T (fun _ => False) H (fun ρ' => whileL (fun ρ' => evE (callF W.P n) c ρ' >>= V1.tru) (fun ρ' => exSs (callF W.P n) b ρ') m ρ') σ' H', ⟨WF, fun _ _ q => q.elim, ρ, A, O, R, h, fun _ q => q.elim⟩, ?_⟩
  rintro m σ' H' ⟨kp, ρ', A', O', R', h2, hGA⟩
  cases m with
  | zero => exact h2.elim
  | succ m =>
    have h2 : okS W E O' H' (whileL (fun ρ' => evE (callF W.P n) c ρ' >>= V1.tru) (fun ρ' => exSs (callF W.P n) b ρ') (m + 1) ρ') (PostS W C st.Γ Γl A' O' H' T) := h2
    rw [whileL_succ, bind_assoc'] at h2
    refine ⟨ρ', A', _, R'.toF, okS_G h2 fun d ed h3 => okS_G h3 fun t et h4 H2 e2 => ?_⟩
    have R2 := R'.grow (A1 := fun _ => False) e2 fun a q => q.elim
    have S2 : Stp C.fl A' O' H' (fun a => (A' a ∨ False) ∧ H2 a ≠ none) O' H2 := grow_stp (A1 := fun _ => False) e2 (fun _ q => q.elim) R'.trA fun _ q => q
    have h4 := okS.step h4 S2
    cases t with
    | false => exact h4 _ _ _ _ R2 Stp.refl
    | true =>
      simp only [if_true] at h4 ⊢
      refine ⟨fun σ9 H9 => LpI W E C st.Γ st.Γ Γl T (fun _ => False) H (fun ρ' => whileL (fun ρ' => evE (callF W.P n) c ρ' >>= V1.tru) (fun ρ' => exSs (callF W.P n) b ρ') m ρ') σ9 H9, fun σ9 H9 q => ⟨m, Nat.lt_succ_self m, q⟩, ρ', _, O', R2, ?_⟩
      cases eb : exSs (callF W.P n) b ρ' with
      | bad => rw [eb] at h4; exact h4.elim
      | exc c => rw [eb] at h4; exact h4
      | ok fl =>
        rw [eb, ok_bind] at h4
        exact lp_post (G := fun _ => False) (r := fun ρ' => whileL (fun ρ' => evE (callF W.P n) c ρ' >>= V1.tru) (fun ρ' => exSs (callF W.P n) b ρ') m ρ') (fun _ _ q => q.elim) (fun _ q => q.elim) R2.sep h4 (hb.imp id fun q ρ9 z => fallsS_ok b ρ' ρ9 q (by rw [eb, z])) fun _ _ q => q
end
end MP
/-! part t: what changes a thing. -/
namespace MP
open PySem PySem.Spec PyProof.Rows L2
section
variable {W : Wd} {n : Nat} {E : XK} {C : FC} {st : Stc} {Γ Γn : List Sh} {Γl : Option (List Sh)} {X : Cx}
/-- an owned object of a slot is written -/
theorem RelA.mut {A A1 : AS} {O : Nat → List Addr} {ρ : En} {σ : L2.St} {H H1 : Hp} {i : Nat} {v : V} {d0 d' : D} {x : Addr} {u : HO} {as' : List Addr} {fl : Bool} (R : RelA W C Γ A O ρ σ H) (e : Ex H H1) (hA : ∀ a, A1 a → Nw A H a) (hd : ρ[i]? = some (some d0)) (hv : σ[i]? = some (some v)) (hx : x ∈ O i)
    (ow : Ow W.K (fun a => (A a ∨ A1 a) ∧ H1 a ≠ none) (upd H1 x u) (sh Γ i) v d' as') (nd : as'.Nodup) (fr : ∀ b ∈ as', (b ∈ O i ∨ H b = none) ∧ ¬ ((A b ∨ A1 b) ∧ H1 b ≠ none)) :
    RelA W C Γ (fun a => (A a ∨ A1 a) ∧ H1 a ≠ none) (putO O i as') (ρ.set i (some d')) σ (upd H1 x u) ∧ Stp fl A O H (fun a => (A a ∨ A1 a) ∧ H1 a ≠ none) (putO O i as') (upd H1 x u) := by
  have no := R.new_own hA
  have hlt : i < ρ.length := (List.getElem?_eq_some_iff.mp hd).1
  have up : ∀ a, a ≠ x → upd H1 x u a = H1 a := fun a h => upd_ne h
  refine ⟨⟨by simp [R.len], fun j dj hj => ?_, fun j => ?_, fun j k hjk a ha => ?_, fun j a ha => ?_, fun a q z => ?_, fun j a ha => ?_, fun j hj => ?_⟩, ⟨fun a o h q => ?_, fun a h => ?_⟩, fun a q => ?_, ?_, fun a q => ⟨.inl q, fun z => R.trA a q (e.back z)⟩⟩
  · by_cases h : i = j
    · subst h
      rw [List.getElem?_set_self hlt] at hj
      cases hj
      exact ⟨v, hv, by rw [putO_same]; exact ow⟩
    · rw [set_at h] at hj
      obtain ⟨w, hw, o⟩ := R.at_ j dj hj
      refine ⟨w, hw, ?_⟩
      rw [putO_ne fun z => h z.symm]
      refine o.mono (fun a q t => ⟨.inl q, fun z => t (e.back z)⟩) (fun a o q k => ?_) fun a q o k => ?_
      · rw [up a fun z => R.sep i x hx (z ▸ q)]; exact e a o k
      · rw [up a fun z => R.dj i j h x hx (z ▸ q)]; exact e a o k
  · by_cases h : j = i
    · subst h; rw [putO_same]; exact nd
    · rw [putO_ne h]; exact R.nd j
  · by_cases h : j = i
    · subst h
      rw [putO_same] at ha
      rw [putO_ne fun z => hjk z.symm]
      intro z
      rcases (fr a ha).1 with q | q
      · exact R.dj j k hjk a q z
      · exact R.trO k a z q
    · rw [putO_ne h] at ha
      by_cases h2 : k = i
      · subst h2
        rw [putO_same]
        intro z
        rcases (fr a z).1 with q | q
        · exact R.dj j k hjk a ha q
        · exact R.trO j a ha q
      · rw [putO_ne h2]; exact R.dj j k hjk a ha
  · by_cases h : j = i
    · subst h
      rw [putO_same] at ha
      exact (fr a ha).2
    · rw [putO_ne h] at ha
      rintro ⟨q | q, _⟩
      · exact R.sep j a ha q
      · exact no a q ⟨j, ha⟩
  · have q2 := q.2
    by_cases h : a = x
    · subst h; rw [upd_same] at z; cases z
    · rw [up a h] at z; exact q2 z
  · by_cases h : j = i
    · subst h
      rw [putO_same] at ha
      exact ow.tracked a ha
    · rw [putO_ne h] at ha
      intro z
      by_cases h2 : a = x
      · subst h2; rw [upd_same] at z; cases z
      · rw [up a h2] at z; exact R.trO j a ha (e.back z)
  · obtain ⟨p1, d9, v9, p2, p3, p4⟩ := R.pin j hj
    refine ⟨p1, ?_⟩
    by_cases h : i = j
    · subst h; exact ⟨d', v9, by rw [List.getElem?_set_self hlt], p3, p4⟩
    · exact ⟨d9, v9, by rw [set_at h]; exact p2, p3, p4⟩
  · rw [up a fun z => q ⟨i, z ▸ hx⟩]; exact e a o h
  · have h2 : a ≠ x := fun z => by rw [z, upd_same] at h; cases h
    rw [up a h2] at h
    exact e.back h
  · rcases q with ⟨q | q, _⟩
    · exact .inl (.inl q)
    · exact .inl (hA a q)
  · rintro a ⟨j, ha⟩
    by_cases h : j = i
    · subst h
      rw [putO_same] at ha
      rcases (fr a ha).1 with q | q
      · exact .inr ⟨j, q⟩
      · exact .inl q
    · rw [putO_ne h] at ha; exact .inr ⟨j, ha⟩
theorem get_okS {O : Nat → List Addr} {H : Hp} {ρ : En} {i : Nat} {f : D → Rs Fl} {q : Fl → Prop} (h : okS W E O H (get ρ i >>= f) q) : ∃ d, ρ[i]? = some (some d) ∧ okS W E O H (f d) q := by
  unfold get at h
  split at h
  · rename_i d e
    exact ⟨d, e, h⟩
  · exact h.elim
/-- an item is put to the end of an owned list's items -/
theorem app_list {A A1 : AS} {H H1 : Hp} {s : Sh} {a : Addr} {vs : List V} {ds : List D} {bs as : List Addr} {v' : V} {d' : D} (e : Ex H H1) (hA : ∀ a, A1 a → Nw A H a) (ha : H a = some (.lst vs)) (nA : ¬ A a) (trA : ∀ a, A a → H a ≠ none) (sepb : ∀ b ∈ bs, ¬ A b)
    (hz : ds.length < V1.LIM) (ow : OwL W.K A H s vs ds bs) (nd : (a :: bs).Nodup) (ow2 : Ow W.K A1 H1 s v' d' as) (nd2 : as.Nodup) (fr : ∀ a ∈ as, H a = none ∧ ¬ A1 a) :
    Ow W.K (fun a => (A a ∨ A1 a) ∧ H1 a ≠ none) (upd H1 a (.lst (vs ++ [v']))) (.ls s) (.ref a) (.list (ds ++ [d'])) (a :: (bs ++ as)) ∧ (a :: (bs ++ as)).Nodup ∧ (∀ b ∈ a :: (bs ++ as), (b ∈ a :: bs ∨ H b = none) ∧ ¬ ((A b ∨ A1 b) ∧ H1 b ≠ none)) := by
  have hna : ∀ b, H b = none → b ≠ a := fun b h z => by rw [z, ha] at h; cases h
  have hA1 : ∀ b, A1 b → b ≠ a := fun b q z => by
    subst z
    rcases hA b q with k | k
    · exact nA k
    · exact hna b k rfl
  have up : ∀ b o, b ≠ a → H1 b = some o → upd H1 a (.lst (vs ++ [v'])) b = some o := fun b o h q => by rw [upd_ne h]; exact q
  have nab : ∀ b ∈ bs, b ≠ a := fun b hb z => (List.nodup_cons.mp nd).1 (z ▸ hb)
  have sb : ∀ b, H b ≠ none → ¬ A b → ¬ ((A b ∨ A1 b) ∧ H1 b ≠ none) := by
    rintro b t q ⟨k | k, _⟩
    · exact q k
    · exact (hA b k).elim q t
  refine ⟨.ls upd_same (by rw [List.length_append, List.length_singleton]; exact hz) (OwL.append (ow.mono ?_ ?_ ?_) (OwL.one (ow2.mono ?_ ?_ ?_))), ?_, ?_⟩
  · exact fun b q t => ⟨.inl q, fun z => t (e.back z)⟩
  · exact fun b o q k => up b o (fun z => nA (z ▸ q)) (e b o k)
  · exact fun b q o k => up b o (nab b q) (e b o k)
  · exact fun b q t => ⟨.inr q, t⟩
  · exact fun b o q k => up b o (hA1 b q) k
  · exact fun b q o k => up b o (hna b (fr b q).1) k
  · rw [List.nodup_cons]
    obtain ⟨n1, n2⟩ := List.nodup_cons.mp nd
    refine ⟨fun z => ?_, List.nodup_append.mpr ⟨n2, nd2, fun b hb c hc z => ?_⟩⟩
    · rcases List.mem_append.mp z with z | z
      · exact n1 z
      · exact hna a (fr a z).1 rfl
    · subst z
      exact ow.tracked b hb (fr b hc).1
  · intro b hb
    rcases List.mem_cons.mp hb with z | hb
    · subst z
      exact ⟨.inl List.mem_cons_self, sb b (by rw [ha]; exact fun z => nomatch z) nA⟩
    · rcases List.mem_append.mp hb with hb | hb
      · exact ⟨.inl (List.mem_cons_of_mem _ hb), sb b (ow.tracked b hb) (sepb b hb)⟩
      · refine ⟨.inr (fr b hb).1, ?_⟩
        rintro ⟨k | k, _⟩
        · exact trA b k (fr b hb).1
        · exact (fr b hb).2 k
/-- x.append(e) -/
theorem ps_app_ (g : Gd W n st E X) {i : Nat} {s : Sh} {ir : MP.E} {x : Str} {e : Expr} {px ap cp pos : Pos} (hx : nmB st i x = true) (hsh : sh st.Γ i = .ls s) (hl : (ap.endLine == cp.line) = true) (hs : isStar e = false)
    (he : PE X e (semE W n E st (.st s) ir)) : PS X (.Expr (.Call (.Attribute (.Name x px) "append" ap) [e] [] cp) pos) (semS W n E C st.Γ st.Γ Γl (.mu .append (.v i) s ir)) := by
  unfold nmB at hx
  obtain ⟨h1, h3⟩ := shp2' hx
  obtain ⟨h1, h4⟩ := shp2' h1
  obtain ⟨h1, h5⟩ := shp2' h1
  have vis : Vis X.env.scope x := by rw [g.sc]; exact visB_ok h5
  have pv := pe_var (X := X) (i := i) (x := x) (pos := px) (by rw [g.N]; exact of_decide_eq_true h1) vis (not_dbg h4) (by simpa using h3)
  have s2 := star_cons (es := []) (env := X.env) hs
  refine PS.weak (ps_expr (pe_bm PySem.F.plainAttrs_list PySem.F.slot_list_append PySem.F.type_list_append mt_append pv (pa_cons he pa_nil s2) rfl (by rw [s2]; rfl) hl s2 rfl) (sw_none rfl none pos.line X.env)) ?_
  rintro T σ H ⟨ρ, A, O, R, h⟩
  unfold exS getP at h
  obtain ⟨d0, hd0, h⟩ := get_okS h
  obtain ⟨hL, h⟩ := okS_if h
  obtain ⟨v, hv, ow⟩ := R.at_ i d0 hd0
  rw [hsh] at ow
  obtain ⟨a, vs, ds, bs, rfl, rfl, hO, ha, hz, ol⟩ := ow.lsD
  have hbs : ∀ b, b ∈ a :: bs → b ∈ O i := fun b q => by rw [hO]; exact q
  refine ⟨_, hv, .inl ⟨rfl, vs, .of ha⟩, ρ, A, _, R.toF, okS_P h fun d' ed' h2 => ?_⟩
  obtain ⟨hshk, h2⟩ := okS_if h2
  obtain ⟨hq, h2⟩ : ds.length < V1.LIM ∧ okS W E O H (.ok (.nx (ρ.set i (some (.list (ds ++ [d'])))))) (PostS W C st.Γ Γl A O H T) := by
    have em : V1.muD .append (.list ds) d' = if ds.length < V1.LIM then .ok (.list (ds ++ [d'])) else .bad := rfl
    rw [em] at h2
    by_cases q : ds.length < V1.LIM
    · rw [if_pos q] at h2; exact ⟨q, h2⟩
    · rw [if_neg q] at h2; exact h2.elim
  refine ⟨hshk, fun v' H1 as A1 e1 hA ow2 nd2 fr => ?_⟩
  · have nd := R.nd i
    rw [hO] at nd
    obtain ⟨o1, o2, o3⟩ := app_list e1 hA ha (R.sep i a (hbs a List.mem_cons_self)) R.trA (fun b hb => R.sep i b (hbs b (List.mem_cons_of_mem _ hb))) hq ol nd ow2 nd2 fr
    rw [← hO] at o3
    obtain ⟨R', S⟩ := R.mut (fl := C.fl) e1 hA hd0 hv (hbs a List.mem_cons_self) (by rw [hsh]; exact o1) o2 o3
    refine ⟨a, vs, v', rfl, rfl, e1 a _ ha, ?_, h2 _ _ _ _ R' S⟩
    rw [ol.length, ← LIM_eq]; exact hq
/-! places within -/
theorem OwL.pick {K : PySem.W.Frag} {A : AS} {H : Hp} {s : Sh} : ∀ {ds : List D} {vs : List V} {bs : List Addr} {j : Nat} {d : D}, OwL K A H s vs ds bs → ds[j]? = some d → bs.Nodup → ∃ v mid, vs[j]? = some v ∧ Ow K A H s v d mid ∧ mid.Nodup ∧ (∀ b ∈ mid, b ∈ bs) ∧
    ∀ A' H' d' mid', (∀ a, A a → H a ≠ none → A' a) → (∀ a o, A a → H a = some o → H' a = some o) → (∀ b ∈ bs, b ∉ mid → ∀ o, H b = some o → H' b = some o) → Ow K A' H' s v d' mid' → mid'.Nodup → (∀ b ∈ mid', b ∈ mid ∨ H b = none) →
      ∃ bs', OwL K A' H' s vs (ds.set j d') bs' ∧ bs'.Nodup ∧ ∀ b ∈ bs', b ∈ mid' ∨ (b ∈ bs ∧ b ∉ mid)
  | [], _, _, _, _, _, e, _ => by simp at e
  | x :: ds, _, _, 0, d, h, e, nd => by
    simp at e
    subst e
    cases h with
    | cons h1 h2 =>
      rename_i v vs b1 cs
      obtain ⟨n1, n2, n3⟩ := List.nodup_append.mp nd
      refine ⟨v, b1, rfl, h1, n1, fun b q => List.mem_append_left _ q, fun A' H' d' mid' hA hH hk ow nm fr => ⟨mid' ++ cs, ?_, ?_, fun b hb => ?_⟩⟩
      · rw [List.set_cons_zero]
        exact .cons ow (h2.mono hA hH fun a q o k => hk a (List.mem_append_right _ q) (fun z => n3 a z a q rfl) o k)
      · refine List.nodup_append.mpr ⟨nm, n2, fun a ha b hb z => ?_⟩
        subst z
        rcases fr a ha with q | q
        · exact n3 a q a hb rfl
        · exact h2.tracked a hb q
      · rcases List.mem_append.mp hb with q | q
        · exact .inl q
        · exact .inr ⟨List.mem_append_right _ q, fun z => n3 b z b q rfl⟩
  | x :: ds, _, _, j + 1, d, h, e, nd => by
    rw [List.getElem?_cons_succ] at e
    cases h with
    | cons h1 h2 =>
      rename_i v vs b1 cs
      obtain ⟨n1, n2, n3⟩ := List.nodup_append.mp nd
      obtain ⟨w, mid, e1, o1, nm1, sub, re⟩ := OwL.pick h2 e n2
      refine ⟨w, mid, by rw [List.getElem?_cons_succ]; exact e1, o1, nm1, fun b q => List.mem_append_right _ (sub b q), fun A' H' d' mid' hA hH hk ow nm fr => ?_⟩
      obtain ⟨cs', k1, k2, k3⟩ := re A' H' d' mid' hA hH (fun b q z => hk b (List.mem_append_right _ q) z) ow nm fr
      refine ⟨b1 ++ cs', ?_, ?_, fun b hb => ?_⟩
      · rw [List.set_cons_succ]
        exact .cons (h1.mono hA hH fun a q o k => hk a (List.mem_append_left _ q) (fun z => n3 a q a (sub a z) rfl) o k) k1
      · refine List.nodup_append.mpr ⟨n1, k2, fun a ha b hb z => ?_⟩
        subst z
        rcases k3 a hb with q | ⟨q, _⟩
        · rcases fr a q with q | q
          · exact n3 a ha a (sub a q) rfl
          · exact h1.tracked a ha q
        · exact n3 a ha a q rfl
      · rcases List.mem_append.mp hb with q | q
        · exact .inr ⟨List.mem_append_left _ q, fun z => n3 b q b (sub b z) rfl⟩
        · rcases k3 b q with q | ⟨q, z⟩
          · exact .inl q
          · exact .inr ⟨List.mem_append_right _ q, z⟩
/-- the shape of a thing's j-th item -/
def subS : Sh → Nat → Option Sh
  | .ls s, _ => some s
  | .t2 a _, 0 => some a
  | .t2 _ b, 1 => some b
  | _, _ => none
def setD : D → Nat → D → D
  | .list xs, j, d => .list (xs.set j d)
  | .tuple xs, j, d => .tuple (xs.set j d)
  | d, _, _ => d
def itsD : D → List D
  | .list xs => xs
  | .tuple xs => xs
  | _ => []
/-- an item's own place -/
theorem Ow.pick {K : PySem.W.Frag} {A : AS} {H : Hp} {S s : Sh} {v : V} {d0 : D} {as : List Addr} {j : Nat} {d : D} (h : Ow K A H S v d0 as) (hs : subS S j = some s) (hd : (itsD d0)[j]? = some d) (nd : as.Nodup) (sepA : ∀ a ∈ as, ¬ A a) :
    ∃ a vs vj mid, v = .ref a ∧ vs.length = (itsD d0).length ∧ (SqL K H a vs ∨ SqT K H a vs) ∧ vs[j]? = some vj ∧ Ow K A H s vj d mid ∧ mid.Nodup ∧ (∀ b ∈ mid, b ∈ as) ∧
    ∀ A' H' d' mid', (∀ a, A a → H a ≠ none → A' a) → (∀ a o, A a → H a = some o → H' a = some o) → (∀ b ∈ as, b ∉ mid → ∀ o, H b = some o → H' b = some o) → Ow K A' H' s vj d' mid' → mid'.Nodup → (∀ b ∈ mid', b ∈ mid ∨ H b = none) →
      ∃ as', Ow K A' H' S v (setD d0 j d') as' ∧ as'.Nodup ∧ ∀ b ∈ as', b ∈ mid' ∨ (b ∈ as ∧ b ∉ mid) := by
  cases S with
  | fz => cases hs
  | ls t =>
    cases hs
    obtain ⟨a, vs, ds, bs, rfl, rfl, rfl, h1, h2, h3⟩ := h.lsD
    obtain ⟨na, nb⟩ := List.nodup_cons.mp nd
    obtain ⟨vj, mid, e1, o1, nm, sub, re⟩ := h3.pick hd nb
    refine ⟨a, vs, vj, mid, rfl, h3.length, .inl (.of h1), e1, o1, nm, fun b q => List.mem_cons_of_mem _ (sub b q), fun A' H' d' mid' hA hH hk ow nm' fr => ?_⟩
    obtain ⟨bs', k1, k2, k3⟩ := re A' H' d' mid' hA hH (fun b q z => hk b (List.mem_cons_of_mem _ q) z) ow nm' fr
    refine ⟨a :: bs', .ls (hk a List.mem_cons_self (fun z => na (sub a z)) _ h1) (by rw [List.length_set]; exact h2) k1, List.nodup_cons.mpr ⟨fun z => ?_, k2⟩, fun b hb => ?_⟩
    · rcases k3 a z with q | ⟨q, _⟩
      · rcases fr a q with q | q
        · exact na (sub a q)
        · rw [h1] at q; cases q
      · exact na q
    · rcases List.mem_cons.mp hb with z | z
      · subst z
        exact .inr ⟨List.mem_cons_self, fun z => na (sub b z)⟩
      · rcases k3 b z with q | ⟨q, z⟩
        · exact .inl q
        · exact .inr ⟨List.mem_cons_of_mem _ q, z⟩
  | t2 s1 s2 =>
    obtain ⟨a, v1, v2, d1, d2, bs, cs, rfl, rfl, rfl, h1, h2, h3⟩ := h.t2D
    obtain ⟨na, nb⟩ := List.nodup_cons.mp nd
    obtain ⟨n1, n2, n3⟩ := List.nodup_append.mp nb
    match j, hs, hd with
    | 0, hs, hd =>
      cases hs
      cases hd
      refine ⟨a, [v1, v2], v1, bs, rfl, rfl, .inr (.of h1), rfl, h2, n1, fun b q => List.mem_cons_of_mem _ (List.mem_append_left _ q), fun A' H' d' mid' hA hH hk ow nm' fr => ?_⟩
      have fa : a ∉ mid' := fun z => by
        rcases fr a z with q | q
        · exact na (List.mem_append_left _ q)
        · rw [h1] at q; cases q
      refine ⟨a :: (mid' ++ cs), .t2 (hk a List.mem_cons_self (fun z => na (List.mem_append_left _ z)) _ h1) ow (h3.mono hA hH fun b q o k => hk b (List.mem_cons_of_mem _ (List.mem_append_right _ q)) (fun z => n3 b z b q rfl) o k), List.nodup_cons.mpr ⟨fun z => ?_, List.nodup_append.mpr ⟨nm', n2, fun b hb c hc z => ?_⟩⟩, fun b hb => ?_⟩
      · rcases List.mem_append.mp z with z | z
        · exact fa z
        · exact na (List.mem_append_right _ z)
      · subst z
        rcases fr b hb with q | q
        · exact n3 b q b hc rfl
        · exact h3.tracked b hc q
      · rcases List.mem_cons.mp hb with z | z
        · subst z
          exact .inr ⟨List.mem_cons_self, fun z => na (List.mem_append_left _ z)⟩
        · rcases List.mem_append.mp z with z | z
          · exact .inl z
          · exact .inr ⟨List.mem_cons_of_mem _ (List.mem_append_right _ z), fun q => n3 b q b z rfl⟩
    | 1, hs, hd =>
      cases hs
      cases hd
      refine ⟨a, [v1, v2], v2, cs, rfl, rfl, .inr (.of h1), rfl, h3, n2, fun b q => List.mem_cons_of_mem _ (List.mem_append_right _ q), fun A' H' d' mid' hA hH hk ow nm' fr => ?_⟩
      have fa : a ∉ mid' := fun z => by
        rcases fr a z with q | q
        · exact na (List.mem_append_right _ q)
        · rw [h1] at q; cases q
      refine ⟨a :: (bs ++ mid'), .t2 (hk a List.mem_cons_self (fun z => na (List.mem_append_right _ z)) _ h1) (h2.mono hA hH fun b q o k => hk b (List.mem_cons_of_mem _ (List.mem_append_left _ q)) (fun z => n3 b q b z rfl) o k) ow, List.nodup_cons.mpr ⟨fun z => ?_, List.nodup_append.mpr ⟨n1, nm', fun b hb c hc z => ?_⟩⟩, fun b hb => ?_⟩
      · rcases List.mem_append.mp z with z | z
        · exact na (List.mem_append_left _ z)
        · exact fa z
      · subst z
        rcases fr b hc with q | q
        · exact n3 b hb b q rfl
        · exact h2.tracked b hb q
      · rcases List.mem_cons.mp hb with z | z
        · subst z
          exact .inr ⟨List.mem_cons_self, fun z => na (List.mem_append_right _ z)⟩
        · rcases List.mem_append.mp z with z | z
          · exact .inr ⟨List.mem_cons_of_mem _ (List.mem_append_left _ z), fun q => n3 b z b q rfl⟩
          · exact .inl z
    | j + 2, hs, _ => cases hs
def pthB (S : Sh) (k : Int) (s : Sh) : Bool := match S with
  | .ls t => decide (t = .ls s)
  | .t2 a b => (decide (k = 0) && decide (a = .ls s)) || (decide (k = 1) && decide (b = .ls s))
  | .fz => false
theorem pth_facts {K : PySem.W.Frag} {A : AS} {H : Hp} {S s : Sh} {v : V} {d0 : D} {as : List Addr} {k : Int} (ow : Ow K A H S v d0 as) (hp : pthB S k s = true) : V1.ix d0 (.int k) = Rs.of (L2.atI (itsD d0) k) ∧
    ∀ j, L2.ixN (itsD d0).length k = some j → subS S j = some (.ls s) ∧ ∀ (cf : CF) (ρ : En) (i : Nat) (d' : D), ρ[i]? = some (some d0) → putP cf (.ix i (.c (.int k))) ρ d' = .ok (ρ.set i (some (setD d0 j d'))) := by
  cases S with
  | fz => cases hp
  | ls t =>
    obtain ⟨a, vs, ds, bs, rfl, rfl, rfl, h1, h2, h3⟩ := ow.lsD
    have ht : t = .ls s := of_decide_eq_true hp
    subst ht
    refine ⟨rfl, fun j hj => ⟨rfl, fun cf ρ i d' hd => ?_⟩⟩
    have hj : L2.ixN ds.length k = some j := hj
    have hg : get ρ i = .ok (.list ds) := by unfold get; rw [hd]
    have e1 : evE cf (.c (.int k)) ρ = .ok (.int k) := by unfold evE; rfl
    unfold putP
    simp only [hg, e1, ok_bind, hj, of_some]
    rfl
  | t2 s1 s2 =>
    obtain ⟨a, v1, v2, d1, d2, bs, cs, rfl, rfl, rfl, h1, h2, h3⟩ := ow.t2D
    refine ⟨rfl, fun j hj => ?_⟩
    have hj : L2.ixN 2 k = some j := hj
    have hp : ((decide (k = 0) && decide (s1 = .ls s)) || (decide (k = 1) && decide (s2 = .ls s))) = true := hp
    rw [Bool.or_eq_true] at hp
    have put : ∀ (cf : CF) (ρ : En) (i : Nat) (d' : D), ρ[i]? = some (some (.tuple [d1, d2])) → putP cf (.ix i (.c (.int k))) ρ d' = .ok (ρ.set i (some (setD (.tuple [d1, d2]) j d'))) := by
      intro cf ρ i d' hd
      have hg : get ρ i = .ok (.tuple [d1, d2]) := by unfold get; rw [hd]
      have e1 : evE cf (.c (.int k)) ρ = .ok (.int k) := by unfold evE; rfl
      have hl : L2.ixN [d1, d2].length k = some j := hj
      unfold putP
      simp only [hg, e1, ok_bind, hl, of_some]
      rfl
    rcases hp with hp | hp
    · obtain ⟨q1, q2⟩ := shp2' hp
      have q1 := of_decide_eq_true q1
      have q2 := of_decide_eq_true q2
      subst q1 q2
      cases hj
      exact ⟨rfl, put⟩
    · obtain ⟨q1, q2⟩ := shp2' hp
      have q1 := of_decide_eq_true q1
      have q2 := of_decide_eq_true q2
      subst q1 q2
      cases hj
      exact ⟨rfl, put⟩
/-- x[k].append(e), k a number that is written out -/
theorem ps_appP_ (g : Gd W n st E X) {i : Nat} {k : Int} {s : Sh} {ir : MP.E} {x : Str} {e : Expr} {kj : Nat} {px p2 p3 ap cp pos : Pos} (hx : nmB st i x = true) (hp : pthB (sh st.Γ i) k s = true) (hl : (ap.endLine == cp.line) = true) (hs : isStar e = false)
    (he : PE X e (semE W n E st (.st s) ir)) : PS X (.Expr (.Call (.Attribute (.Subscript (.Name x px) (.Constant (.int k) kj p2) p3) "append" ap) [e] [] cp) pos) (semS W n E C st.Γ st.Γ Γl (.mu .append (.ix i (.c (.int k))) s ir)) := by
  unfold nmB at hx
  obtain ⟨h1, h3⟩ := shp2' hx
  obtain ⟨h1, h4⟩ := shp2' h1
  obtain ⟨h1, h5⟩ := shp2' h1
  have vis : Vis X.env.scope x := by rw [g.sc]; exact visB_ok h5
  have pv := pe_var (X := X) (i := i) (x := x) (pos := px) (by rw [g.N]; exact of_decide_eq_true h1) vis (not_dbg h4) (by simpa using h3)
  have pr := pe_ix (pos := p3) ix_seq pv (pe_int (X := X) (i := k) (j := kj) (pos := p2)) (slc_plain rfl)
  have s2 := star_cons (es := []) (env := X.env) hs
  refine PS.weak (ps_expr (pe_bm PySem.F.plainAttrs_list PySem.F.slot_list_append PySem.F.type_list_append mt_append pr (pa_cons he pa_nil s2) (base_of rfl) (by rw [s2]; rfl) hl s2 rfl) (sw_none rfl none pos.line X.env)) ?_
  rintro T σ H ⟨ρ, A, O, R, h⟩
  unfold exS getP at h
  simp only at h
  rw [bind_assoc'] at h
  obtain ⟨d0, hd0, h⟩ := get_okS h
  obtain ⟨v, hv, ow⟩ := R.at_ i d0 hd0
  have e1 : evE (callF W.P n) (.c (.int k)) ρ = .ok (.int k) := by unfold evE; rfl
  obtain ⟨f1, f2⟩ := pth_facts ow hp
  rw [e1, ok_bind, f1] at h
  cases hat : L2.atI (itsD d0) k with
  | none => rw [hat] at h; exact h.elim
  | some d1 =>
    rw [hat, of_some, ok_bind] at h
    obtain ⟨hL, h⟩ := okS_if h
    obtain ⟨j, hj, hj2⟩ : ∃ j, L2.ixN (itsD d0).length k = some j ∧ (itsD d0)[j]? = some d1 := by
      unfold L2.atI at hat
      cases e : L2.ixN (itsD d0).length k with
      | none => rw [e] at hat; cases hat
      | some j => rw [e] at hat; exact ⟨j, rfl, hat⟩
    obtain ⟨g1, g2⟩ := f2 j hj
    obtain ⟨a, vs, vj, mid, rfl, hlen, hsq, hvj, omid, nmid, sub, re⟩ := ow.pick g1 hj2 (R.nd i) (R.sep i)
    obtain ⟨a2, vs2, ds2, bs2, rfl, rfl, hm, ha2, hz2, ol2⟩ := omid.lsD
    have hval : L2.atI vs k = some (.ref a2) := by
      unfold L2.atI
      rw [hlen, hj]
      exact hvj
    have ix : ∀ Q : VK, Q (.ref a2) H → rIx X.K (.ref a) (.int k) H Q := fun Q q => by
      rw [g.K]
      rcases hsq with z | z
      · exact .inl ⟨a, vs, k, _, rfl, rfl, z, hval, q⟩
      · exact .inr (.inl ⟨a, vs, k, _, rfl, rfl, z, hval, q⟩)
    refine ⟨_, hv, ix _ ⟨.inl ⟨rfl, vs2, .of ha2⟩, ρ, A, _, R.toF, okS_P h fun d' ed' h2 => ?_⟩⟩
    obtain ⟨hshk, h2⟩ := okS_if h2
    have em : V1.muD .append (.list ds2) d' = if ds2.length < V1.LIM then .ok (.list (ds2 ++ [d'])) else .bad := rfl
    rw [em] at h2
    by_cases hq : ds2.length < V1.LIM
    · rw [if_pos hq, ok_bind, g2 _ _ _ _ hd0, ok_bind] at h2
      refine ⟨hshk, fun v' H1 as A1 e1 hA ow2 nd2 fr => ?_⟩
      have ma : a2 ∈ mid := by rw [hm]; exact List.mem_cons_self
      have mi : ∀ b ∈ mid, b ∈ O i := sub
      rw [hm] at nmid
      obtain ⟨o1, o2, o3⟩ := app_list e1 hA ha2 (R.sep i a2 (mi a2 ma)) R.trA (fun b hb => R.sep i b (mi b (by rw [hm]; exact List.mem_cons_of_mem _ hb))) hq ol2 nmid ow2 nd2 fr
      obtain ⟨as', k1, k2, k3⟩ := re (fun a => (A a ∨ A1 a) ∧ H1 a ≠ none) (upd H1 a2 (.lst (vs2 ++ [v']))) _ _ (fun b q t => ⟨.inl q, fun z => t (e1.back z)⟩) (fun b o q z => by rw [upd_ne (show b ≠ a2 from fun y => R.sep i a2 (mi a2 ma) (y ▸ q))]; exact e1 b o z)
        (fun b q z o y => by rw [upd_ne (show b ≠ a2 from fun x => z (x ▸ ma))]; exact e1 b o y) o1 o2 (fun b hb => by rw [hm]; exact (o3 b hb).1)
      obtain ⟨R', S⟩ := R.mut (fl := C.fl) e1 hA hd0 hv (mi a2 ma) k1 k2 (fun b hb => by
        rcases k3 b hb with q | ⟨q, _⟩
        · refine ⟨?_, (o3 b q).2⟩
          rcases (o3 b q).1 with y | y
          · exact .inl (mi b (by rw [hm]; exact y))
          · exact .inr y
        · refine ⟨.inl q, ?_⟩
          rintro ⟨y | y, _⟩
          · exact R.sep i b q y
          · exact R.new_own hA b y ⟨i, q⟩)
      refine ⟨a2, vs2, v', rfl, rfl, e1 a2 _ ha2, ?_, h2 _ _ _ _ R' S⟩
      rw [ol2.length, ← LIM_eq]; exact hq
    · rw [if_neg hq] at h2; exact h2.elim
/-! items, pairs, op= -/
/-- x[k] = e, the items shared -/
theorem ps_si_ (g : Gd W n st E X) {i : Nat} {ik ir : MP.E} {x : Str} {ek e : Expr} {px p2 pos : Pos} (hx : nmB st i x = true) (hsh : sh st.Γ i = .ls .fz) (hslc : isSlc ek = false) (hlc : isLc e = false)
    (hk : PE X ek (semE W n E st (.st .fz) ik)) (he : PE X e (semE W n E st (.st .fz) ir)) : PS X (.Assign [.Subscript (.Name x px) ek p2] e pos) (semS W n E C st.Γ st.Γ Γl (.si (.v i) ik ir)) := by
  unfold nmB at hx
  obtain ⟨h1, h3⟩ := shp2' hx
  obtain ⟨h1, h4⟩ := shp2' h1
  obtain ⟨h1, h5⟩ := shp2' h1
  have vis : Vis X.env.scope x := by rw [g.sc]; exact visB_ok h5
  have pv := pe_var (X := X) (i := i) (x := x) (pos := px) (by rw [g.N]; exact of_decide_eq_true h1) vis (not_dbg h4) (by simpa using h3)
  refine PS.weak (ps_asg he (pg_sub pv hk set_list (by intro v; cases ek <;> first | rfl | cases hslc)) (by cases e <;> first | rfl | cases hlc) (by cases e <;> rfl) rfl) ?_
  rintro T σ H ⟨ρ, A, O, R, h⟩
  unfold exS getP at h
  refine ⟨ρ, A, _, R.toF, okS_P h fun d ed h2 => ⟨shOk_fz d, fun v H1 as A1 e1 hA ow nd fr => ?_⟩⟩
  have R1 := R.grow (A1 := A1) e1 fun a q _ => R.new_own hA a q
  have S1 : Stp C.fl A O H (fun a => (A a ∨ A1 a) ∧ H1 a ≠ none) O H1 := grow_stp e1 hA R.trA fun _ q => q
  have h2 := okS.step h2 S1
  obtain ⟨d0, hd0, h2⟩ := get_okS h2
  obtain ⟨w, hw, ow0⟩ := R1.at_ i d0 hd0
  rw [hsh] at ow0
  obtain ⟨a, vs, ds, bs, rfl, rfl, hO, ha, hz, ol⟩ := ow0.lsD
  obtain ⟨hbs, rl⟩ := ol.fz
  subst hbs
  have tR := R1.toF
  refine ⟨_, hw, ρ, _, _, R1.toF, okS_P h2 fun dk edk h3 => ⟨shOk_fz dk, fun vk H2 as2 A2 e2 hA2 ow2 nd2 fr2 => ?_⟩⟩
  cases dk with
  | int k =>
    have es : V1.setAt (.list ds) (.int k) d = (Rs.of (L2.ixN ds.length k) >>= fun j => .ok (.list (ds.set j d))) := rfl
    rw [es] at h3
    cases hj : L2.ixN ds.length k with
    | none => rw [hj] at h3; exact h3.elim
    | some j =>
      rw [hj, of_some, ok_bind, ok_bind] at h3
      have rk := ow2.fzD.2
      cases rk
      have hOa : a ∈ O i := by rw [hO]; exact List.mem_cons_self
      have nA : ∀ b, ((((A b ∨ A1 b) ∧ H1 b ≠ none) ∨ A2 b) ∧ H2 b ≠ none) → b ≠ a := by
        rintro b ⟨q | q, _⟩ z
        · exact R1.sep i a hOa (z ▸ q)
        · exact R1.new_own hA2 b q ⟨i, z ▸ hOa⟩
      have rv : Rp W.K A1 H1 v d := ow.fzD.2
      obtain ⟨R', S'⟩ := R1.mut (fl := C.fl) (d' := .list (ds.set j d)) (x := a) (u := .lst (vs.set j v)) (as' := [a]) e2 hA2 hd0 hw hOa (by
        rw [hsh]
        refine .ls upd_same (by rw [List.length_set]; exact hz) (OwL.ofFz (RpL.set ?_ j ?_))
        · refine rv.mono (fun b q t => ⟨.inl ⟨.inr q, t⟩, fun z => t (e2.back z)⟩) fun b o q z => ?_
          have hb : b ≠ a := fun y => by
            subst y
            exact R.new_own hA b q ⟨i, hOa⟩
          rw [upd_ne hb]; exact e2 b o z
        · refine rl.mono (fun b q t => ⟨.inl q, fun z => t (e2.back z)⟩) fun b o q z => ?_
          have hb : b ≠ a := fun y => by
            subst y
            exact R1.sep i b hOa q
          rw [upd_ne hb]; exact e2 b o z) (by simp) (fun b hb => by
        rw [List.mem_singleton] at hb
        subst hb
        exact ⟨.inl hOa, fun q => nA b q rfl⟩)
      exact ⟨a, vs, k, j, rfl, rfl, e2 a _ ha, by rw [rl.length]; exact hj, h3 _ _ _ _ R' S'⟩
  | _ => exact h3.elim
theorem evEs2 {cf : CF} {a b : MP.E} {ρ : En} {α : Type} {f : D → D → Rs α} : (evE cf a ρ >>= fun x => evE cf b ρ >>= fun y => f x y) = evEs cf (.cons a (.cons b .nil)) ρ >>= fun ds => match ds with
    | [x, y] => f x y
    | _ => .bad := by
  unfold evEs evEs evEs
  cases evE cf a ρ with
  | ok x =>
    cases evE cf b ρ with
    | ok y => rfl
    | exc _ => rfl
    | bad => rfl
  | exc _ => rfl
  | bad => rfl
/-- a, b = x, y with plain local names -/
theorem ps_par_ (g : Gd W n st E X) {i j : Nat} {x y : Str} {a b : MP.E} {ea eb : Expr} {px py pt pt2 pos : Pos} {k1 k2 : Nat} (hi : st.N[i]? = some x) (hj : st.N[j]? = some y) (hij : i ≠ j) (hlx : st.sc.names.lookup x = some .local) (hly : st.sc.names.lookup y = some .local)
    (hxy : (x == y) = false) (hk : st.sc.kind = .function) (hln : (py.line == px.line) = true) (sa : isStar ea = false) (sb : isStar eb = false) (hf : ([ea, eb].all (foldedForSure 8)) = false) (hf2 : ([ea, eb].all (constantsAlone 8)) = false)
    (gi : sh st.Γ i = .fz) (gj : sh st.Γ j = .fz) (qi : sh C.pm i = .fz) (qj : sh C.pm j = .fz)
    (hok : okEs W.P st [.fz, .fz] (.cons a (.cons b .nil)) [ea, eb] = true) (hab : PA X [ea, eb] (semEs W n E st [.fz, .fz] (.cons a (.cons b .nil)))) :
    PS X (.Assign [.Tuple [.Name x px, .Name y py] k1 pt] (.Tuple [ea, eb] k2 pt2) pos) (semS W n E C st.Γ st.Γ Γl (.par i j a b)) := by
  have hsw : swappedStores [.Tuple [.Name x px, .Name y py] k1 pt] (.Tuple [ea, eb] k2 pt2) X.env = pure (some [x, y]) := by
    have hbk : (X.env.blockKind != .function) = false := by
      unfold Env.blockKind
      rw [g.sc, hk]
      rfl
    have kx : X.env.kindOf x = some .local := by unfold Env.kindOf; rw [g.sc]; exact hlx
    have ky : X.env.kindOf y = some .local := by unfold Env.kindOf; rw [g.sc]; exact hly
    have hst : ([ea, eb].any isStar) = false := by simp [sa, sb]
    have hfn : (fun e : Expr => match e with | .Starred .. => true | _ => false) = isStar := by funext e; cases e <;> rfl
    have hnm : ([Expr.Name x px, Expr.Name y py].filterMap fun
      | .Name id pos => if X.env.kindOf id == some .local && pos.line == px.line then some id else none
      | _ => none) = [x, y] := by
      simp [List.filterMap, kx, ky, hln]
    unfold swappedStores
    simp only
    split
    · rename_i q
      have q : (false || false || (X.env.blockKind != .function)) = true := q
      rw [hbk] at q
      cases q
    · split
      · rename_i q
        have q : ([ea, eb].any fun e : Expr => match e with | .Starred .. => true | _ => false) = true := q
        rw [hfn, hst] at q
        cases q
      · split
        · rename_i q
          have q : ((([Expr.Name x px, Expr.Name y py].filterMap fun
            | .Name id pos => if X.env.kindOf id == some .local && pos.line == px.line then some id else none
            | _ => none).length != 2) || (([Expr.Name x px, Expr.Name y py].filterMap fun
            | .Name id pos => if X.env.kindOf id == some .local && pos.line == px.line then some id else none
            | _ => none).eraseDups.length != ([Expr.Name x px, Expr.Name y py].filterMap fun
            | .Name id pos => if X.env.kindOf id == some .local && pos.line == px.line then some id else none
            | _ => none).length)) = true := q
          rw [hnm] at q
          have hyx : (y == x) = false := by
            rw [beq_eq_false_iff_ne] at hxy ⊢
            exact fun z => hxy z.symm
          simp [List.eraseDups, List.eraseDupsBy, List.eraseDupsBy.loop, hxy, hyx] at q
        · split
          · rename_i q
            rw [hf] at q
            cases q
          · split
            · rename_i q
              rw [hf2] at q
              cases q
            · exact congrArg (fun l => pure (some l)) hnm
  refine PS.weak (ps_par g.calm (by rw [g.N]; exact g.nd) (by rw [g.N]; exact hi) (by rw [g.N]; exact hj) hij (by rw [g.sc]; exact hlx) (by rw [g.sc]; exact hly) hab hsw rfl) ?_
  rintro T σ H ⟨ρ, A, O, R, h⟩
  unfold exS at h
  rw [evEs2] at h
  refine ⟨ρ, A, _, R.toF, .inl rfl, okS_G h fun ds eds h2 => ?_⟩
  obtain ⟨l1, _⟩ := evEs_len hok eds
  match ds, l1, h2 with
  | [dx, dy], _, h2 =>
    refine ⟨by show (shOk .fz dx && (shOk .fz dy && true)) = true; rw [shOk_fz, shOk_fz]; rfl, fun vs H1 as A1 e1 hA ow nd fr => ?_⟩
    cases ow with
    | @cons _ _ v1 _ _ _ b1 _ o1 o2 =>
      cases o2 with
      | @cons _ _ v2 _ _ _ b2 _ o2 o3 =>
        cases o3
        have r1 := o1.fzD.2
        have r2 := o2.fzD.2
        refine ⟨v1, v2, rfl, ?_⟩
        have hsr : SetR W.K A1 H1 [i, j] ρ ((ρ.set i (some dx)).set j (some dy)) σ ((σ.set i (some v1)).set j (some v2)) := by
          refine ⟨by simp, by simp, fun l hl => ?_, fun l hl d hd => ?_⟩
          · have n1 : i ≠ l := fun z => hl (by rw [z]; exact List.mem_cons_self)
            have n2 : j ≠ l := fun z => hl (by rw [z]; exact List.mem_cons_of_mem _ List.mem_cons_self)
            exact ⟨by rw [set_at n2, set_at n1], by rw [set_at n2, set_at n1]⟩
          · have hlen := R.len
            by_cases h9 : l = j
            · subst h9
              rw [List.getElem?_set_self'] at hd
              cases h0 : (ρ.set i (some dx))[l]? with
              | none => rw [h0] at hd; cases hd
              | some o =>
                rw [h0] at hd
                cases hd
                have hlt : l < (σ.set i (some v1)).length := by
                  have := (List.getElem?_eq_some_iff.mp h0).1
                  simpa [hlen] using this
                exact ⟨v2, by rw [List.getElem?_set_self hlt], r2⟩
            · have e9 : l = i := by
                rcases List.mem_cons.mp hl with z | z
                · exact z
                · exact absurd (List.mem_singleton.mp z) h9
              subst e9
              have n2 : j ≠ l := fun z => h9 z.symm
              rw [set_at n2, List.getElem?_set_self'] at hd
              cases h0 : ρ[l]? with
              | none => rw [h0] at hd; cases hd
              | some o =>
                rw [h0] at hd
                cases hd
                have hlt : l < σ.length := by rw [hlen]; exact (List.getElem?_eq_some_iff.mp h0).1
                exact ⟨v1, by rw [set_at n2, List.getElem?_set_self hlt], r1⟩
        have hgi : ∀ l ∈ [i, j], sh st.Γ l = .fz := fun l hl => by
          rcases List.mem_cons.mp hl with z | z
          · rw [z]; exact gi
          · rw [List.mem_singleton.mp z]; exact gj
        have hqi : ∀ l ∈ [i, j], sh C.pm l = .fz := fun l hl => by
          rcases List.mem_cons.mp hl with z | z
          · rw [z]; exact qi
          · rw [List.mem_singleton.mp z]; exact qj
        obtain ⟨O', R', q⟩ := R.puts (A2 := fun _ => False) e1 (fun a k t => ⟨R.new_own hA a k, .inl (hA a k)⟩) hsr hgi hqi
        exact h2 _ _ _ _ R' (grow_stp e1 hA R.trA q)
theorem ps_aug_ (g : Gd W n st E X) {i : Nat} {o : B2} {op : Operator} {ir : MP.E} {x : Str} {e : Expr} {px pos : Pos} (hl : locB st i x = true) (ho : (match o, op with | .add, .Add => true | .sub, .Sub => true | _, _ => false) = true) (hi : i < st.Γ.length) (hg : sh st.Γ i = .fz) (hp : sh C.pm i = .fz)
    (he : PE X e (semE W n E st (.st .fz) ir)) : PS X (.AugAssign (.Name x px) op e pos) (semS W n E C st.Γ (st.Γ.set i .fz) Γl (.aug i o ir)) := by
  obtain ⟨h1, h2, h3⟩ := locB_ok g hl
  have fin : ∀ (f : Int → Int → Int), (∀ (x y : D) (T : Ends) (A : AS) (O : Nat → List Addr) (H : Hp) (k : D → Rs Fl), okS W E O H (V1.augI o x y >>= k) (PostS W C (st.Γ.set i .fz) Γl A O H T) → ∃ a b, x = .int a ∧ y = .int b ∧ okS W E O H (k (.int (f a b))) (PostS W C (st.Γ.set i .fz) Γl A O H T)) →
      ∀ T σ H, semS W n E C st.Γ (st.Γ.set i .fz) Γl (.aug i o ir) T σ H → tAug i (semE W n E st (.st .fz) ir) (ipI f) T σ H := by
    rintro f hf T σ H ⟨ρ, A, O, R, h⟩
    unfold exS at h
    obtain ⟨d0, hd0, h⟩ := get_okS h
    obtain ⟨v, hv, ow⟩ := R.at_ i d0 hd0
    rw [hg] at ow
    have rv := ow.fzD.2
    refine ⟨v, hv, ρ, A, _, R.toF, okS_P h fun d ed h2 => ⟨shOk_fz d, fun w H1 as A1 e1 hA ow1 nd fr => ?_⟩⟩
    obtain ⟨a, b, ea, eb, h3⟩ := hf d0 d T A O H _ h2
    subst ea eb
    have rw1 := ow1.fzD.2
    cases rv
    cases rw1
    refine ⟨a, b, rfl, rfl, ?_⟩
    obtain ⟨A', O', R', S⟩ := R.put (A1 := fun _ => False) (s := .fz) (v := .int (f a b)) (d := .int (f a b)) (as := []) e1 (fun _ q => q.elim) (.fz (.int _)) List.nodup_nil (fun _ q => (by cases q)) hi hp
    exact h3 _ _ _ _ R' S
  cases o <;> cases op <;> first | (cases ho; done) | skip
  · refine PS.weak (ps_aug (by rw [g.N]; exact g.nd) h1 h2 he ip_add h3) (fin _ fun x y T A O H k h => ?_)
    cases x <;> cases y <;> first | exact h.elim | exact ⟨_, _, rfl, rfl, h⟩
  · refine PS.weak (ps_aug (by rw [g.N]; exact g.nd) h1 h2 he ip_sub h3) (fin _ fun x y T A O H k h => ?_)
    cases x <;> cases y <;> first | exact h.elim | exact ⟨_, _, rfl, rfl, h⟩
end
end MP
/-! part u: the look at statements; defs. -/
namespace MP
open PySem PySem.Spec PyProof.Rows L2
/-- the list is made in the name's own step -/
def swC (sc : Scope) (y : Str) (py : Pos) (e : Expr) : Bool := match e with
  | .ListComp _ _ scope pos => (if sc.kind.isAnnotationScope then ScopeKind.function else sc.kind) == .function && sc.names.lookup y == some .local && py.line == pos.line && !(scope.names.any fun (n, k) => n == y && (k == .local || k == .cell))
  | .SetComp _ _ _ _ => true
  | .DictComp _ _ _ _ _ => true
  | _ => false
def lcB (e : MP.E) (ev : Expr) : Bool := match e, ev with
  | .lc _ _ _ _ _, .ListComp _ _ _ _ => true
  | _, _ => false
def isFz : MP.S → Option Nat
  | .fz i => some i
  | _ => none
section
variable (P : Prg) (pm : List Sh) (rs : Sh)
def fzs (Γ : List Sh) (l : List Nat) : Bool := l.all fun i => decide (sh Γ i = .fz) && decide (sh pm i = .fz)
mutual
def okSt : MP.S → Stc → Option (List Sh) → Stmt → Option (List Sh)
  | .set i s e, st, _, x => (match x with
    | .Assign [.Name y py] ev _ => if locB st i y && decide (i < st.Γ.length) && decide (sh pm i = .fz) && okE P st (.st s) e ev && (!swC st.sc y py ev || lcB e ev) then some (st.Γ.set i s) else none
    | _ => none)
  | .un tg e, st, _, x => (match x with
    | .Assign [.Tuple ts k p] ev _ => if okTg st tg (.Tuple ts k p) && fzs pm st.Γ (tgIx tg) && noSwap st.sc ts ev && okE P st (.st .fz) e ev then some st.Γ else none
    | _ => none)
  | .par i j a b, st, _, x => (match x with
    | .Assign [.Tuple [.Name x px, .Name y py] _ _] (.Tuple [ea, eb] _ _) _ => if decide (st.N[i]? = some x) && decide (st.N[j]? = some y) && decide (i ≠ j) && decide (st.sc.names.lookup x = some .local) && decide (st.sc.names.lookup y = some .local) && !(x == y) &&
        decide (st.sc.kind = .function) && (py.line == px.line) && !isStar ea && !isStar eb && !([ea, eb].all (foldedForSure 8)) && !([ea, eb].all (constantsAlone 8)) && fzs pm st.Γ [i, j] && okEs P st [.fz, .fz] (.cons a (.cons b .nil)) [ea, eb] then some st.Γ else none
    | _ => none)
  | .mu m p s e, st, _, x => (match m, p with
    | .append, .v i => (match x with
      | .Expr (.Call (.Attribute (.Name y _) nm ap) [ee] [] cp) _ => if decide (nm = ("append" : Str)) && nmB st i y && decide (sh st.Γ i = .ls s) && (ap.endLine == cp.line) && !isStar ee && okE P st (.st s) e ee then some st.Γ else none
      | _ => none)
    | .append, .ix i (.c (.int k)) => (match x with
      | .Expr (.Call (.Attribute (.Subscript (.Name y _) (.Constant (.int k') _ _) _) nm ap) [ee] [] cp) _ => if decide (nm = ("append" : Str)) && decide (k = k') && nmB st i y && pthB (sh st.Γ i) k s && (ap.endLine == cp.line) && !isStar ee && okE P st (.st s) e ee then some st.Γ else none
      | _ => none)
    | _, _ => none)
  | .si p k e, st, _, x => (match p with
    | .v i => (match x with
      | .Assign [.Subscript (.Name y _) ek _] ev _ => if nmB st i y && decide (sh st.Γ i = .ls .fz) && !isSlc ek && !isLc ev && okE P st (.st .fz) k ek && okE P st (.st .fz) e ev then some st.Γ else none
      | _ => none)
    | _ => none)
  | .par2 _ _ _ _ _, _, _, _ => none
  | .aug i o e, st, _, x => (match x with
    | .AugAssign (.Name y _) op ee _ => if locB st i y && (match o, op with | .add, .Add => true | .sub, .Sub => true | _, _ => false) && decide (i < st.Γ.length) && decide (sh st.Γ i = .fz) && decide (sh pm i = .fz) && okE P st (.st .fz) e ee then some (st.Γ.set i .fz) else none
    | _ => none)
  | .appPop _ _ _, _, _, _ => none
  | .ex e, st, _, x => (match x with
    | .Expr ee _ => if !isLc ee && okE P st .op e ee then some st.Γ else none
    | _ => none)
  | .ifs c a b, st, l, x => (match x with
    | .If ec xa xb _ => if okE P st .op c ec then (match okSs a st l xa, okSs b st l xb with
      | some Γa, some Γb => if !fallsS a then some Γb else if !fallsS b then some Γa else if Γa = Γb then some Γa else none
      | _, _ => none) else none
    | _ => none)
  | .for_ tg it b, st, l, x => (match x with
    | .For et ei xb [] _ => if okTg st tg et && fzs pm st.Γ (tgIx tg) && okIt P true st it et ei then (match okSs b st (some st.Γ) xb with
      | some Γb => if !fallsS b || decide (Γb = st.Γ) then some st.Γ else none
      | none => none) else none
    | _ => none)
  | .whl c b, st, l, x => (match x with
    | .While ec xb [] _ => if okE P st .op c ec then (match okSs b st (some st.Γ) xb with
      | some Γb => if !fallsS b || decide (Γb = st.Γ) then some st.Γ else none
      | none => none) else none
    | _ => none)
  | .ret e, st, _, x => (match x with
    | .Return (some ee) _ => if okE P st (.st rs) e ee then some st.Γ else none
    | _ => none)
  | .retv i, st, _, x => (match x with
    | .Return (some (.Name y _)) _ => if nmB st i y && decide (sh st.Γ i = rs) && allFz pm then some st.Γ else none
    | _ => none)
  | .retN, st, _, x => (match x with
    | .Return none _ => some st.Γ
    | _ => none)
  | .brk, st, l, x => (match x with
    | .Break _ => if l = some st.Γ then some st.Γ else none
    | _ => none)
  | .cnt, st, l, x => (match x with
    | .Continue _ => if l = some st.Γ then some st.Γ else none
    | _ => none)
  | .pas, st, _, x => (match x with
    | .Pass _ => some st.Γ
    | _ => none)
  | .fz _, _, _, _ => none
def okSs : Ss → Stc → Option (List Sh) → List Stmt → Option (List Sh)
  | .nil, st, _, xs => if xs.isEmpty then some st.Γ else none
  | .cons s r, st, l, xs => (match isFz s with
    | some i => if decide (i < st.Γ.length) && allFz pm then okSs r { st with Γ := st.Γ.set i .fz } l xs else none
    | none => (match xs with
      | x :: xs => (match okSt s st l x with
        | some Γ' => okSs r { st with Γ := Γ' } l xs
        | none => none)
      | [] => none))
end
end
section
variable {W : Wd} {n : Nat} {E : XK} {C : FC} {X : Cx}
theorem gdΓ {st : Stc} (g : Gd W n st E X) (Γ : List Sh) : Gd W n { st with Γ := Γ } E X := ⟨g.prog, g.w, g.K, g.mg, g.base, g.N, g.nd, g.sc, g.fn, g.calm, g.room, g.gd, g.un, g.px⟩
theorem if_some {α : Type} {c : Bool} {x : Option α} {a : α} (h : (if c = true then x else none) = some a) : c = true ∧ x = some a := by
  cases c with
  | true => exact ⟨rfl, h⟩
  | false => cases h
theorem nb {b : Bool} (h : (!b) = true) : b = false := by simpa using h
theorem ifs_out {Γa Γb Γ' : List Sh} {fa fb : Bool} (h : (if (!fa) = true then some Γb else if (!fb) = true then some Γa else if Γa = Γb then some Γa else none) = some Γ') : (Γ' = Γa ∨ fa = false) ∧ (Γ' = Γb ∨ fb = false) := by
  cases fa with
  | false => cases h; exact ⟨.inr rfl, .inl rfl⟩
  | true =>
    cases fb with
    | false => cases h; exact ⟨.inl rfl, .inr rfl⟩
    | true =>
      simp only [Bool.not_true, Bool.false_eq_true, if_false] at h
      by_cases e : Γa = Γb
      · rw [if_pos e] at h
        cases h
        exact ⟨.inl rfl, .inl e⟩
      · rw [if_neg e] at h; cases h
theorem loop_out {Γa Γ Γ' : List Sh} {f : Bool} (h : (if (!f || decide (Γa = Γ)) = true then some Γ else none) = some Γ') : Γ' = Γ ∧ (Γa = Γ ∨ f = false) := by
  obtain ⟨h1, h2⟩ := if_some h
  cases h2
  refine ⟨rfl, ?_⟩
  rw [Bool.or_eq_true] at h1
  rcases h1 with h1 | h1
  · exact .inr (nb h1)
  · exact .inl (of_decide_eq_true h1)
theorem fzs_all {Γ : List Sh} {l : List Nat} (h : fzs C.pm Γ l = true) : l.all (fun i => decide (sh Γ i = .fz) && decide (sh C.pm i = .fz)) = true := h
mutual
theorem s_ok (wk : Wk W n) (po : PassesOwn (model X.prog X.w) X.A X.env X.xe) : ∀ (s : MP.S) (st : Stc) (l : Option (List Sh)) (x : Stmt) (Γ' : List Sh), okSt W.P C.pm C.rs s st l x = some Γ' → Gd W n st E X → PS X x (semS W n E C st.Γ Γ' l s)
  | .set i s e, st, l, x, Γ', h, g => by
    unfold okSt at h
    split at h
    · rename_i y py ev pos
      obtain ⟨h9, h6⟩ := if_some h
      clear h
      cases h6
      have h := h9
      obtain ⟨h, h5⟩ := shp2' h
      obtain ⟨h, h4⟩ := shp2' h
      obtain ⟨h, h3⟩ := shp2' h
      obtain ⟨h1, h2⟩ := shp2' h
      have h2 := of_decide_eq_true h2
      have h3 := of_decide_eq_true h3
      by_cases hsw : swC st.sc y py ev = true
      · rw [hsw] at h5
        have h5 : lcB e ev = true := h5
        unfold lcB at h5
        clear h9
        split at h5
        · rename_i elt tg it ci vs _ _ _ _ _ _
          unfold okE at h4
          split at h4
          · rename_i heq
            cases heq
            split at h4
            · rename_i s1 hs1
              obtain ⟨h4, q7⟩ := shp2' h4
              obtain ⟨h4, q6⟩ := shp2' h4
              obtain ⟨h4, q5⟩ := shp2' h4
              obtain ⟨h4, q4⟩ := shp2' h4
              obtain ⟨h4, q3⟩ := shp2' h4
              obtain ⟨q1, q2⟩ := shp2' h4
              have pi := it_ok wk it false st _ _ q5
              have pc := ec_ok wk ci _ _ q6
              have pe := e_ok wk elt _ _ _ q7
              unfold swC at hsw
              obtain ⟨hsw, w4⟩ := shp2' hsw
              obtain ⟨hsw, w3⟩ := shp2' hsw
              obtain ⟨w1, w2⟩ := shp2' hsw
              unfold locB at h1
              exact ps_set_lc g wk (shp2' h1).1 (by simpa using w2) h2 h3 (by rw [w1, w3, w4]; rfl) hs1 q1 q2 q3 q4 (okIt_set q5) (pi E X g) (fun X' g' => pc E0 X' g') (fun X' g' => pe.pe E0 X' g')
            · cases h4
          · cases h4
        · cases h5
      · refine ps_set_ g h1 h2 h3 ((e_ok wk e st _ _ h4).pe E X g) ?_
        cases ev <;> first | rfl | (exfalso; exact hsw rfl) | skip
        rw [sw_eq]
        unfold swC at hsw
        unfold Env.blockKind Env.kindOf
        rw [g.sc]
        congr 1
        exact Bool.not_eq_true _ |>.mp hsw
    · cases h
  | .un tg e, st, l, x, Γ', h, g => by
    unfold okSt at h
    split at h
    · obtain ⟨h9, h6⟩ := if_some h
      clear h
      cases h6
      have h := h9
      obtain ⟨h, h4⟩ := shp2' h
      obtain ⟨h, h3⟩ := shp2' h
      obtain ⟨h1, h2⟩ := shp2' h
      exact ps_un_ g h1 h2 h3 ((e_ok wk e st _ _ h4).pe E X g)
    · cases h
  | .par i j a b, st, l, x, Γ', h, g => by
    unfold okSt at h
    split at h
    · obtain ⟨h9, h6⟩ := if_some h
      clear h
      cases h6
      have h := h9
      obtain ⟨h, q14⟩ := shp2' h
      obtain ⟨h, q13⟩ := shp2' h
      obtain ⟨h, q12⟩ := shp2' h
      obtain ⟨h, q11⟩ := shp2' h
      obtain ⟨h, q10⟩ := shp2' h
      obtain ⟨h, q9⟩ := shp2' h
      obtain ⟨h, q8⟩ := shp2' h
      obtain ⟨h, q7⟩ := shp2' h
      obtain ⟨h, q6⟩ := shp2' h
      obtain ⟨h, q5⟩ := shp2' h
      obtain ⟨h, q4⟩ := shp2' h
      obtain ⟨h, q3⟩ := shp2' h
      obtain ⟨q1, q2⟩ := shp2' h
      have fi := List.all_eq_true.mp q13 i (by simp)
      have fj := List.all_eq_true.mp q13 j (by simp)
      exact ps_par_ g (of_decide_eq_true q1) (of_decide_eq_true q2) (of_decide_eq_true q3) (of_decide_eq_true q4) (of_decide_eq_true q5) (nb q6) (of_decide_eq_true q7) q8 (nb q9) (nb q10) (nb q11) (nb q12)
        (of_decide_eq_true (shp2' fi).1) (of_decide_eq_true (shp2' fj).1) (of_decide_eq_true (shp2' fi).2) (of_decide_eq_true (shp2' fj).2) q14 (es_ok wk _ st _ _ q14 E X g)
    · cases h
  | .mu m p s e, st, l, x, Γ', h, g => by
    unfold okSt at h
    split at h
    · split at h
      · obtain ⟨h9, h7⟩ := if_some h
        clear h
        cases h7
        have h := h9
        obtain ⟨h, h6⟩ := shp2' h
        obtain ⟨h, h5⟩ := shp2' h
        obtain ⟨h, h4⟩ := shp2' h
        obtain ⟨h, h3⟩ := shp2' h
        obtain ⟨h1, h2⟩ := shp2' h
        have h1 := of_decide_eq_true h1
        subst h1
        exact ps_app_ g h2 (of_decide_eq_true h3) h4 (nb h5) ((e_ok wk e st _ _ h6).pe E X g)
      · cases h
    · split at h
      · obtain ⟨h9, h7⟩ := if_some h
        clear h
        cases h7
        have h := h9
        obtain ⟨h, h6⟩ := shp2' h
        obtain ⟨h, h5⟩ := shp2' h
        obtain ⟨h, h4⟩ := shp2' h
        obtain ⟨h, h3⟩ := shp2' h
        obtain ⟨h, h2⟩ := shp2' h
        obtain ⟨h1, h0⟩ := shp2' h
        have h1 := of_decide_eq_true h1
        have h0 := of_decide_eq_true h0
        subst h1 h0
        exact ps_appP_ g h2 h3 h4 (nb h5) ((e_ok wk e st _ _ h6).pe E X g)
      · cases h
    · cases h
  | .si p k e, st, l, x, Γ', h, g => by
    unfold okSt at h
    split at h
    · split at h
      · obtain ⟨h9, h7⟩ := if_some h
        clear h
        cases h7
        have h := h9
        obtain ⟨h, h6⟩ := shp2' h
        obtain ⟨h, h5⟩ := shp2' h
        obtain ⟨h, h4⟩ := shp2' h
        obtain ⟨h, h3⟩ := shp2' h
        obtain ⟨h1, h2⟩ := shp2' h
        exact ps_si_ g h1 (of_decide_eq_true h2) (nb h3) (nb h4) ((e_ok wk k st _ _ h5).pe E X g) ((e_ok wk e st _ _ h6).pe E X g)
      · cases h
    · cases h
  | .par2 _ _ _ _ _, st, l, x, Γ', h, g => by unfold okSt at h; cases h
  | .appPop _ _ _, st, l, x, Γ', h, g => by unfold okSt at h; cases h
  | .fz _, st, l, x, Γ', h, g => by unfold okSt at h; cases h
  | .aug i o e, st, l, x, Γ', h, g => by
    unfold okSt at h
    split at h
    · obtain ⟨h9, h7⟩ := if_some h
      clear h
      cases h7
      have h := h9
      obtain ⟨h, h6⟩ := shp2' h
      obtain ⟨h, h5⟩ := shp2' h
      obtain ⟨h, h4⟩ := shp2' h
      obtain ⟨h, h3⟩ := shp2' h
      obtain ⟨h1, h2⟩ := shp2' h
      exact ps_aug_ g h1 h2 (of_decide_eq_true h3) (of_decide_eq_true h4) (of_decide_eq_true h5) ((e_ok wk e st _ _ h6).pe E X g)
    · cases h
  | .ex e, st, l, x, Γ', h, g => by
    unfold okSt at h
    split at h
    · obtain ⟨h9, h7⟩ := if_some h
      clear h
      cases h7
      have h := h9
      obtain ⟨h1, h2⟩ := shp2' h
      exact ps_ex_ ((e_ok wk e st _ _ h2).pe E X g) (nb h1)
    · cases h
  | .ifs c a b, st, l, x, Γ', h, g => by
    unfold okSt at h
    split at h
    · obtain ⟨h1, h⟩ := if_some h
      split at h
      · rename_i Γa Γb ha hb
        obtain ⟨qa, qb⟩ := ifs_out h
        exact ps_if_ ((e_ok wk c st _ _ h1).pt rfl E X g).pt (ss_ok wk po a st l _ Γa ha g) (ss_ok wk po b st l _ Γb hb g) qa qb
      · cases h
    · cases h
  | .for_ tg it b, st, l, x, Γ', h, g => by
    unfold okSt at h
    split at h
    · obtain ⟨h1, h⟩ := if_some h
      obtain ⟨h1, h3⟩ := shp2' h1
      obtain ⟨h1, h2⟩ := shp2' h1
      split at h
      · rename_i Γb hb
        obtain ⟨e, q⟩ := loop_out h
        subst e
        exact ps_for_ g po h1 h2 (okIt_set h3) (it_ok wk it true st _ _ h3 E X g) (ss_ok wk po b st _ _ Γb hb g) q
      · cases h
    · cases h
  | .whl c b, st, l, x, Γ', h, g => by
    unfold okSt at h
    split at h
    · obtain ⟨h1, h⟩ := if_some h
      split at h
      · rename_i Γb hb
        obtain ⟨e, q⟩ := loop_out h
        subst e
        exact ps_whl_ g po ((e_ok wk c st _ _ h1).pt rfl E X g).pt (ss_ok wk po b st _ _ Γb hb g) q
      · cases h
    · cases h
  | .ret e, st, l, x, Γ', h, g => by
    unfold okSt at h
    split at h
    · obtain ⟨h1, h⟩ := if_some h
      exact ps_ret_ ((e_ok wk e st _ _ h1).pe E X g)
    · cases h
  | .retv i, st, l, x, Γ', h, g => by
    unfold okSt at h
    split at h
    · obtain ⟨h, h7⟩ := if_some h
      obtain ⟨h, h3⟩ := shp2' h
      obtain ⟨h1, h2⟩ := shp2' h
      exact ps_retv_ g h1 (of_decide_eq_true h2) h3
    · cases h
  | .retN, st, l, x, Γ', h, g => by
    unfold okSt at h
    split at h
    · exact ps_retN_
    · cases h
  | .brk, st, l, x, Γ', h, g => by
    unfold okSt at h
    split at h
    · split at h
      · rename_i hl
        subst hl
        exact ps_brk_
      · cases h
    · cases h
  | .cnt, st, l, x, Γ', h, g => by
    unfold okSt at h
    split at h
    · split at h
      · rename_i hl
        subst hl
        exact ps_cnt_
      · cases h
    · cases h
  | .pas, st, l, x, Γ', h, g => by
    unfold okSt at h
    split at h
    · cases h
      exact ps_pas_
    · cases h
theorem ss_ok (wk : Wk W n) (po : PassesOwn (model X.prog X.w) X.A X.env X.xe) : ∀ (s : Ss) (st : Stc) (l : Option (List Sh)) (xs : List Stmt) (Γ' : List Sh), okSs W.P C.pm C.rs s st l xs = some Γ' → Gd W n st E X → PSs X xs (semSs W n E C st.Γ Γ' l s)
  | .nil, st, l, xs, Γ', h, g => by
    unfold okSs at h
    cases xs with
    | nil => cases h; exact pss_nil_
    | cons _ _ => cases h
  | .cons s r, st, l, xs, Γ', h, g => by
    unfold okSs at h
    split at h
    · rename_i i hi
      obtain ⟨h1, h⟩ := if_some h
      obtain ⟨h1, h2⟩ := shp2' h1
      cases s <;> first | (cases hi; done) | skip
      cases hi
      exact pss_fz_ (of_decide_eq_true h1) h2 (ss_ok wk po r _ l xs Γ' h (gdΓ g _))
    · split at h
      · split at h
        · rename_i Γ1 h1
          exact pss_cons_ (s_ok wk po s st l _ Γ1 h1 g) (ss_ok wk po r _ l _ Γ' h (gdΓ g _))
        · cases h
      · cases h
end
end
end MP
/-! part v: defs keep what the small language says. -/
namespace MP
open PySem PySem.Spec PyProof.Rows L2
/-- a def's text -/
structure FT where
  N : List Str
  ps : List Str
  sc : Scope
  bd : List Stmt
def startΓ (f : Fn) : List Sh := (List.range f.ns).map (sh f.pm)
def okFn (P : Prg) (f : Fn) (t : FT) : Bool := C8.scC t.N t.ps t.sc && decide (t.ps.length = f.np) && decide (t.N.length = f.ns) && decide (f.pm.length ≤ f.np) && decide (f.np ≤ f.ns) &&
  (okSs P f.pm f.rs f.body ⟨t.N, t.sc, fun _ => true, startΓ f⟩ none t.bd).isSome
theorem sh_start {f : Fn} (h1 : f.pm.length ≤ f.np) (h2 : f.np ≤ f.ns) (i : Nat) : sh (startΓ f) i = sh f.pm i := by
  unfold startΓ
  unfold sh
  rw [List.getD_eq_getElem?_getD, List.getD_eq_getElem?_getD, List.getElem?_map]
  by_cases h : i < f.ns
  · rw [List.getElem?_range h]
    show sh f.pm i = _
    unfold sh
    rw [List.getD_eq_getElem?_getD]
  · rw [List.getElem?_eq_none (by rw [List.length_range]; omega), List.getElem?_eq_none (by omega)]
    rfl
section
variable {W : Wd} {n : Nat}
theorem cx_own {CX : CXT} {P : Program} {w : World} {K : PySem.W.Frag} {mg : Str → Option Value} {base : Heap} {N : List Str} {qual : Str} {sc : Scope} {f : Addr} {cd : Value} {A : Around} {outer : List PySem.Env} {s : Shared} {H : Hp} {E : XK} :
    PassesOwn (model (cxOf CX P w K mg base N qual sc f cd A outer s H E).prog (cxOf CX P w K mg base N qual sc f cd A outer s H E).w) (cxOf CX P w K mg base N qual sc f cd A outer s H E).A (cxOf CX P w K mg base N qual sc f cd A outer s H E).env (cxOf CX P w K mg base N qual sc f cd A outer s H E).xe :=
  passes_of (X := cxOf CX P w K mg base N qual sc f cd A outer s H E) rfl
theorem fin_get {np : Nat} {ρ : En} {i : Nat} {d d' : D} (h : (finals np ρ)[i]? = some d) (h2 : ρ[i]? = some (some d')) : d = d' := by
  unfold finals at h
  rw [List.getElem?_map] at h
  by_cases hi : i < np
  · rw [List.getElem?_take_of_lt hi, h2] at h
    cases h
    rfl
  · rw [List.getElem?_eq_none (by rw [List.length_take]; omega)] at h
    cases h
/-- a def's body -/
theorem fn_body (wk : Wk W n) (hpx : ∀ (X : Cx) (E : XK), Passes W.CX X E) {k : Nat} {f : Fn} {t : FT} (hP : W.P[k]? = some f) (ok : okFn W.P f t = true) {qual : Str} {fa : Addr} {cdv : Value} {A : Around} {outer : List PySem.Env} {s : Shared} {H : Hp} {vs : List V} {Q : VK} {E : XK}
    (hr : Room n (A.deeper (envOfC qual t.sc s.heap.objs.size fa cdv))) (hg : A.guards = some []) (h : spF W (n + 1) k vs H Q E) :
    ∃ u, PSs (cxOf W.CX W.prog W.w W.K W.mg W.base t.N qual t.sc fa cdv A outer s H E) t.bd u ∧ u { nx := fun _ H' => Q .non H', rt := Q } (L2.start t.N vs) H := by
  obtain ⟨f', hP', hlv, ds, A0, O, ag, h⟩ := h
  rw [hP] at hP'
  cases hP'
  unfold okFn at ok
  obtain ⟨ok, k6⟩ := shp2' ok
  obtain ⟨ok, k5⟩ := shp2' ok
  obtain ⟨ok, k4⟩ := shp2' ok
  obtain ⟨ok, k3⟩ := shp2' ok
  obtain ⟨k1, k2⟩ := shp2' ok
  have k2 := of_decide_eq_true k2
  have k3 := of_decide_eq_true k3
  have k4 := of_decide_eq_true k4
  have k5 := of_decide_eq_true k5
  have S := C8.fnScope_by k1
  obtain ⟨Γ', hΓ⟩ := Option.isSome_iff_exists.mp k6
  have hld : ds.length = f.np := by rw [← ag.len, hlv]
  have g : Gd W n ⟨t.N, t.sc, fun _ => true, startΓ f⟩ E (cxOf W.CX W.prog W.w W.K W.mg W.base t.N qual t.sc fa cdv A outer s H E) :=
    { prog := rfl, w := rfl, K := rfl, mg := rfl, base := rfl, N := rfl, nd := S.nd, sc := rfl, fn := fun _ _ => rfl, calm := rfl, room := hr, gd := hg, un := by have := hr.un; show (A.deeper _).units + 100 < _; omega, px := hpx _ _ }
  refine ⟨_, ss_ok (C := ⟨f.np, f.pm, f.rs, vs⟩) wk cx_own f.body _ none t.bd Γ' hΓ g, startE f.ns ds, fun a => A0 a ∧ H a ≠ none, O, ?_, ?_⟩
  · refine ⟨?_, fun i d hd => ?_, ag.nd, ag.dj, fun i a ha z => ag.sep i a ha z.1, fun a q => q.2, fun i a ha => ?_, fun i hi => ?_⟩
    · unfold L2.start startE
      rw [List.length_append, List.length_append, List.length_map, List.length_map, List.length_replicate, List.length_replicate, k3, ag.len]
    · unfold startE at hd
      have hi : i < ds.length := by
        rcases Nat.lt_or_ge i ds.length with q | q
        · exact q
        · exfalso
          rw [List.getElem?_append_right (by rw [List.length_map]; exact q)] at hd
          obtain ⟨_, z⟩ := List.getElem?_eq_some_iff.mp hd
          rw [List.getElem_replicate] at z
          cases z
      rw [List.getElem?_append_left (by rw [List.length_map]; exact hi), List.getElem?_map] at hd
      cases e : ds[i]? with
      | none => rw [e] at hd; cases hd
      | some d' =>
        rw [e] at hd
        cases hd
        obtain ⟨v, hv, o⟩ := ag.at_ i d e
        refine ⟨v, ?_, ?_⟩
        · unfold L2.start
          rw [List.getElem?_append_left (by rw [List.length_map, ag.len]; exact hi), List.getElem?_map, hv]
          rfl
        · rw [sh_start k4 k5]
          exact o.mono (fun a q t => ⟨q, t⟩) (fun _ _ _ q => q) fun _ _ _ q => q
    · by_cases hi : i < ds.length
      · obtain ⟨v, _, o⟩ := ag.at_ i ds[i] (List.getElem?_eq_getElem hi)
        exact o.tracked a ha
      · rw [ag.out i (by omega)] at ha
        cases ha
    · have hi2 : i < ds.length := by
        rcases Nat.lt_or_ge i ds.length with q | q
        · exact q
        · exfalso
          apply hi
          show sh f.pm i = .fz
          unfold sh
          rw [List.getD_eq_getElem?_getD, List.getElem?_eq_none (by omega)]
          rfl
      obtain ⟨v, hv, _⟩ := ag.at_ i ds[i] (List.getElem?_eq_getElem hi2)
      refine ⟨sh_start k4 k5 i, ds[i], v, ?_, hv, ?_⟩
      · unfold startE
        rw [List.getElem?_append_left (by rw [List.length_map]; exact hi2), List.getElem?_map, List.getElem?_eq_getElem hi2]
        rfl
      · unfold L2.start
        rw [List.getElem?_append_left (by rw [List.length_map, ag.len]; exact hi2), List.getElem?_map, hv]
        rfl
  · have hO : allFz f.pm = true → ∀ a, ¬ ownS O a := by
      rintro q a ⟨i, hi⟩
      by_cases hl : i < ds.length
      · obtain ⟨v, _, o⟩ := ag.at_ i ds[i] (List.getElem?_eq_getElem hl)
        rw [allFz_sh q i] at o
        rw [o.fzD.1] at hi
        cases hi
      · rw [ag.out i (by omega)] at hi
        cases hi
    have hsub : ∀ {A' O' H'}, Stp (allFz f.pm) (fun a => A0 a ∧ H a ≠ none) O H A' O' H' → ∀ a, A' a → Nw A0 H a := fun s a q => by
      rcases s.sub a q with (q | q) | ⟨q, z⟩
      · exact .inl q.1
      · exact .inr q
      · exact absurd z (hO q a)
    have ec : callF W.P (n + 1) k ds = runFn (callF W.P n) f ds := by
      show (match W.P[k]? with | some f => runFn (callF W.P n) f ds | none => .bad) = _
      rw [hP]
    rw [ec] at h
    unfold runFn at h
    rw [if_pos hld] at h
    cases ex : exSs (callF W.P n) f.body (startE f.ns ds) with
    | bad => rw [ex] at h; exact h.elim
    | exc c => rw [ex] at h; exact h
    | ok fl =>
      rw [ex, ok_bind] at h
      cases fl with
      | brk ρ => exact h.elim
      | cnt ρ => exact h.elim
      | nx ρ =>
        intro σ' H' A' O' R s
        simp only at h
        by_cases hrs : f.rs = .fz
        · rw [if_pos hrs] at h
          refine h .non H' [] A' O' s.chg (hsub s) (by rw [hrs]; exact .fz .non) List.nodup_nil (fun _ q => (by cases q)) ⟨fun i d hi hd => ?_, R.nd, R.dj, R.sep⟩ fun i a ha => ⟨s.own a ⟨i, ha⟩, fun q => (by cases q)⟩
          obtain ⟨d', v, q1, q2, q3⟩ := R.ret i hi
          have := fin_get hd q1
          subst this
          exact ⟨v, q2, q3⟩
        · rw [if_neg hrs] at h
          exact h.elim
      | ret d ρ =>
        simp only at h
        by_cases hsk : shOk f.rs d = true
        · rw [if_pos hsk] at h
          refine ⟨hsk, fun v H' A' O' as s r fr => ?_⟩
          refine h v H' as A' O' s.chg (hsub s) r.ow r.nd (fun a ha => ⟨?_, (r.fr a ha).1⟩) ⟨fun i d' hi hd => ?_, r.ndO, r.dj, r.sep⟩ fun i a ha => ⟨s.own a ⟨i, ha⟩, fun q => (r.fr a q).2 ⟨i, ha⟩⟩
          · rcases fr a ha with q | ⟨q, z⟩
            · exact q
            · exact absurd z (hO q a)
          · obtain ⟨d9, v9, q1, q2, q3⟩ := r.at_ i hi
            have := fin_get hd q1
            subst this
            exact ⟨v9, q2, q3⟩
        · rw [if_neg hsk] at h
          exact h.elim
end
end MP
/-! part w: the whole text; the law's end. -/
namespace MP
open PySem PySem.Spec PyProof.Rows L2
/-- the script's heap: it may be tracked, frozen -/
theorem law_G {P : Program} {w : World} {K : PySem.W.Frag} {mg mb : Str → Option Value} {n : Nat} {fa a : Addr} {fd : FuncData} {x : Str} {sp : Sp} {s1 : Shared} {us : List Value} {ns : List Int}
    (inK : K.In s1.heap) (nsG : s1.heap.Ns mainGlobals mg) (nsB : s1.heap.Ns builtinsNs mb) (bB : ∀ y : Str, y ≠ "__name__" → mb y = bootBuiltins y) (nl : s1.heap.NoLimit) (gn : s1.gens = #[])
    (oa : s1.heap.get? a = some { cls := .type "list", data := .seq us.toArray }) (ia : IntsAre us ns) (sz : ns.length ≤ sizeLine) (rm : Room n callerA)
    (F : ∀ bs : Heap, K.In bs → bs.Ns mainGlobals mg → FnG P w K mg bs (fun _ _ _ _ _ _ => False) n fa fd [x] sp) (bd : ∀ (s : Shared) (u : Value), BindsTo s fd ⟨[u], []⟩ [(x, u)])
    (hs : ∀ H : Hp, SqL K H a (ns.map V.int) → sp [.ref a] H (fun v _ => v = .bl true) fun _ _ _ => False) :
    codeAny (model P w) callerA (.call (.ref fa) ⟨[.ref a], []⟩) (fun r s' => r = .ok (.ret (.bool true)) ∧ OldK s1.heap s'.heap ∧ s'.os = s1.os ∧ AllBare s'.gens) s1 := by
  have vi := vals_ints ia
  have go : ∀ H : Hp, SqL K H a (ns.map V.int) → (∀ b u, H b = some u → b = a ∧ K.lookup a = none ∧ u = .frz { cls := .type "list", data := .seq us.toArray } (.lst (ns.map V.int))) →
      codeAny (model P w) callerA (.call (.ref fa) ⟨[.ref a], []⟩) (fun r s' => r = .ok (.ret (.bool true)) ∧ OldK s1.heap s'.heap ∧ s'.os = s1.os ∧ AllBare s'.gens) s1 := by
    intro H sq on
    have ok0 : HOk P w H s1.heap := fun b u e => by
      obtain ⟨rfl, _, rfl⟩ := on b u e
      exact ⟨oa, (by rw [List.length_map]; exact sz), us, _, vi, oa⟩
    have off : ∀ {b : Addr} {o : Obj}, s1.heap.get? b = some o → (b = a → o = { cls := .type "list", data := .seq us.toArray } → K.lookup a = none → False) → (hidT s1.heap H).get? b = some o := fun {b o} e q => by
      refine hidT_get e ?_
      cases t : H b with
      | none => rfl
      | some u =>
        obtain ⟨rfl, k, _⟩ := on b u t
        rw [oa] at e
        exact (q rfl (Option.some.inj e).symm k).elim
    have nsT : ∀ {b : Addr} {m : Str → Option Value}, s1.heap.Ns b m → (hidT s1.heap H).Ns b m := by
      rintro b m ⟨o, es, ep, e, d, r⟩
      refine ⟨o, es, ep, off e fun _ z _ => ?_, d, r⟩
      subst z
      cases d
    have kT : K.In (hidT s1.heap H) := fun b o e => off (inK b o e) fun z _ k => by
      subst z
      rw [k] at e
      cases e
    have e0 : Env0 P w K mg (hidT s1.heap H) callerA [] s1 H :=
      { frames := rfl
        mod := ⟨kT, nsT nsG, ⟨mb, nsT nsB, bB⟩, let ⟨c, p, q⟩ := nl; ⟨c, nsT p, q⟩⟩
        bs := fun _ _ e => of_hidT e
        bsz := Nat.le_of_eq (hidT_size _ _)
        funs := trivial
        frf := fun b z => nomatch z
        hok := ok0
        bare := .of_eq gn }
    have main := (F _ kT (nsT nsG)).run callerA [] s1 H ⟨[.ref a], []⟩ [.ref a] [.ref a] _ _ rm rfl e0 (bd s1 (.ref a)) (.cons rfl .nil) (hs H sq)
    refine codeAny_mono main fun r s' h => ?_
    match r, h with
    | .error _, h => exact h.elim
    | .ok .next, h => exact False.elim h
    | .ok .brk, h => exact False.elim h
    | .ok .cont, h => exact False.elim h
    | .ok (.ret u), h =>
      obtain ⟨v, H', o1, o2, un, ok', rv, rfl⟩ := h
      cases u <;> first | cases rv | skip
      refine ⟨rfl, OldK.of_keep fun b o e => ?_, o1, o2⟩
      cases t : H b with
      | none => exact un.keep b o e t (fun z => nomatch z) (fun z => nomatch z)
      | some u =>
        obtain ⟨rfl, _, rfl⟩ := on b u t
        rw [oa] at e
        cases e
        exact (ok' b _ (un.frzs b _ _ t)).1
  cases k : K.lookup a with
  | some o =>
    have e := inK a o k
    rw [oa] at e
    cases e
    exact go (fun _ => none) (.inr ⟨_, us.toArray, _, k, rfl, rfl, rfl, (by rw [List.size_toArray, ia.length]; exact sz), by simpa using vi⟩) fun _ _ z => nomatch z
  | none =>
    refine go (fun b => if b = a then some (.frz { cls := .type "list", data := .seq us.toArray } (.lst (ns.map V.int))) else none) (.inl (.inr ⟨_, if_pos rfl⟩)) fun b u z => ?_
    by_cases q : b = a
    · have z := (if_pos q).symm.trans z
      exact ⟨q, k, (Option.some.inj z).symm⟩
    · have z := (if_neg q).symm.trans z
      cases z
/-- a row of the text: a def, its names, where it stands -/
structure Row where
  f : Fn
  N : List Str
  ps : List Str
  i : Nat
section
variable (top : Nat → Stmt) (rows : List Row)
def Row.dd (r : Row) : He.DefD := ⟨(r.f.name, none), r.f.name, r.f.name, defArgs (top r.i), defBody (top r.i), defScope (top r.i), [], []⟩
def Row.ft (r : Row) : FT := ⟨r.N, r.ps, defScope (top r.i), defBody (top r.i)⟩
def fnO : List He.DefD := rows.map (Row.dd top)
def faO : List He.Fa := rows.map (fun r => .glo r.f.name) ++ blts.map He.Fa.free
def prgO : Prg := rows.map (·.f)
def okAll : Bool := rows.all fun r => okFn (prgO rows) r.f (r.ft top)
/-- a def's arguments go by their order -/
def BindAll : Prop := ∀ r ∈ rows, ∀ (kV doc pm : Value) (an : Option Addr) (cdv ct : Value) (us : List Value), us.length = r.ps.length →
  bindArgs (PySem.W.fnOf r.f.name r.f.name (defArgs (top r.i)) (defBody (top r.i)) (defScope (top r.i)) .none kV doc pm an cdv ct) ⟨us, []⟩ = pure (r.ps.zip us)
end
section
variable {top : Nat → Stmt} {rows : List Row} {prog : Program} {w : World} {K : PySem.W.Frag} {mg : Str → Option Value} {h : Heap}
def wd (rows : List Row) (prog : Program) (w : World) (K : PySem.W.Frag) (mg : Str → Option Value) (bs : Heap) : Wd := ⟨prgO rows, prog, w, K, mg, bs, fun _ _ _ _ _ _ => False, fun _ => 0⟩
theorem row_facts (X : K.In h) (G : h.Ns mainGlobals mg) (c : He.SaysD (faO rows) (fnO top rows) K) (hb : BindAll top rows) {k : Nat} {r : Row} (hr : rows[k]? = some r) :
    ∃ a fd, FunD K r.f.name r.f.name (defArgs (top r.i)) (defBody (top r.i)) (defScope (top r.i)) [] [] a fd ∧ mg r.f.name = some (.ref a) ∧ Binds K fd r.ps [] ∧ ∀ (s : Shared) (us : List Value), us.length = r.ps.length → BindsTo s fd ⟨us, []⟩ (r.ps.zip us) := by
  have hlt : k < rows.length := (List.getElem?_eq_some_iff.mp hr).1
  have h1 : (fnO top rows)[k]? = some (r.dd top) := by
    unfold fnO
    rw [List.getElem?_map, hr]
    rfl
  have h2 : (faO rows)[k]? = some (.glo r.f.name) := by
    unfold faO
    rw [List.getElem?_append_left (by rw [List.length_map]; exact hlt), List.getElem?_map, hr]
    rfl
  obtain ⟨fd, F⟩ := c.def_ k h1
  have F : FunD K r.f.name r.f.name (defArgs (top r.i)) (defBody (top r.i)) (defScope (top r.i)) [] [] _ fd := F
  have m := List.mem_of_getElem? hr
  exact ⟨_, fd, F, He.glo_ok X G (c.fact k h2), F.bindsN (hb r m), F.bindsA (hb r m)⟩
theorem rows_get {k : Nat} {f : Fn} {bs : Heap} (hk : (wd rows prog w K mg bs).P[k]? = some f) : ∃ r, rows[k]? = some r ∧ r.f = f := by
  have hk : (rows.map (·.f))[k]? = some f := hk
  rw [List.getElem?_map] at hk
  cases e : rows[k]? with
  | none => rw [e] at hk; cases hk
  | some r => rw [e] at hk; cases hk; exact ⟨r, rfl, rfl⟩
theorem rows_ok (ok : okAll top rows = true) {k : Nat} {r : Row} (hr : rows[k]? = some r) : okFn (prgO rows) r.f (r.ft top) = true := List.all_eq_true.mp ok _ (List.mem_of_getElem? hr)
theorem rows_len (ok : okAll top rows = true) {k : Nat} {r : Row} (hr : rows[k]? = some r) : r.ps.length = r.f.np := by
  have q := rows_ok ok hr
  unfold okFn at q
  exact of_decide_eq_true (shp2' (shp2' (shp2' (shp2' (shp2' q).1).1).1).1).2
theorem rows_P {k : Nat} {r : Row} {bs : Heap} (hr : rows[k]? = some r) : (wd rows prog w K mg bs).P[k]? = some r.f := by
  show (rows.map (·.f))[k]? = _
  rw [List.getElem?_map, hr]
  rfl
theorem fnG_row (ok : okAll top rows = true) {bs : Heap} {n k : Nat} {r : Row} (ih : Wk (wd rows prog w K mg bs) n) (hr : rows[k]? = some r) {a : Addr} {fd : FuncData} (F : FunD K r.f.name r.f.name (defArgs (top r.i)) (defBody (top r.i)) (defScope (top r.i)) [] [] a fd) :
    FnG prog w K mg bs (fun _ _ _ _ _ _ => False) (n + 1) a fd r.ps (spF (wd rows prog w K mg bs) (n + 1) k) := by
  have q := rows_ok ok hr
  have q1 := q
  unfold okFn at q1
  have S := C8.fnScope_by (shp2' (shp2' (shp2' (shp2' (shp2' q1).1).1).1).1).1
  obtain ⟨oc, od, dV, kV, doc, pm, an, cdv, ct, osl, rfl, lk, hcd, _, _⟩ := F.ex
  refine fnG_of lk hcd S (fun vs H Q E z => ?_) fun A out s H vs Q E hr' hg z => fn_body ih (fun _ _ _ _ _ _ _ _ _ z => z.elim) (rows_P hr) q hr' hg z
  obtain ⟨f', hf, hl, _⟩ := z
  rw [rows_P hr] at hf
  cases hf
  rw [hl]
  exact (rows_len ok hr).symm
theorem wk_all (X : K.In h) (G : h.Ns mainGlobals mg) (c : He.SaysD (faO rows) (fnO top rows) K) (hb : BindAll top rows) (ok : okAll top rows = true) (bs : Heap) : ∀ n, Wk (wd rows prog w K mg bs) n := by
  have hbl : ∀ x, x ∈ blts → mg x = none := by
    intro x hx
    have m : (He.Fa.free x) ∈ faO rows := List.mem_append_right _ (List.mem_map.mpr ⟨x, hx, rfl⟩)
    obtain ⟨i, hi, e⟩ := List.mem_iff_getElem.mp m
    exact He.free_ok X G (c.fact i (f := .free x) (by rw [List.getElem?_eq_getElem hi, e]))
  intro n
  induction n with
  | zero =>
    refine ⟨fun k f hk => ?_, hbl, fun _ _ _ _ _ _ _ _ _ _ z => z.elim⟩
    obtain ⟨r, hr, rfl⟩ := rows_get hk
    obtain ⟨a, fd, F, g1, b1, _⟩ := row_facts X G c hb hr
    have no : ∀ vs H Q E, ¬ spF (wd rows prog w K mg bs) 0 k vs H Q E := by
      rintro vs H Q E ⟨f, _, _, ds, A, O, _, z⟩
      exact z
    exact ⟨a, fd, r.ps, ⟨fun vs H Q E z => (no _ _ _ _ z).elim, fun A out s H args us vs Q E _ _ _ _ _ z => (no _ _ _ _ z).elim⟩, g1, F.kp, b1, rows_len ok hr⟩
  | succ n ih =>
    refine ⟨fun k f hk => ?_, hbl, fun _ _ _ _ _ _ _ _ _ _ z => z.elim⟩
    obtain ⟨r, hr, rfl⟩ := rows_get hk
    obtain ⟨a, fd, F, g1, b1, _⟩ := row_facts X G c hb hr
    exact ⟨a, fd, r.ps, fnG_row ok ih hr F, g1, F.kp, b1, rows_len ok hr⟩
/-- the law's promise from its value -/
theorem law_sp {kl : Nat} {r : Row} (hr : rows[kl]? = some r) (hnp : r.f.np = 1) (hpm : r.f.pm = []) (hrs : r.f.rs = .fz) {bs : Heap} {n : Nat} {ns : List Int} (hl : ns.length ≤ V1.LIM) (hv : ∃ fin, callF (prgO rows) n kl [V1.wk (ns.map PyData.int)] = .ok (.bool true, fin)) {H : Hp} {a : Addr} (hS : SqL K H a (ns.map V.int)) :
    spF (wd rows prog w K mg bs) n kl [.ref a] H (fun v _ => v = .bl true) fun _ _ _ => False := by
  obtain ⟨fin, hv⟩ := hv
  have hP : (wd rows prog w K mg bs).P[kl]? = some r.f := by
    show (rows.map (·.f))[kl]? = _
    rw [List.getElem?_map, hr]
    rfl
  have ri : ∀ (A : AS) (H : Hp) (l : List Int), RpL K A H (l.map V.int) (l.map PyData.int) := by
    intro A H l
    induction l with
    | nil => exact .nil
    | cons x l ih => exact .cons (.int x) ih
  refine ⟨r.f, hP, hnp.symm, [V1.wk (ns.map PyData.int)], fun _ => True, fun _ => [], ⟨rfl, fun i d hd => ?_, fun _ _ => rfl, fun _ => List.nodup_nil, fun _ _ _ a z => (by cases z), fun _ a z => (by cases z)⟩, ?_⟩
  · cases i with
    | zero =>
      cases hd
      refine ⟨.ref a, rfl, ?_⟩
      rw [hpm]
      refine .fz (.wk ?_ (by rw [List.length_map]; exact hl) (ri _ _ ns))
      rcases hS with z | z
      · exact .inl ⟨trivial, z⟩
      · exact .inr (.inr z)
    | succ i => simp at hd
  · have hv : callF (wd rows prog w K mg bs).P n kl [V1.wk (ns.map PyData.int)] = .ok (.bool true, fin) := hv
    rw [hv]
    intro v H' as A' O' ch hA ow nd fr _ _
    rw [hrs] at ow
    have rb := ow.fzD.2
    cases rb
    rfl
/-- THE END: a law over the text -/
theorem law_walk {l : PySem.W.OpenLaw} {m n : Nat} {q : Program} {loose : List Str} {XP : (Str → Option Value) → Heap → Prop} {d : DefRec} {x : Str} {kl : Nat} {r : Row}
    (hn : l.most = some m) (hm : m ≤ V1.LIM) (hdf : d.params.defaults = []) (hrm : Room (n + 1) callerA) (hr : rows[kl]? = some r) (hps : r.ps = [x]) (hnp : r.f.np = 1) (hpm : r.f.pm = []) (hrs : r.f.rs = .fz) (hnm : d.name = r.f.name)
    (hb : BindAll top rows) (ok : okAll top rows = true) (hv : ∀ ns : List Int, ns.length ≤ m → ∃ fin, callF (prgO rows) (n + 1) kl [V1.wk (ns.map PyData.int)] = .ok (.bool true, fin)) :
    PySem.W.WalkO q loose XP (fun _ h => ∃ K : PySem.W.Frag, K.In h ∧ He.SaysD (faO rows) (fnO top rows) K) l.row.toRowW d [] (fun f vs => PySem.call f vs) := by
  refine Att.attach_call hn hdf fun w s0 s1 mg mb fa o pm cd doc a us ns G Y ho hd hcd hmg hobj hints hlen hg => ?_
  obtain ⟨K, KX, c⟩ := Y
  obtain ⟨a2, fd, F, g1, b1, b2⟩ := row_facts KX G.T.g c hb hr
  have ea : a2 = fa := by
    rw [hnm, g1] at hmg
    cases hmg
    rfl
  subst ea
  refine law_G (fd := fd) (x := x) (n := n + 1) (sp := spF (wd rows l.prog w K mg s1.heap) (n + 1) kl) KX G.T.g G.T.b G.T.builtins G.T.nolimit hg hobj hints (by rw [← LIM_eq]; exact Nat.le_trans hlen hm) hrm (fun bs k1 k2 => ?_) (fun s u => ?_) fun H sq => law_sp hr hnp hpm hrs (Nat.le_trans hlen hm) (hv ns hlen) sq
  · have wk := wk_all (prog := l.prog) (w := w) KX G.T.g c hb ok bs n
    have := fnG_row (prog := l.prog) (w := w) ok wk hr F
    rw [hps] at this
    exact this
  · have := b2 s [u] (by rw [hps]; rfl)
    rw [hps] at this
    exact this
end
end MP
/-! part x: for the plain laws: what loops and lists give. -/
namespace MP
open PySem PySem.Spec PyProof.Rows L2
/-- the def k gives v -/
def Is (P : Prg) (n k : Nat) (args : List D) (v : D) : Prop := ∃ fin, callF P n k args = .ok (v, fin)
theorem is_ret {P : Prg} {n k : Nat} {f : Fn} {args : List D} {v : D} {ρ : En} (hP : P[k]? = some f) (hl : args.length = f.np) (hx : exSs (callF P n) f.body (startE f.ns args) = .ok (.ret v ρ)) (hs : shOk f.rs v = true) : Is P (n + 1) k args v := by
  refine ⟨finals f.np ρ, ?_⟩
  show (match P[k]? with | some f => runFn (callF P n) f args | none => .bad) = _
  rw [hP]
  show runFn (callF P n) f args = _
  unfold runFn
  rw [if_pos hl, hx, ok_bind]
  simp only [hs, if_true]
theorem ev_call {P : Prg} {n k : Nat} {es : Es} {ρ : En} {ds : List D} {v : D} (h : Is P n k ds v) (he : evEs (callF P n) es ρ = .ok ds) : evE (callF P n) (.call k es) ρ = .ok v := by
  obtain ⟨fin, h⟩ := h
  unfold evE
  rw [he, ok_bind, h]
  rfl
@[simp] theorem get_zero {d : D} {ρ : En} : get (some d :: ρ) 0 = .ok d := rfl
@[simp] theorem get_succ {o : Option D} {ρ : En} {i : Nat} : get (o :: ρ) (i + 1) = get ρ i := rfl
theorem ex_nx {cf : CF} {s : MP.S} {r : Ss} {ρ ρ' : En} (h : exS cf s ρ = .ok (.nx ρ')) : exSs cf (.cons s r) ρ = exSs cf r ρ' := by
  conv => lhs; unfold exSs
  rw [h]
  rfl
theorem ex_ret {cf : CF} {s : MP.S} {r : Ss} {ρ ρ' : En} {d : D} (h : exS cf s ρ = .ok (.ret d ρ')) : exSs cf (.cons s r) ρ = .ok (.ret d ρ') := by
  conv => lhs; unfold exSs
  rw [h]
  rfl
theorem ex_fz {cf : CF} {i : Nat} {ρ : En} : exS cf (.fz i) ρ = .ok (.nx ρ) := by unfold exS; rfl
theorem ex_set {cf : CF} {i : Nat} {s : Sh} {e : MP.E} {ρ : En} {d : D} (h : evE cf e ρ = .ok d) (hs : shOk s d = true) : exS cf (.set i s e) ρ = .ok (.nx (ρ.set i (some d))) := by
  unfold exS
  rw [h, ok_bind, if_pos hs]
theorem ex_rt {cf : CF} {e : MP.E} {ρ : En} {d : D} (h : evE cf e ρ = .ok d) : exS cf (.ret e) ρ = .ok (.ret d ρ) := by
  unfold exS
  rw [h]
  rfl
theorem ex_if {cf : CF} {c : MP.E} {a b : Ss} {ρ : En} {d : D} {t : Bool} (h : evE cf c ρ = .ok d) (ht : V1.tru d = .ok t) : exS cf (.ifs c a b) ρ = if t then exSs cf a ρ else exSs cf b ρ := by
  unfold exS
  rw [h, ok_bind, ht, ok_bind]
theorem ex_for {cf : CF} {tg : Tg} {it : MP.It} {b : Ss} {ρ : En} {xs : List D} (h : evIt cf it ρ = .ok xs) : exS cf (.for_ tg it b) ρ = forL xs (fun x ρ' => asg tg x ρ' >>= fun ρ2 => exSs cf b ρ2) ρ := by
  unfold exS
  rw [h]
  rfl
/-- a loop that is never left early -/
theorem forL_ind {f : D → En → Rs Fl} (I : Nat → En → Prop) : ∀ (xs : List D) (k : Nat) (ρ : En), I k ρ → (∀ i x ρ, xs[i]? = some x → I (k + i) ρ → ∃ ρ', (f x ρ = .ok (.nx ρ') ∨ f x ρ = .ok (.cnt ρ')) ∧ I (k + i + 1) ρ') → ∃ ρ', forL xs f ρ = .ok (.nx ρ') ∧ I (k + xs.length) ρ'
  | [], k, ρ, h0, _ => ⟨ρ, rfl, h0⟩
  | x :: xs, k, ρ, h0, hs => by
    obtain ⟨ρ1, e1, i1⟩ := hs 0 x ρ rfl h0
    obtain ⟨ρ2, e2, i2⟩ := forL_ind I xs (k + 1) ρ1 i1 fun i y ρ hy hi => by
      obtain ⟨ρ', e, q⟩ := hs (i + 1) y ρ (by rw [List.getElem?_cons_succ]; exact hy) (by rw [show k + (i + 1) = k + 1 + i by omega]; exact hi)
      exact ⟨ρ', e, by rw [show k + 1 + i + 1 = k + (i + 1) + 1 by omega]; exact q⟩
    refine ⟨ρ2, ?_, by rw [List.length_cons, show k + (xs.length + 1) = k + 1 + xs.length by omega]; exact i2⟩
    rw [forL_cons]
    rcases e1 with e1 | e1 <;> (rw [e1, ok_bind]; exact e2)
theorem forL_all {f : D → En → Rs Fl} (I : Nat → En → Prop) {xs : List D} {ρ : En} (h0 : I 0 ρ) (hs : ∀ i x ρ, xs[i]? = some x → I i ρ → ∃ ρ', (f x ρ = .ok (.nx ρ') ∨ f x ρ = .ok (.cnt ρ')) ∧ I (i + 1) ρ') : ∃ ρ', forL xs f ρ = .ok (.nx ρ') ∧ I xs.length ρ' := by
  obtain ⟨ρ', e, q⟩ := forL_ind I xs 0 ρ h0 fun i x ρ hx hi => by
    rw [Nat.zero_add] at hi ⊢
    exact hs i x ρ hx hi
  exact ⟨ρ', e, by rw [Nat.zero_add] at q; exact q⟩
theorem lcL_fm {α : Type} (enc : α → D) (g : α → Option D) {f : D → Rs (Option D)} : ∀ (l : List α), (∀ x ∈ l, f (enc x) = .ok (g x)) → lcL (l.map enc) f = .ok (l.filterMap g)
  | [], _ => rfl
  | x :: l, h => by
    rw [List.map_cons]
    unfold lcL
    rw [h x List.mem_cons_self, calm_ok, ok_bind, lcL_fm enc g l fun y hy => h y (List.mem_cons_of_mem _ hy), ok_bind, List.filterMap_cons]
    cases g x <;> rfl
theorem rng_nat {n : Nat} (h : n ≤ V1.LIM) : V1.rng 0 (n : Int) = .ok ((List.range n).map fun k : Nat => PyData.int (k : Int)) := by
  have hl : V1.LIM = 16777216 := rfl
  unfold V1.rng
  rw [if_pos (by omega)]
  simp
theorem atI_nat {α : Type} {xs : List α} {k : Nat} {d : α} (h : xs[k]? = some d) : L2.atI xs (k : Int) = some d := by
  have hk := (List.getElem?_eq_some_iff.mp h).1
  unfold L2.atI L2.ixN
  rw [if_pos (by omega), if_pos (by omega)]
  exact h
theorem ix_lst {xs : List D} {k : Nat} {d : D} (h : xs[k]? = some d) : V1.ix (.list xs) (.int (k : Int)) = .ok d := by
  show Rs.of (L2.atI xs (k : Int)) = _
  rw [atI_nat h]
  rfl
theorem ix_tup {xs : List D} {k : Nat} {d : D} (h : xs[k]? = some d) : V1.ix (.tuple xs) (.int (k : Int)) = .ok d := by
  show Rs.of (L2.atI xs (k : Int)) = _
  rw [atI_nat h]
  rfl
theorem cmp_eqI {i j : Int} : V1.cmp2 .eq (.int i) (.int j) = .ok (.bool (i == j)) := rfl
theorem cmp_neI {i j : Int} : V1.cmp2 .ne (.int i) (.int j) = .ok (.bool (!(i == j))) := rfl
theorem muI {i j : Int} (h : V1.mulOk i j = true) : V1.op2 .mul (.int i) (.int j) = .ok (.int (i * j)) := by
  show (if V1.mulOk i j then _ else _) = _
  rw [if_pos h]
theorem mulOk_r {i j : Int} (h1 : -(2 ^ 64) < j) (h2 : j < 2 ^ 64) : V1.mulOk i j = true := by
  unfold V1.mulOk
  rw [Bool.or_eq_true, Bool.or_eq_true, Bool.and_eq_true (decide (-(2 ^ 64) < j))]
  exact .inl (.inr ⟨decide_eq_true h1, decide_eq_true h2⟩)
theorem modI {i j : Int} (h : j ≠ 0) : V1.op2 .mod (.int i) (.int j) = .ok (.int (i.fmod j)) := by
  show (if j ≠ 0 then _ else _) = _
  rw [if_pos h]
theorem fdivI {i j : Int} (h : 0 < j) (h2 : j < 1073741824) : V1.op2 .fdiv (.int i) (.int j) = .ok (.int (i.fdiv j)) := by
  show (if V1.divOk j then _ else _) = _
  rw [if_pos]
  unfold V1.divOk
  have : j.natAbs < 1073741824 := by omega
  simp [this]
  omega
theorem powI {i j : Int} (h : V1.powOk i j = true) : V1.op2 .pow (.int i) (.int j) = .ok (.int (i ^ j.toNat)) := by
  show (if V1.powOk i j then _ else _) = _
  rw [if_pos h]
theorem fmod_lo {i j : Int} (h : 0 < j) : 0 ≤ i.fmod j := Int.fmod_nonneg_of_pos i h
theorem fmod_hi {i j : Int} (h : 0 < j) : i.fmod j < j := Int.fmod_lt_of_pos i h
theorem appL {xs : List D} {d : D} (h : xs.length < V1.LIM) : V1.muD .append (.list xs) d = .ok (.list (xs ++ [d])) := by
  show (if xs.length < V1.LIM then _ else _) = _
  rw [if_pos h]
theorem ex_app {cf : CF} {i : Nat} {s : Sh} {e : MP.E} {ρ : En} {xs : List D} {d : D} (hg : get ρ i = .ok (.list xs)) (h : evE cf e ρ = .ok d) (hs : shOk s d = true) (hl : xs.length < V1.LIM) : exS cf (.mu .append (.v i) s e) ρ = .ok (.nx (ρ.set i (some (.list (xs ++ [d]))))) := by
  unfold exS
  have hp : getP cf (.v i) ρ = get ρ i := rfl
  have hq : ∀ x, putP cf (.v i) ρ x = .ok (ρ.set i (some x)) := fun _ => rfl
  rw [hp, hg, ok_bind]
  have hL : V1.isL (.list xs) = true := rfl
  rw [if_pos hL, h, ok_bind, if_pos hs, appL hl, ok_bind, hq, ok_bind]
theorem toIntI {i : Int} : V1.toInt (.int i) = .ok i := rfl
theorem it_r1 {cf : CF} {a : MP.E} {ρ : En} {n : Nat} (h : evE cf a ρ = .ok (.int (n : Int))) (hn : n ≤ V1.LIM) : evIt cf (.r1 a) ρ = .ok ((List.range n).map fun k : Nat => PyData.int (k : Int)) := by
  unfold evIt
  rw [h, ok_bind, toIntI, ok_bind]
  exact rng_nat hn
/-! not by rfl, so that the kernel need not look through them -/
theorem okb {α β : Type} (a : α) (f : α → Rs β) : (Rs.ok a >>= f) = f a := Eq.trans rfl rfl
theorem get0 {d : D} {ρ : En} : get (some d :: ρ) 0 = .ok d := Eq.trans rfl rfl
theorem getS {o : Option D} {ρ : En} {i : Nat} : get (o :: ρ) (i + 1) = get ρ i := Eq.trans rfl rfl
theorem addI {p q : Int} : V1.op2 .add (.int p) (.int q) = .ok (.int (p + q)) := Eq.trans rfl rfl
theorem subI {p q : Int} : V1.op2 .sub (.int p) (.int q) = .ok (.int (p - q)) := Eq.trans rfl rfl
theorem intI {p : Int} : V1.bi1 .int (.int p) = .ok (.int p) := Eq.trans rfl rfl
theorem lenL {xs : List D} : V1.bi1 .len (.list xs) = .ok (.int (xs.length : Int)) := Eq.trans rfl rfl
theorem lenT {xs : List D} : V1.bi1 .len (.tuple xs) = .ok (.int (xs.length : Int)) := Eq.trans rfl rfl
theorem ltI {p q : Int} : V1.cmp2 .lt (.int p) (.int q) = .ok (.bool (decide (p < q))) := Eq.trans rfl rfl
theorem leI {p q : Int} : V1.cmp2 .le (.int p) (.int q) = .ok (.bool (decide (p ≤ q))) := Eq.trans rfl rfl
theorem gtI {p q : Int} : V1.cmp2 .gt (.int p) (.int q) = .ok (.bool (decide (q < p))) := Eq.trans rfl rfl
theorem geI {p q : Int} : V1.cmp2 .ge (.int p) (.int q) = .ok (.bool (decide (q ≤ p))) := Eq.trans rfl rfl
theorem eqI {p q : Int} : V1.cmp2 .eq (.int p) (.int q) = .ok (.bool (p == q)) := Eq.trans rfl rfl
theorem neI {p q : Int} : V1.cmp2 .ne (.int p) (.int q) = .ok (.bool (!(p == q))) := Eq.trans rfl rfl
theorem truB {b : Bool} : V1.tru (.bool b) = .ok b := Eq.trans rfl rfl
theorem ex_nil {cf : CF} {ρ : En} : exSs cf .nil ρ = .ok (.nx ρ) := by unfold exSs; rfl
theorem if_t {cf : CF} {c : MP.E} {a b : Ss} {ρ : En} (h : evE cf c ρ = .ok (.bool true)) : exS cf (.ifs c a b) ρ = exSs cf a ρ := (ex_if h truB).trans (if_pos rfl)
theorem if_e {cf : CF} {c : MP.E} {a b : Ss} {ρ : En} (h : evE cf c ρ = .ok (.bool false)) : exS cf (.ifs c a b) ρ = exSs cf b ρ := (ex_if h truB).trans (if_neg (by decide))
theorem if_f {cf : CF} {c : MP.E} {a : Ss} {ρ : En} (h : evE cf c ρ = .ok (.bool false)) : exS cf (.ifs c a .nil) ρ = .ok (.nx ρ) := (if_e h).trans ex_nil
theorem ex_end {cf : CF} {s : MP.S} {ρ ρ' : En} (h : exS cf s ρ = .ok (.nx ρ')) : exSs cf (.cons s .nil) ρ = .ok (.nx ρ') := (ex_nx h).trans ex_nil
theorem ev_not {cf : CF} {a : MP.E} {ρ : En} {b : Bool} (h : evE cf a ρ = .ok (.bool b)) : evE cf (.not a) ρ = .ok (.bool !b) := by
  unfold evE
  rw [h, okb, truB, okb]
theorem ev_or {cf : CF} {a b : MP.E} {ρ : En} {d : D} (h : evE cf a ρ = .ok (.bool false)) (h2 : evE cf b ρ = .ok d) : evE cf (.or a b) ρ = .ok d := by
  conv => lhs; unfold evE
  rw [h, okb, truB, okb, if_neg (by decide), h2]
theorem ev_or1 {cf : CF} {a b : MP.E} {ρ : En} (h : evE cf a ρ = .ok (.bool true)) : evE cf (.or a b) ρ = .ok (.bool true) := by
  conv => lhs; unfold evE
  rw [h, okb, truB, okb, if_pos rfl]
theorem ev_and {cf : CF} {a b : MP.E} {ρ : En} {d : D} (h : evE cf a ρ = .ok (.bool true)) (h2 : evE cf b ρ = .ok d) : evE cf (.and a b) ρ = .ok d := by
  conv => lhs; unfold evE
  rw [h, okb, truB, okb, if_pos rfl, h2]
theorem ev_and0 {cf : CF} {a b : MP.E} {ρ : En} (h : evE cf a ρ = .ok (.bool false)) : evE cf (.and a b) ρ = .ok (.bool false) := by
  conv => lhs; unfold evE
  rw [h, okb, truB, okb, if_neg (by decide)]
theorem ev_b2 {cf : CF} {o : B2} {a b : MP.E} {ρ : En} {x y z : D} (ha : evE cf a ρ = .ok x) (hb : evE cf b ρ = .ok y) (h : V1.op2 o x y = .ok z) : evE cf (.b2 o a b) ρ = .ok z := by
  conv => lhs; unfold evE
  rw [ha, okb, hb, okb, h]
theorem ev_c2 {cf : CF} {o : C2} {a b : MP.E} {ρ : En} {x y z : D} (ha : evE cf a ρ = .ok x) (hb : evE cf b ρ = .ok y) (h : V1.cmp2 o x y = .ok z) : evE cf (.c2 o a b) ρ = .ok z := by
  conv => lhs; unfold evE
  rw [ha, okb, hb, okb, h]
theorem ev_bi {cf : CF} {f : Bi} {a : MP.E} {ρ : En} {x z : D} (ha : evE cf a ρ = .ok x) (h : V1.bi1 f x = .ok z) : evE cf (.bi1 f a) ρ = .ok z := by
  conv => lhs; unfold evE
  rw [ha, okb, h]
theorem ev_ix {cf : CF} {a b : MP.E} {ρ : En} {x y z : D} (ha : evE cf a ρ = .ok x) (hb : evE cf b ρ = .ok y) (h : V1.ix x y = .ok z) : evE cf (.ix a b) ρ = .ok z := by
  conv => lhs; unfold evE
  rw [ha, okb, hb, okb, h]
theorem ev_c {cf : CF} {d : D} {ρ : En} : evE cf (.c d) ρ = .ok d := by unfold evE; rfl
theorem ev_v {cf : CF} {i : Nat} {ρ : En} {d : D} (h : get ρ i = .ok d) : evE cf (.v i) ρ = .ok d := by unfold evE; exact h
theorem es_nil {cf : CF} {ρ : En} : evEs cf .nil ρ = .ok [] := by unfold evEs; rfl
theorem es_cons {cf : CF} {e : MP.E} {es : Es} {ρ : En} {d : D} {ds : List D} (h : evE cf e ρ = .ok d) (h2 : evEs cf es ρ = .ok ds) : evEs cf (.cons e es) ρ = .ok (d :: ds) := by
  conv => lhs; unfold evEs
  rw [h, okb, h2, okb]
theorem ev_tup {cf : CF} {es : Es} {ρ : En} {ds : List D} (h : evEs cf es ρ = .ok ds) (hl : ds.length ≤ V1.LIM) : evE cf (.tup es) ρ = .ok (.tuple ds) := by
  conv => lhs; unfold evE
  rw [h, okb]
  exact if_pos hl
theorem ev_lst {cf : CF} {es : Es} {ρ : En} {ds : List D} (h : evEs cf es ρ = .ok ds) (hl : ds.length ≤ V1.LIM) : evE cf (.lst es) ρ = .ok (.list ds) := by
  conv => lhs; unfold evE
  rw [h, okb]
  exact if_pos hl
theorem ev_neg {cf : CF} {a : MP.E} {ρ : En} {i : Int} (h : evE cf a ρ = .ok (.int i)) : evE cf (.neg a) ρ = .ok (.int (-i)) := by
  conv => lhs; unfold evE
  rw [h, okb, toIntI, okb]
theorem ex_un {cf : CF} {tg : Tg} {e : MP.E} {ρ ρ' : En} {d : D} (h : evE cf e ρ = .ok d) (ha : asg tg d ρ = .ok ρ') : exS cf (.un tg e) ρ = .ok (.nx ρ') := by
  unfold exS
  rw [h, okb, ha, okb]
theorem it_sq {cf : CF} {e : MP.E} {ρ : En} {d : D} {xs : List D} (h : evE cf e ρ = .ok d) (hi : V1.items d = .ok xs) : evIt cf (.sq e) ρ = .ok xs := by
  unfold evIt
  rw [h, okb, hi]
theorem it_en {cf : CF} {e : MP.E} {ρ : En} {xs : List D} (h : evE cf e ρ = .ok (.list xs)) : evIt cf (.en e) ρ = .ok (V1.enumL xs 0) := by
  unfold evIt
  rw [h, okb]
theorem ev_lc {cf : CF} {elt : MP.E} {tg : Tg} {it : MP.It} {ci : Eo} {vs : List Nat} {ρ : En} {xs r : List D} (h : evIt cf it ρ = .ok xs) (hr : lcL xs (fun x => asg tg x (wipeE ρ vs) >>= fun ρ' => evC cf ci ρ' >>= fun t => if t then evE cf elt ρ' >>= fun d => .ok (some d) else .ok none) = .ok r) : evE cf (.lc elt tg it ci vs) ρ = .ok (.list r) := by
  conv => lhs; unfold evE
  rw [h, okb, hr, okb]
theorem evc_so {cf : CF} {e : MP.E} {ρ : En} {b : Bool} (h : evE cf e ρ = .ok (.bool b)) : evC cf (.so e) ρ = .ok b := by
  unfold evC
  rw [h, okb, truB]
theorem sh_l {ds : List D} : shOk (.ls .fz) (.list ds) = true := by
  unfold shOk
  exact shOkL_fz ds
theorem ex_rv {cf : CF} {i : Nat} {ρ : En} {d : D} (h : get ρ i = .ok d) : exS cf (.retv i) ρ = .ok (.ret d ρ) := by
  unfold exS
  rw [h, okb]
theorem ev_sl {cf : CF} {a : MP.E} {lo hi : Eo} {ρ : En} {x z : D} {l h : Option Int} (ha : evE cf a ρ = .ok x) (hl : evEo cf lo ρ = .ok l) (hh : evEo cf hi ρ = .ok h) (hz : V1.sl x l h = .ok z) : evE cf (.sl a lo hi) ρ = .ok z := by
  conv => lhs; unfold evE
  rw [ha, okb, hl, okb, hh, okb, hz]
theorem eo_so {cf : CF} {e : MP.E} {ρ : En} {i : Int} (h : evE cf e ρ = .ok (.int i)) : evEo cf (.so e) ρ = .ok (some i) := by
  unfold evEo
  rw [h, okb, toIntI, okb]
theorem eo_no {cf : CF} {ρ : En} : evEo cf .no ρ = .ok none := by unfold evEo; rfl
theorem addL {xs ys : List D} (h : xs.length + ys.length ≤ V1.LIM) : V1.op2 .add (.list xs) (.list ys) = .ok (.list (xs ++ ys)) := if_pos h
theorem shpS {a : Str} (h : PyData.strOk a = true) : V1.shp (.str a) = true := by
  unfold V1.shp SeqAt.shaped PyData.canLay0 PyData.depth
  rw [h]
  rfl
theorem eqS {a b : Str} (ha : PyData.strOk a = true) (hb : PyData.strOk b = true) : V1.cmp2 .eq (.str a) (.str b) = .ok (.bool (a == b)) := by
  show (if V1.shp (.str a) && V1.shp (.str b) then Rs.ok (PyData.bool (PyData.eqv (.str a) (.str b))) else .bad) = _
  refine (if_pos (by rw [shpS ha, shpS hb]; rfl)).trans ?_
  unfold PyData.eqv
  rfl
theorem sz1 {a : D} : [a].length ≤ V1.LIM := by show 1 ≤ V1.LIM; decide
theorem sz2 {a b : D} : [a, b].length ≤ V1.LIM := by show 2 ≤ V1.LIM; decide
theorem sz3 {a b c : D} : [a, b, c].length ≤ V1.LIM := by show 3 ≤ V1.LIM; decide
theorem sz4 {a b c d : D} : [a, b, c, d].length ≤ V1.LIM := by show 4 ≤ V1.LIM; decide
theorem sz5 {a b c d e : D} : [a, b, c, d, e].length ≤ V1.LIM := by show 5 ≤ V1.LIM; decide
theorem lc_one {cf : CF} {elt : MP.E} {tg : Tg} {ci : Eo} {vs : List Nat} {ρ ρ' : En} {x d : D} {t : Bool} (ha : asg tg x (wipeE ρ vs) = .ok ρ') (hc : evC cf ci ρ' = .ok t) (he : t = true → evE cf elt ρ' = .ok d) :
    (asg tg x (wipeE ρ vs) >>= fun ρ' => evC cf ci ρ' >>= fun t => if t then evE cf elt ρ' >>= fun d => .ok (some d) else .ok none) = .ok (if t then some d else none) := by
  rw [ha, okb, hc, okb]
  cases t with
  | true => rw [if_pos rfl, if_pos rfl, he rfl, okb]
  | false => rw [if_neg (by decide), if_neg (by decide)]
theorem evc_no {cf : CF} {ρ : En} : evC cf .no ρ = .ok true := by unfold evC; rfl
theorem ev_lsh {cf : CF} {s : Sh} {es : Es} {ρ : En} {ds : List D} (h : evEs cf es ρ = .ok ds) (hs : shOk (.ls s) (.list ds) = true) (hl : ds.length ≤ V1.LIM) : evE cf (.lsh s es) ρ = .ok (.list ds) := by
  conv => lhs; unfold evE
  rw [h, calm_ok, okb, if_pos hs]
  exact if_pos hl
theorem ev_scl {cf : CF} {a : MP.E} {ρ : En} {d : D} (h : evE cf a ρ = .ok d) (hs : V1.scalar d = true) : evE cf (.scl a) ρ = .ok d := by
  conv => lhs; unfold evE
  rw [h, okb, if_pos hs]
theorem ex_appP {cf : CF} {i k : Nat} {s : Sh} {e : MP.E} {ρ : En} {xs ys : List D} {d : D} (hg : get ρ i = .ok (.list xs)) (hx : xs[k]? = some (.list ys)) (h : evE cf e ρ = .ok d) (hs : shOk s d = true) (hl : ys.length < V1.LIM) :
    exS cf (.mu .append (.ix i (.c (.int (k : Int)))) s e) ρ = .ok (.nx (ρ.set i (some (.list (xs.set k (.list (ys ++ [d]))))))) := by
  have hc : evE cf (.c (.int (k : Int))) ρ = .ok (.int (k : Int)) := ev_c
  have hp : getP cf (.ix i (.c (.int (k : Int)))) ρ = .ok (.list ys) := by
    unfold getP
    simp only
    rw [hg, okb, hc, okb, ix_lst hx]
  have hj : L2.ixN xs.length (k : Int) = some k := by
    have hk := (List.getElem?_eq_some_iff.mp hx).1
    unfold L2.ixN
    rw [if_pos (by omega), if_pos (by omega)]
    rfl
  have hq : ∀ y, putP cf (.ix i (.c (.int (k : Int)))) ρ y = .ok (ρ.set i (some (.list (xs.set k y)))) := fun y => by
    unfold putP
    simp only
    rw [hg, okb, hc, okb]
    show (Rs.of (L2.ixN xs.length (k : Int)) >>= fun n => Rs.ok (ρ.set i (some (.list (xs.set n y))))) = _
    rw [hj, of_some, okb]
  unfold exS
  have hL : V1.isL (.list ys) = true := rfl
  rw [hp, okb, if_pos hL, h, okb, if_pos hs, appL hl, okb, hq, okb]
end MP
namespace Lw
open PySem PySem.Spec PyProof.Rows L2 MP
def top (i : Nat) : Stmt := PySem.Challenge.pw_nobodywaits_k58_accounts_with_one_wrong.main.body.getD i (.Pass ⟨0, 0, 0, 0⟩)
def f_offs : Fn := { name := "offs", np := 1, ns := 6, rs := (.ls .fz), body :=
    (.cons (.un (.t2 (.nm 2) (.nm 3)) (.v 0))
    (.cons (.set 1 (.ls .fz) (.lst .nil))
    (.cons (.for_ (.t2 (.nm 4) (.nm 5)) (.sq (.v 3)) (.cons (.mu .append (.v 1) .fz (.b2 .sub (.b2 .sub (.v 5) (.v 2)) (.v 4)))
    (.cons (.set 2 .fz (.v 5))
    .nil)))
    (.cons (.retv 1)
    .nil)))) }
def r_offs : MP.Row := ⟨f_offs, ["account", "found", "before", "lines", "amount", "balance"], ["account"], 1⟩
def f_single_corrections : Fn := { name := "single_corrections", np := 3, ns := 8, rs := (.ls .fz), body :=
    (.cons (.un (.t2 (.nm 4) (.nm 5)) (.v 0))
    (.cons (.un (.t2 (.nm 6) (.nm 7)) (.ix (.v 5) (.v 1)))
    (.cons (.set 3 (.ls .fz) (.lst (.cons (.tup (.cons (.c (.str "amount")) (.cons (.v 1) (.cons (.b2 .add (.v 6) (.v 2)) .nil)))) .nil)))
    (.cons (.ifs (.c2 .eq (.v 1) (.b2 .sub (.bi1 .len (.v 5)) (.c (.int 1)))) (.cons (.mu .append (.v 3) .fz (.tup (.cons (.c (.str "balance")) (.cons (.v 1) (.cons (.b2 .sub (.v 7) (.v 2)) .nil)))))
    .nil) .nil)
    (.cons (.ifs (.c2 .eq (.v 1) (.c (.int 0))) (.cons (.mu .append (.v 3) .fz (.tup (.cons (.c (.str "start")) (.cons (.c (.int 0)) (.cons (.b2 .add (.v 4) (.v 2)) .nil)))))
    .nil) .nil)
    (.cons (.retv 3)
    .nil)))))) }
def r_single_corrections : MP.Row := ⟨f_single_corrections, ["account", "k", "off", "found", "start", "lines", "amount", "balance"], ["account", "k", "off"], 2⟩
def f_corrections : Fn := { name := "corrections", np := 1, ns := 5, rs := (.ls .fz), body :=
    (.cons (.set 1 .fz (.call 0 (.cons (.v 0) .nil)))
    (.cons (.set 2 .fz (.lc (.v 3) (.t2 (.nm 3) (.nm 4)) (.en (.v 1)) (.so (.c2 .ne (.v 4) (.c (.int 0)))) [3, 4]))
    (.cons (.ifs (.c2 .eq (.bi1 .len (.v 2)) (.c (.int 1))) (.cons (.ret (.call 1 (.cons (.v 0) (.cons (.ix (.v 2) (.c (.int 0))) (.cons (.ix (.v 1) (.ix (.v 2) (.c (.int 0)))) .nil)))))
    .nil) .nil)
    (.cons (.ifs (.and (.c2 .eq (.bi1 .len (.v 2)) (.c (.int 2))) (.and (.c2 .eq (.ix (.v 2) (.c (.int 1))) (.b2 .add (.ix (.v 2) (.c (.int 0))) (.c (.int 1)))) (.c2 .eq (.b2 .add (.ix (.v 1) (.ix (.v 2) (.c (.int 0)))) (.ix (.v 1) (.ix (.v 2) (.c (.int 1))))) (.c (.int 0))))) (.cons (.ret (.lst (.cons (.tup (.cons (.c (.str "balance")) (.cons (.ix (.v 2) (.c (.int 0))) (.cons (.b2 .sub (.ix (.ix (.ix (.v 0) (.c (.int 1))) (.ix (.v 2) (.c (.int 0)))) (.c (.int 1))) (.ix (.v 1) (.ix (.v 2) (.c (.int 0))))) .nil)))) .nil)))
    .nil) .nil)
    (.cons (.ret (.lst .nil))
    .nil))))) }
def r_corrections : MP.Row := ⟨f_corrections, ["account", "found", "wrong", "k", "off"], ["account"], 3⟩
def f__law_cell : Fn := { name := "_law_cell", np := 2, ns := 2, rs := .fz, body :=
    (.cons (.ifs (.c2 .lt (.v 1) (.bi1 .len (.v 0))) (.cons (.ret (.bi1 .int (.ix (.v 0) (.v 1))))
    .nil) .nil)
    (.cons (.ret (.c (.int 0)))
    .nil)) }
def r__law_cell : MP.Row := ⟨f__law_cell, ["script", "k"], ["script", "k"], 5⟩
def f__law_numbers : Fn := { name := "_law_numbers", np := 3, ns := 6, rs := .fz, body :=
    (.cons (.set 3 (.ls .fz) (.lst .nil))
    (.cons (.ifs (.c2 .ge (.v 0) (.b2 .pow (.c (.int 10)) (.c (.int 18)))) (.cons (.for_ (.nm 4) (.r1 (.v 1)) (.cons (.mu .append (.v 3) .fz (.b2 .mod (.bi1 .int (.v 0)) (.v 2)))
    (.cons (.set 0 .fz (.b2 .fdiv (.bi1 .int (.v 0)) (.v 2)))
    .nil)))
    (.cons (.fz 3)
    (.cons (.ret (.v 3))
    .nil))) .nil)
    (.cons (.for_ (.nm 4) (.r1 (.v 1)) (.cons (.set 5 .fz (.b2 .mod (.bi1 .int (.b2 .add (.b2 .add (.b2 .mul (.v 0) (.c (.int 48271))) (.b2 .mul (.v 4) (.c (.int 69621)))) (.c (.int 7)))) (.c (.int 2147483647))))
    (.cons (.set 5 .fz (.b2 .mod (.bi1 .int (.b2 .add (.b2 .add (.b2 .add (.b2 .mul (.v 5) (.v 5)) (.b2 .mul (.v 5) (.c (.int 40692)))) (.b2 .mul (.v 4) (.c (.int 16807)))) (.c (.int 11)))) (.c (.int 2147483399))))
    (.cons (.mu .append (.v 3) .fz (.b2 .mod (.bi1 .int (.b2 .fdiv (.v 5) (.c (.int 32)))) (.v 2)))
    .nil))))
    (.cons (.fz 3)
    (.cons (.ret (.v 3))
    .nil))))) }
def r__law_numbers : MP.Row := ⟨f__law_numbers, ["cell", "count", "limit", "found", "k", "mixed"], ["cell", "count", "limit"], 6⟩
def f__law_same : Fn := { name := "_law_same", np := 2, ns := 3, rs := .fz, body :=
    (.cons (.ifs (.isi .list (.v 1)) (.cons (.ifs (.or (.not (.isi .list (.v 0))) (.c2 .ne (.bi1 .len (.v 0)) (.bi1 .len (.v 1)))) (.cons (.ret (.c (.bool false)))
    .nil) .nil)
    .nil) (.cons (.ifs (.isi .tuple (.v 1)) (.cons (.ifs (.or (.not (.isi .tuple (.v 0))) (.c2 .ne (.bi1 .len (.v 0)) (.bi1 .len (.v 1)))) (.cons (.ret (.c (.bool false)))
    .nil) .nil)
    .nil) (.cons (.ifs (.isN false (.v 1)) (.cons (.ret (.isN false (.v 0)))
    .nil) (.cons (.ifs (.isi .bool (.v 1)) (.cons (.ret (.and (.isi .bool (.v 0)) (.c2 .eq (.v 0) (.v 1))))
    .nil) (.cons (.ifs (.isi .int (.v 1)) (.cons (.ret (.and (.isi .int (.v 0)) (.and (.not (.isi .bool (.v 0))) (.c2 .eq (.v 0) (.v 1)))))
    .nil) (.cons (.ret (.and (.isi .str (.v 0)) (.c2 .eq (.v 0) (.v 1))))
    .nil))
    .nil))
    .nil))
    .nil))
    .nil))
    (.cons (.for_ (.nm 2) (.r1 (.bi1 .len (.v 1))) (.cons (.ifs (.not (.call 5 (.cons (.ix (.v 0) (.v 2)) (.cons (.ix (.v 1) (.v 2)) .nil)))) (.cons (.ret (.c (.bool false)))
    .nil) .nil)
    .nil))
    (.cons (.ret (.c (.bool true)))
    .nil))) }
def r__law_same : MP.Row := ⟨f__law_same, ["told", "due", "k"], ["told", "due"], 7⟩
def f__law_offs : Fn := { name := "_law_offs", np := 1, ns := 6, rs := .fz, body :=
    (.cons (.un (.t2 (.nm 3) (.nm 4)) (.v 0))
    (.cons (.set 1 (.ls .fz) (.lst .nil))
    (.cons (.for_ (.nm 2) (.r1 (.bi1 .len (.v 4))) (.cons (.set 5 .fz (.v 3))
    (.cons (.ifs (.c2 .gt (.v 2) (.c (.int 0))) (.cons (.set 5 .fz (.ix (.ix (.v 4) (.b2 .sub (.v 2) (.c (.int 1)))) (.c (.int 1))))
    .nil) .nil)
    (.cons (.mu .append (.v 1) .fz (.b2 .sub (.b2 .sub (.ix (.ix (.v 4) (.v 2)) (.c (.int 1))) (.v 5)) (.ix (.ix (.v 4) (.v 2)) (.c (.int 0)))))
    .nil))))
    (.cons (.fz 1)
    (.cons (.ret (.v 1))
    .nil))))) }
def r__law_offs : MP.Row := ⟨f__law_offs, ["account", "found", "k", "start", "lines", "before"], ["account"], 8⟩
def f__law_with : Fn := { name := "_law_with", np := 4, ns := 8, rs := .fz, body :=
    (.cons (.un (.t2 (.nm 4) (.nm 5)) (.v 0))
    (.cons (.ifs (.c2 .eq (.v 1) (.c (.str "start"))) (.cons (.ret (.tup (.cons (.v 3) (.cons (.v 5) .nil))))
    .nil) .nil)
    (.cons (.un (.t2 (.nm 6) (.nm 7)) (.ix (.v 5) (.v 2)))
    (.cons (.ifs (.c2 .eq (.v 1) (.c (.str "amount"))) (.cons (.ret (.tup (.cons (.v 4) (.cons (.b2 .add (.b2 .add (.sl (.v 5) (.so (.c (.int 0))) (.so (.v 2))) (.lst (.cons (.tup (.cons (.v 3) (.cons (.v 7) .nil))) .nil))) (.sl (.v 5) (.so (.b2 .add (.v 2) (.c (.int 1)))) .no)) .nil))))
    .nil) .nil)
    (.cons (.ret (.tup (.cons (.v 4) (.cons (.b2 .add (.b2 .add (.sl (.v 5) (.so (.c (.int 0))) (.so (.v 2))) (.lst (.cons (.tup (.cons (.v 6) (.cons (.v 3) .nil))) .nil))) (.sl (.v 5) (.so (.b2 .add (.v 2) (.c (.int 1)))) .no)) .nil))))
    .nil))))) }
def r__law_with : MP.Row := ⟨f__law_with, ["account", "word", "k", "value", "start", "lines", "amount", "balance"], ["account", "word", "k", "value"], 9⟩
def f__law_value : Fn := { name := "_law_value", np := 3, ns := 3, rs := .fz, body :=
    (.cons (.ifs (.c2 .eq (.v 1) (.c (.str "start"))) (.cons (.ret (.ix (.v 0) (.c (.int 0))))
    .nil) .nil)
    (.cons (.ret (.ix (.ix (.ix (.v 0) (.c (.int 1))) (.v 2)) (.bi1 .int (.c2 .eq (.v 1) (.c (.str "balance"))))))
    .nil)) }
def r__law_value : MP.Row := ⟨f__law_value, ["account", "word", "k"], ["account", "word", "k"], 10⟩
def f__law_slots : Fn := { name := "_law_slots", np := 1, ns := 3, rs := .fz, body :=
    (.cons (.set 1 .fz (.lst (.cons (.tup (.cons (.c (.str "start")) (.cons (.c (.int 0)) .nil))) .nil)))
    (.cons (.for_ (.nm 2) (.r1 (.bi1 .len (.ix (.v 0) (.c (.int 1))))) (.cons (.set 1 .fz (.b2 .add (.v 1) (.lst (.cons (.tup (.cons (.c (.str "amount")) (.cons (.v 2) .nil))) (.cons (.tup (.cons (.c (.str "balance")) (.cons (.v 2) .nil))) .nil)))))
    .nil))
    (.cons (.ret (.v 1))
    .nil))) }
def r__law_slots : MP.Row := ⟨f__law_slots, ["account", "found", "k"], ["account"], 11⟩
def f__law_corrections : Fn := { name := "_law_corrections", np := 1, ns := 8, rs := .fz, body :=
    (.cons (.set 1 (.ls .fz) (.lst .nil))
    (.cons (.for_ (.nm 2) (.sq (.call 6 (.cons (.v 0) .nil))) (.cons (.for_ (.nm 4) (.sq (.lst (.cons (.v 2) (.cons (.b2 .sub (.c (.int 0)) (.v 2)) .nil)))) (.cons (.ifs (.and (.c2 .ne (.v 4) (.c (.int 0))) (.c2 .notin (.v 4) (.v 1))) (.cons (.mu .append (.v 1) .fz (.v 4))
    .nil) .nil)
    .nil))
    .nil))
    (.cons (.set 3 (.ls .fz) (.lst .nil))
    (.cons (.fz 1)
    (.cons (.for_ (.t2 (.nm 5) (.nm 6)) (.sq (.call 9 (.cons (.v 0) .nil))) (.cons (.for_ (.nm 4) (.sq (.v 1)) (.cons (.set 7 .fz (.b2 .add (.call 8 (.cons (.v 0) (.cons (.v 5) (.cons (.v 6) .nil)))) (.v 4)))
    (.cons (.ifs (.c2 .eq (.bi1 .len (.lc (.v 2) (.nm 2) (.sq (.call 6 (.cons (.call 7 (.cons (.v 0) (.cons (.v 5) (.cons (.v 6) (.cons (.v 7) .nil))))) .nil))) (.so (.c2 .ne (.v 2) (.c (.int 0)))) [2])) (.c (.int 0))) (.cons (.mu .append (.v 3) .fz (.tup (.cons (.v 5) (.cons (.v 6) (.cons (.v 7) .nil)))))
    .nil) .nil)
    .nil)))
    .nil))
    (.cons (.ret (.bi1 .sorted (.v 3)))
    .nil)))))) }
def r__law_corrections : MP.Row := ⟨f__law_corrections, ["account", "steps", "off", "found", "step", "word", "k", "value"], ["account"], 12⟩
def f_law : Fn := { name := "law", np := 1, ns := 18, rs := .fz, body :=
    (.cons (.set 1 .fz (.call 4 (.cons (.call 3 (.cons (.v 0) (.cons (.c (.int 0)) .nil))) (.cons (.c (.int 40)) (.cons (.c (.int 50400)) .nil)))))
    (.cons (.set 2 .fz (.b2 .sub (.b2 .mod (.ix (.v 1) (.c (.int 0))) (.c (.int 2001))) (.c (.int 1000))))
    (.cons (.set 3 (.ls .fz) (.lst .nil))
    (.cons (.set 4 .fz (.v 2))
    (.cons (.for_ (.nm 5) (.r1 (.b2 .add (.c (.int 1)) (.b2 .mod (.ix (.v 1) (.c (.int 1))) (.c (.int 8))))) (.cons (.set 13 .fz (.b2 .sub (.b2 .mod (.ix (.v 1) (.b2 .add (.c (.int 2)) (.v 5))) (.ix (.lst (.cons (.c (.int 7)) (.cons (.c (.int 301)) (.cons (.c (.int 50400)) .nil)))) (.b2 .mod (.ix (.v 1) (.c (.int 12))) (.c (.int 3))))) (.c (.int 3))))
    (.cons (.set 4 .fz (.b2 .add (.v 4) (.v 13)))
    (.cons (.mu .append (.v 3) .fz (.tup (.cons (.v 13) (.cons (.v 4) .nil))))
    .nil))))
    (.cons (.fz 3)
    (.cons (.set 6 .fz (.tup (.cons (.v 2) (.cons (.v 3) .nil))))
    (.cons (.ifs (.or (.c2 .gt (.bi1 .len (.call 2 (.cons (.v 6) .nil))) (.c (.int 0))) (.c2 .ne (.call 2 (.cons (.v 6) .nil)) (.lst .nil))) (.cons (.ret (.c (.bool false)))
    .nil) .nil)
    (.cons (.set 7 .fz (.v 6))
    (.cons (.set 8 (.ls .fz) (.lst .nil))
    (.cons (.set 9 .fz (.call 9 (.cons (.v 6) .nil)))
    (.cons (.for_ (.nm 5) (.r1 (.ix (.lst (.cons (.c (.int 0)) (.cons (.c (.int 1)) (.cons (.c (.int 1)) (.cons (.c (.int 2)) (.cons (.c (.int 2)) .nil)))))) (.b2 .mod (.ix (.v 1) (.c (.int 13))) (.c (.int 5))))) (.cons (.un (.t2 (.nm 16) (.nm 17)) (.ix (.v 9) (.b2 .mod (.ix (.v 1) (.b2 .add (.c (.int 14)) (.v 5))) (.bi1 .len (.v 9)))))
    (.cons (.ifs (.and (.c2 .eq (.b2 .mod (.ix (.v 1) (.c (.int 18))) (.c (.int 2))) (.c (.int 0))) (.c2 .eq (.v 5) (.c (.int 1)))) (.cons (.un (.t2 (.nm 16) (.nm 17)) (.ix (.v 9) (.b2 .mod (.b2 .add (.b2 .add (.ix (.v 1) (.c (.int 14))) (.c (.int 1))) (.b2 .mod (.ix (.v 1) (.c (.int 15))) (.c (.int 3)))) (.bi1 .len (.v 9)))))
    .nil) .nil)
    (.cons (.set 14 .fz (.ix (.lst (.cons (.c (.int 1)) (.cons (.neg (.c (.int 1))) (.cons (.c (.int 5)) (.cons (.neg (.c (.int 9))) (.cons (.c (.int 1000)) .nil)))))) (.b2 .mod (.ix (.v 1) (.b2 .add (.c (.int 16)) (.v 5))) (.c (.int 5)))))
    (.cons (.set 6 .fz (.call 7 (.cons (.v 6) (.cons (.v 16) (.cons (.v 17) (.cons (.b2 .add (.call 8 (.cons (.v 6) (.cons (.v 16) (.cons (.v 17) .nil)))) (.v 14)) .nil))))))
    (.cons (.mu .append (.v 8) .fz (.tup (.cons (.v 16) (.cons (.v 17) .nil))))
    .nil))))))
    (.cons (.set 10 .fz (.bi1 .repr (.v 6)))
    (.cons (.set 11 .fz (.call 10 (.cons (.v 6) .nil)))
    (.cons (.for_ (.nm 12) (.r1 (.c (.int 2))) (.cons (.set 15 (.ls (.ls .fz)) (.lsh (.ls .fz) (.cons (.call 0 (.cons (.v 6) .nil)) (.cons (.call 2 (.cons (.v 6) .nil)) .nil))))
    (.cons (.ifs (.or (.not (.scl (.call 5 (.cons (.v 15) (.cons (.lst (.cons (.call 6 (.cons (.v 6) .nil)) (.cons (.v 11) .nil))) .nil))))) (.c2 .ne (.bi1 .repr (.v 6)) (.v 10))) (.cons (.ret (.c (.bool false)))
    .nil) .nil)
    (.cons (.mu .append (.ix 15 (.c (.int 0))) .fz (.c (.int 0)))
    (.cons (.mu .append (.ix 15 (.c (.int 1))) .fz (.c (.int 0)))
    (.cons (.fz 15)
    .nil))))))
    (.cons (.ifs (.c2 .eq (.bi1 .len (.v 8)) (.c (.int 1))) (.cons (.un (.t2 (.nm 16) (.nm 17)) (.ix (.v 8) (.c (.int 0))))
    (.cons (.ret (.c2 .isin (.tup (.cons (.v 16) (.cons (.v 17) (.cons (.call 8 (.cons (.v 7) (.cons (.v 16) (.cons (.v 17) .nil)))) .nil)))) (.call 2 (.cons (.v 6) .nil))))
    .nil)) .nil)
    (.cons (.ret (.or (.c2 .ne (.v 6) (.v 7)) (.c2 .eq (.v 11) (.lst .nil))))
    .nil))))))))))))))))) }
def r_law : MP.Row := ⟨f_law, ["script", "draws", "start", "lines", "balance", "k", "account", "right", "changed", "slots", "kept", "due", "turn", "amount", "step", "told", "word", "at"], ["script"], 13⟩
def rows : List MP.Row := [r_offs, r_single_corrections, r_corrections, r__law_cell, r__law_numbers, r__law_same, r__law_offs, r__law_with, r__law_value, r__law_slots, r__law_corrections, r_law]
theorem ok : okAll top rows = true := by decide +kernel
theorem bind : BindAll top rows := by
  intro r hr
  unfold rows at hr
  simp only [List.mem_cons, List.not_mem_nil, or_false] at hr
  rcases hr with rfl | rfl | rfl | rfl | rfl | rfl | rfl | rfl | rfl | rfl | rfl | rfl
  · intro kV doc pm an cdv ct us hl
    match us, hl with
    | [_], _ => rfl
  · intro kV doc pm an cdv ct us hl
    match us, hl with
    | [_, _, _], _ => rfl
  · intro kV doc pm an cdv ct us hl
    match us, hl with
    | [_], _ => rfl
  · intro kV doc pm an cdv ct us hl
    match us, hl with
    | [_, _], _ => rfl
  · intro kV doc pm an cdv ct us hl
    match us, hl with
    | [_, _, _], _ => rfl
  · intro kV doc pm an cdv ct us hl
    match us, hl with
    | [_, _], _ => rfl
  · intro kV doc pm an cdv ct us hl
    match us, hl with
    | [_], _ => rfl
  · intro kV doc pm an cdv ct us hl
    match us, hl with
    | [_, _, _, _], _ => rfl
  · intro kV doc pm an cdv ct us hl
    match us, hl with
    | [_, _, _], _ => rfl
  · intro kV doc pm an cdv ct us hl
    match us, hl with
    | [_], _ => rfl
  · intro kV doc pm an cdv ct us hl
    match us, hl with
    | [_], _ => rfl
  · intro kV doc pm an cdv ct us hl
    match us, hl with
    | [_], _ => rfl
abbrev R : PySem.W.OpenRow := PySem.W.OpenLaw.row PySem.Challenge.rw_nobodywaits_k58_accounts_with_one_wrong
abbrev hk : PySem.W.Hook := He.hookD 4 (faO rows) (fnO top rows)
def ob (s : PySem.W.SharedT) : He.AlD := He.obsDG 4 (faO rows) (fnO top rows) (HandSHeadRun.getT s)
theorem ob_eq (s : PySem.W.SharedT) : ob s = hk.obs s.abs := He.obsDG_eq (HandSHeadRun.getT_eq s)
def loose : List Str := ["offs", "single_corrections", "corrections", "_law_cell", "_law_numbers", "_law_same", "_law_offs", "_law_with", "_law_value", "_law_slots", "_law_corrections"]
theorem run (w : World) : HandSHeadRun.RunEq R (PySem.W.view R.prog [13]) hk ob 2000 loose w := by
  intro os
  kernel_rfl
end Lw
namespace Lw
open PySem PySem.Spec MP
abbrev P : Prg := prgO rows
theorem is_cell (n : Nat) (ns : List Int) (k : Nat) (hl : ns.length ≤ V1.LIM) : Is P (n + 1) 3 [V1.wk (ns.map PyData.int), .int (k : Int)] (.int (ns.getD k 0)) := by
  have hlen : V1.bi1 .len (V1.wk (ns.map PyData.int)) = .ok (.int (ns.length : Int)) := by
    show Rs.ok (PyData.int ((ns.map PyData.int).length : Int)) = _
    rw [List.length_map]
  have hc : evE (callF P n) (.c2 .lt (.v 1) (.bi1 .len (.v 0))) [some (V1.wk (ns.map PyData.int)), some (.int (k : Int))] = .ok (.bool (decide ((k : Int) < (ns.length : Int)))) := by
    simp [evE, hlen, V1.cmp2]
  by_cases hk : k < ns.length
  · refine is_ret (f := f__law_cell) (ρ := [some (V1.wk (ns.map PyData.int)), some (.int (k : Int))]) rfl rfl (ex_ret ?_) rfl
    have hx : V1.ix (V1.wk (ns.map PyData.int)) (.int (k : Int)) = .ok (.int ns[k]) := by
      show Rs.of (L2.atI (ns.map PyData.int) (k : Int)) = _
      rw [atI_nat (d := .int ns[k]) (by rw [List.getElem?_map, List.getElem?_eq_getElem hk]; rfl)]
      rfl
    have he : ns.getD k 0 = ns[k] := by rw [List.getD_eq_getElem?_getD, List.getElem?_eq_getElem hk]; rfl
    rw [he]
    refine (ex_if hc rfl).trans ?_
    rw [if_pos (by simp; omega)]
    refine ex_ret (ex_rt ?_)
    simp [evE, hx, V1.bi1]
  · have he : ns.getD k 0 = 0 := by rw [List.getD_eq_getElem?_getD, List.getElem?_eq_none (by omega)]; rfl
    rw [he]
    refine is_ret (f := f__law_cell) (ρ := [some (V1.wk (ns.map PyData.int)), some (.int (k : Int))]) rfl rfl ((ex_nx (ρ' := [some (V1.wk (ns.map PyData.int)), some (.int (k : Int))]) ?_).trans (ex_ret (ex_rt ?_))) rfl
    · refine (ex_if hc rfl).trans ?_
      rw [if_neg (by simp; omega)]
      simp [exSs]
    · simp [evE]
/-- numbers below a limit -/
def Ds (l : List Int) (count : Nat) (limit : Int) : Prop := l.length = count ∧ ∀ x ∈ l, 0 ≤ x ∧ x < limit
theorem num_body1 {n : Nat} {cell : Int} {count : Nat} {limit : Int} (hl : 0 < limit) (hl2 : limit < 1073741824) (hc : count ≤ 100000) : ∀ (i : Nat) (x : D) (ρ : En), ((List.range count).map fun k : Nat => PyData.int (k : Int))[i]? = some x → (∃ (c : Int) (l : List Int) (u : Option D), ρ = [some (.int c), some (.int (count : Int)), some (.int limit), some (.list (l.map PyData.int)), u, none] ∧ Ds l i limit) →
    ∃ ρ', ((asg (.nm 4) x ρ >>= fun ρ2 => exSs (callF P n) (.cons (.mu .append (.v 3) .fz (.b2 .mod (.bi1 .int (.v 0)) (.v 2))) (.cons (.set 0 .fz (.b2 .fdiv (.bi1 .int (.v 0)) (.v 2))) .nil)) ρ2) = .ok (.nx ρ') ∨ (asg (.nm 4) x ρ >>= fun ρ2 => exSs (callF P n) (.cons (.mu .append (.v 3) .fz (.b2 .mod (.bi1 .int (.v 0)) (.v 2))) (.cons (.set 0 .fz (.b2 .fdiv (.bi1 .int (.v 0)) (.v 2))) .nil)) ρ2) = .ok (.cnt ρ')) ∧
      (∃ (c : Int) (l : List Int) (u : Option D), ρ' = [some (.int c), some (.int (count : Int)), some (.int limit), some (.list (l.map PyData.int)), u, none] ∧ Ds l (i + 1) limit) := by
  have hLIM : V1.LIM = 16777216 := rfl
  rintro i x ρ hx ⟨c, l, u, rfl, hd⟩
  have hi : i < count := by
    have := (List.getElem?_eq_some_iff.mp hx).1
    simpa using this
  refine ⟨[some (.int (c.fdiv limit)), some (.int (count : Int)), some (.int limit), some (.list ((l ++ [c.fmod limit]).map PyData.int)), some x, none], .inl ?_, c.fdiv limit, l ++ [c.fmod limit], some x, rfl, ?_, ?_⟩
  · show exSs _ _ [some (.int c), some (.int (count : Int)), some (.int limit), some (.list (l.map PyData.int)), some x, none] = _
    rw [ex_nx (ex_app (xs := l.map PyData.int) (d := .int (c.fmod limit)) rfl ?_ rfl ?_), ex_nx (ex_set (d := .int (c.fdiv limit)) ?_ rfl)]
    · simp [exSs]
    · simp only [evE, evEs, get0, getS, List.set_cons_zero, List.set_cons_succ, okb, intI, addI, fdivI hl hl2]
    · simp only [evE, evEs, get0, getS, List.set_cons_zero, List.set_cons_succ, okb, intI, addI, modI (show limit ≠ 0 by omega)]
    · rw [List.length_map, hd.1]; omega
  · rw [List.length_append, hd.1]; rfl
  · intro y hy
    rcases List.mem_append.mp hy with q | q
    · exact hd.2 y q
    · rw [List.mem_singleton.mp q]
      exact ⟨fmod_lo hl, fmod_hi hl⟩
theorem num_body2 {n : Nat} {cell : Int} {count : Nat} {limit : Int} (hl : 0 < limit) (hl2 : limit < 1073741824) (hc : count ≤ 100000) : ∀ (i : Nat) (x : D) (ρ : En), ((List.range count).map fun k : Nat => PyData.int (k : Int))[i]? = some x → (∃ (l : List Int) (u w : Option D), ρ = [some (.int cell), some (.int (count : Int)), some (.int limit), some (.list (l.map PyData.int)), u, w] ∧ Ds l i limit) →
    ∃ ρ', ((asg (.nm 4) x ρ >>= fun ρ2 => exSs (callF P n) (.cons (.set 5 .fz (.b2 .mod (.bi1 .int (.b2 .add (.b2 .add (.b2 .mul (.v 0) (.c (.int 48271))) (.b2 .mul (.v 4) (.c (.int 69621)))) (.c (.int 7)))) (.c (.int 2147483647))))
  (.cons (.set 5 .fz (.b2 .mod (.bi1 .int (.b2 .add (.b2 .add (.b2 .add (.b2 .mul (.v 5) (.v 5)) (.b2 .mul (.v 5) (.c (.int 40692)))) (.b2 .mul (.v 4) (.c (.int 16807)))) (.c (.int 11)))) (.c (.int 2147483399))))
  (.cons (.mu .append (.v 3) .fz (.b2 .mod (.bi1 .int (.b2 .fdiv (.v 5) (.c (.int 32)))) (.v 2))) .nil))) ρ2) = .ok (.nx ρ') ∨ (asg (.nm 4) x ρ >>= fun ρ2 => exSs (callF P n) (.cons (.set 5 .fz (.b2 .mod (.bi1 .int (.b2 .add (.b2 .add (.b2 .mul (.v 0) (.c (.int 48271))) (.b2 .mul (.v 4) (.c (.int 69621)))) (.c (.int 7)))) (.c (.int 2147483647))))
  (.cons (.set 5 .fz (.b2 .mod (.bi1 .int (.b2 .add (.b2 .add (.b2 .add (.b2 .mul (.v 5) (.v 5)) (.b2 .mul (.v 5) (.c (.int 40692)))) (.b2 .mul (.v 4) (.c (.int 16807)))) (.c (.int 11)))) (.c (.int 2147483399))))
  (.cons (.mu .append (.v 3) .fz (.b2 .mod (.bi1 .int (.b2 .fdiv (.v 5) (.c (.int 32)))) (.v 2))) .nil))) ρ2) = .ok (.cnt ρ')) ∧
      (∃ (l : List Int) (u w : Option D), ρ' = [some (.int cell), some (.int (count : Int)), some (.int limit), some (.list (l.map PyData.int)), u, w] ∧ Ds l (i + 1) limit) := by
  have hLIM : V1.LIM = 16777216 := rfl
  rintro i x ρ hx ⟨l, u, w, rfl, hd⟩
  obtain ⟨hi, ex⟩ := List.getElem?_eq_some_iff.mp hx
  have hi : i < count := by simpa using hi
  rw [List.getElem_map, List.getElem_range] at ex
  subst ex
  generalize hm1 : (cell * 48271 + (i : Int) * 69621 + 7).fmod 2147483647 = m1
  have b1 : 0 ≤ m1 ∧ m1 < 2147483647 := by
    rw [← hm1]
    exact ⟨fmod_lo (by decide), fmod_hi (by decide)⟩
  generalize hm2 : (m1 * m1 + m1 * 40692 + (i : Int) * 16807 + 11).fmod 2147483399 = m2
  refine ⟨[some (.int cell), some (.int (count : Int)), some (.int limit), some (.list ((l ++ [(m2.fdiv 32).fmod limit]).map PyData.int)), some (.int (i : Int)), some (.int m2)], .inl ?_, l ++ [(m2.fdiv 32).fmod limit], _, _, rfl, ?_, ?_⟩
  · show exSs _ _ [some (.int cell), some (.int (count : Int)), some (.int limit), some (.list (l.map PyData.int)), some (.int (i : Int)), w] = _
    have e1 : V1.op2 .mul (.int cell) (.int 48271) = .ok (.int (cell * 48271)) := muI (mulOk_r (by decide) (by decide))
    have e2 : V1.op2 .mul (.int (i : Int)) (.int 69621) = .ok (.int ((i : Int) * 69621)) := muI (mulOk_r (by decide) (by decide))
    have e3 : V1.op2 .mul (.int m1) (.int m1) = .ok (.int (m1 * m1)) := muI (mulOk_r (by omega) (by omega))
    have e4 : V1.op2 .mul (.int m1) (.int 40692) = .ok (.int (m1 * 40692)) := muI (mulOk_r (by decide) (by decide))
    have e5 : V1.op2 .mul (.int (i : Int)) (.int 16807) = .ok (.int ((i : Int) * 16807)) := muI (mulOk_r (by decide) (by decide))
    rw [ex_nx (ex_set (d := .int m1) ?_ rfl), ex_nx (ex_set (d := .int m2) ?_ rfl), ex_nx (ex_app (xs := l.map PyData.int) (d := .int ((m2.fdiv 32).fmod limit)) rfl ?_ rfl ?_)]
    · simp [exSs]
    · simp only [evE, evEs, get0, getS, List.set_cons_zero, List.set_cons_succ, okb, intI, addI, fdivI (show (0 : Int) < 32 by decide) (by decide), modI (show limit ≠ 0 by omega)]
    · rw [List.length_map, hd.1]; omega
    · simp only [evE, evEs, get0, getS, List.set_cons_zero, List.set_cons_succ, okb, intI, addI, e3, e4, e5, modI (show (2147483399 : Int) ≠ 0 by decide), hm2]
    · simp only [evE, evEs, get0, getS, List.set_cons_zero, List.set_cons_succ, okb, intI, addI, e1, e2, modI (show (2147483647 : Int) ≠ 0 by decide), hm1]
  · rw [List.length_append, hd.1]; rfl
  · intro y hy
    rcases List.mem_append.mp hy with q | q
    · exact hd.2 y q
    · rw [List.mem_singleton.mp q]
      exact ⟨fmod_lo hl, fmod_hi hl⟩
theorem is_numbers (n : Nat) (cell : Int) (count : Nat) (limit : Int) (hl : 0 < limit) (hl2 : limit < 1073741824) (hc : count ≤ 100000) : ∃ l : List Int, Is P (n + 1) 4 [.int cell, .int (count : Int), .int limit] (.list (l.map PyData.int)) ∧ Ds l count limit := by
  have hLIM : V1.LIM = 16777216 := rfl
  have hr : ∀ ρ : En, get ρ 1 = .ok (.int (count : Int)) → evIt (callF P n) (.r1 (.v 1)) ρ = .ok ((List.range count).map fun k : Nat => PyData.int (k : Int)) := by
    intro ρ h
    exact it_r1 (by unfold evE; exact h) (by omega)
  have h10 : evE (callF P n) (.b2 .pow (.c (.int 10)) (.c (.int 18))) [some (.int cell), some (.int (count : Int)), some (.int limit), some (.list []), none, none] = .ok (.int 1000000000000000000) := by
    simp only [evE, okb]
    rw [powI (by decide +kernel), show ((10 : Int) ^ (18 : Int).toNat) = 1000000000000000000 from by decide +kernel]
  have hif : evE (callF P n) (.c2 .ge (.v 0) (.b2 .pow (.c (.int 10)) (.c (.int 18)))) [some (.int cell), some (.int (count : Int)), some (.int limit), some (.list []), none, none] = .ok (.bool (decide ((1000000000000000000 : Int) ≤ cell))) := by
    have h9 := h10
    unfold evE
    rw [h9]
    simp only [evE, get0, okb, geI]
  have len0 : ((List.range count).map fun k : Nat => PyData.int (k : Int)).length = count := by simp
  have start0 : exSs (callF P n) f__law_numbers.body (startE 6 [.int cell, .int (count : Int), .int limit]) = _ := ex_nx (ex_set (d := .list []) (by simp [evE, evEs, V1.limx]) rfl)
  by_cases hge : (1000000000000000000 : Int) ≤ cell
  · obtain ⟨ρ', e, c, l, u, rfl, hd⟩ := forL_all (fun i ρ => ∃ (c : Int) (l : List Int) (u : Option D), ρ = [some (.int c), some (.int (count : Int)), some (.int limit), some (.list (l.map PyData.int)), u, none] ∧ Ds l i limit) ⟨cell, [], none, rfl, rfl, fun x hx => (by cases hx)⟩ (num_body1 (cell := cell) hl hl2 hc)
    rw [len0] at hd
    refine ⟨l, is_ret (f := f__law_numbers) (ρ := [some (.int c), some (.int (count : Int)), some (.int limit), some (.list (l.map PyData.int)), u, none]) rfl rfl ?_ rfl, hd⟩
    refine start0.trans (ex_ret ?_)
    refine (ex_if hif rfl).trans ?_
    rw [if_pos (decide_eq_true hge)]
    refine (ex_nx ((ex_for (hr _ rfl)).trans e)).trans ((ex_nx ex_fz).trans ?_)
    exact ex_ret (ex_rt (by simp [evE]))
  · obtain ⟨ρ', e, l, u, w, rfl, hd⟩ := forL_all (fun i ρ => ∃ (l : List Int) (u w : Option D), ρ = [some (.int cell), some (.int (count : Int)), some (.int limit), some (.list (l.map PyData.int)), u, w] ∧ Ds l i limit) ⟨[], none, none, rfl, rfl, fun x hx => (by cases hx)⟩ (num_body2 hl hl2 hc)
    rw [len0] at hd
    refine ⟨l, is_ret (f := f__law_numbers) (ρ := [some (.int cell), some (.int (count : Int)), some (.int limit), some (.list (l.map PyData.int)), u, w]) rfl rfl ?_ rfl, hd⟩
    refine start0.trans ((ex_nx (ρ' := [some (.int cell), some (.int (count : Int)), some (.int limit), some (.list []), none, none]) ?_).trans ?_)
    · refine (ex_if hif rfl).trans ?_
      rw [if_neg (by simpa using hge)]
      simp [exSs]
    · refine (ex_nx ((ex_for (hr _ rfl)).trans e)).trans ((ex_nx ex_fz).trans ?_)
      exact ex_ret (ex_rt (by simp [evE]))
end Lw
namespace Lw
open PySem PySem.Spec MP
def Sm : Nat → D → Prop
  | _, .none => True
  | _, .bool _ => True
  | _, .int _ => True
  | _, .str s => PyData.strOk s = true
  | 0, .list _ => False
  | 0, .tuple _ => False
  | n + 1, .list xs => xs.length ≤ V1.LIM ∧ ∀ x ∈ xs, Sm n x
  | n + 1, .tuple xs => xs.length ≤ V1.LIM ∧ ∀ x ∈ xs, Sm n x
  | _, .dict _ => False
theorem isI {t : Ty} {d : D} (h : V1.isi t d = .ok (.bool (V1.isiB t d))) {cf : CF} {ρ : En} {i : Nat} (hg : get ρ i = .ok d) : evE cf (.isi t (.v i)) ρ = .ok (.bool (V1.isiB t d)) := by
  unfold evE
  rw [show evE cf (.v i) ρ = .ok d by unfold evE; exact hg, okb]
  exact h
theorem isT {t : Ty} {d : D} {b : Bool} {cf : CF} {ρ : En} {i : Nat} (hg : get ρ i = .ok d) (h : V1.isi t d = .ok (.bool b)) : evE cf (.isi t (.v i)) ρ = .ok (.bool b) := by
  unfold evE
  rw [ev_v hg, okb]
  exact h
theorem same_loop {n : Nat} {d : D} {xs : List D} (hl : xs.length ≤ V1.LIM) (hlen : V1.bi1 .len d = .ok (.int (xs.length : Int))) (hix : ∀ (i : Nat) (x : D), xs[i]? = some x → V1.ix d (.int (i : Int)) = .ok x) (ih : ∀ x ∈ xs, Is P n 5 [x, x] (.bool true)) :
    ∃ ρ, exSs (callF P n) (.cons (.for_ (.nm 2) (.r1 (.bi1 .len (.v 1))) (.cons (.ifs (.not (.call 5 (.cons (.ix (.v 0) (.v 2)) (.cons (.ix (.v 1) (.v 2)) .nil)))) (.cons (.ret (.c (.bool false))) .nil) .nil) .nil)) (.cons (.ret (.c (.bool true))) .nil)) [some d, some d, none] = .ok (.ret (.bool true) ρ) := by
  have hr : evIt (callF P n) (.r1 (.bi1 .len (.v 1))) [some d, some d, none] = .ok ((List.range xs.length).map fun k : Nat => PyData.int (k : Int)) := it_r1 (by simp only [evE, get0, getS, okb, hlen]) hl
  obtain ⟨ρ', e, u, rfl⟩ := forL_all (f := fun x ρ' => asg (.nm 2) x ρ' >>= fun ρ2 => exSs (callF P n) (.cons (.ifs (.not (.call 5 (.cons (.ix (.v 0) (.v 2)) (.cons (.ix (.v 1) (.v 2)) .nil)))) (.cons (.ret (.c (.bool false))) .nil) .nil) .nil) ρ2)
    (xs := (List.range xs.length).map fun k : Nat => PyData.int (k : Int)) (ρ := [some d, some d, none]) (fun i ρ => ∃ u, ρ = [some d, some d, u]) ⟨none, rfl⟩ (by
    rintro i x ρ hx ⟨u, rfl⟩
    obtain ⟨hi, ex⟩ := List.getElem?_eq_some_iff.mp hx
    rw [List.getElem_map, List.getElem_range] at ex
    subst ex
    have hi : i < xs.length := by simpa using hi
    have hx := hix i xs[i] (List.getElem?_eq_getElem hi)
    refine ⟨[some d, some d, some (.int (i : Int))], .inl ?_, _, rfl⟩
    show exSs _ _ [some d, some d, some (.int (i : Int))] = _
    refine ex_end (if_f (ev_not (ev_call (ih xs[i] (List.getElem_mem hi)) ?_)))
    exact es_cons (ev_ix (ev_v rfl) (ev_v rfl) hx) (es_cons (ev_ix (ev_v rfl) (ev_v rfl) hx) es_nil))
  exact ⟨_, (ex_nx ((ex_for hr).trans e)).trans (ex_ret (ex_rt (by simp only [evE])))⟩
theorem len_ne {d : D} {n : Int} {cf : CF} {t : Ty} {u : Option D} (hi : V1.isi t d = .ok (.bool (V1.isiB t d))) (ht : V1.isiB t d = true) (hlen : V1.bi1 .len d = .ok (.int n)) : evE cf (.or (.not (.isi t (.v 0))) (.c2 .ne (.bi1 .len (.v 0)) (.bi1 .len (.v 1)))) [some d, some d, u] = .ok (.bool false) := by
  refine ev_or (ev_not ((isI hi rfl).trans (by rw [ht]))) (ev_c2 (ev_bi (ev_v rfl) hlen) (ev_bi (ev_v rfl) hlen) ?_)
  rw [neI, beq_self_eq_true]
  rfl
theorem same_body {n : Nat} {d : D} {ρ : En} (h : exSs (callF P n) f__law_same.body [some d, some d, none] = .ok (.ret (.bool true) ρ)) : Is P (n + 1) 5 [d, d] (.bool true) := is_ret (f := f__law_same) rfl rfl h rfl
theorem eqv_self : ∀ {n : Nat} {d : D}, Sm n d → V1.scalar d = true → V1.cmp2 .eq d d = .ok (.bool true)
  | _, .none, _, _ => rfl
  | _, .bool b, _, _ => by cases b <;> rfl
  | _, .int i, _, _ => by rw [eqI, beq_self_eq_true]
  | n, .str s, h, _ => by
    have h : PyData.strOk s = true := by cases n <;> exact h
    have hs : V1.shp (.str s) = true := by
      unfold V1.shp SeqAt.shaped PyData.canLay0 PyData.depth
      rw [h]
      rfl
    show (if V1.shp (.str s) && V1.shp (.str s) then Rs.ok (PyData.bool (PyData.eqv (.str s) (.str s))) else .bad) = _
    refine (if_pos (by rw [hs]; rfl)).trans ?_
    unfold PyData.eqv
    rw [beq_self_eq_true]
theorem same_scal {n m : Nat} {d : D} (h : Sm n d) (hs : V1.scalar d = true) : Is P (m + 1) 5 [d, d] (.bool true) := by
  have he := eqv_self h hs
  cases d with
  | none =>
    refine same_body (ρ := [some .none, some .none, none]) (ex_ret ?_)
    refine (if_e (isT rfl rfl)).trans (ex_ret ?_)
    refine (if_e (isT rfl rfl)).trans (ex_ret ?_)
    refine (if_t (by simp only [evE, get0, getS, okb]; rfl)).trans (ex_ret (ex_rt ?_))
    simp only [evE, get0, getS, okb]
    rfl
  | bool b =>
    refine same_body (ρ := [some (.bool b), some (.bool b), none]) (ex_ret ?_)
    refine (if_e (isT rfl rfl)).trans (ex_ret ?_)
    refine (if_e (isT rfl rfl)).trans (ex_ret ?_)
    refine (if_e (by simp only [evE, get0, getS, okb]; rfl)).trans (ex_ret ?_)
    refine (if_t (isT rfl rfl)).trans (ex_ret (ex_rt ?_))
    exact ev_and (isT rfl rfl) (ev_c2 (ev_v rfl) (ev_v rfl) he)
  | int i =>
    refine same_body (ρ := [some (.int i), some (.int i), none]) (ex_ret ?_)
    refine (if_e (isT rfl rfl)).trans (ex_ret ?_)
    refine (if_e (isT rfl rfl)).trans (ex_ret ?_)
    refine (if_e (by simp only [evE, get0, getS, okb]; rfl)).trans (ex_ret ?_)
    refine (if_e (isT rfl rfl)).trans (ex_ret ?_)
    refine (if_t (isT rfl rfl)).trans (ex_ret (ex_rt ?_))
    exact ev_and (isT rfl rfl) (ev_and (ev_not (b := false) (isT rfl rfl)) (ev_c2 (ev_v rfl) (ev_v rfl) he))
  | str s =>
    refine same_body (ρ := [some (.str s), some (.str s), none]) (ex_ret ?_)
    refine (if_e (isT rfl rfl)).trans (ex_ret ?_)
    refine (if_e (isT rfl rfl)).trans (ex_ret ?_)
    refine (if_e (by simp only [evE, get0, getS, okb]; rfl)).trans (ex_ret ?_)
    refine (if_e (isT rfl rfl)).trans (ex_ret ?_)
    refine (if_e (isT rfl rfl)).trans (ex_ret (ex_rt ?_))
    exact ev_and (isT rfl rfl) (ev_c2 (ev_v rfl) (ev_v rfl) he)
  | list _ => cases hs
  | tuple _ => cases hs
  | dict _ => cases hs
theorem is_same : ∀ (n : Nat) (d : D), Sm n d → Is P (n + 1) 5 [d, d] (.bool true) := by
  intro n
  induction n with
  | zero =>
    intro d h
    refine same_scal h ?_
    cases d <;> first | rfl | exact h.elim
  | succ n ih =>
    intro d h
    cases d with
    | list xs =>
      obtain ⟨hl, hx⟩ := h
      obtain ⟨ρ, e⟩ := same_loop (n := n + 1) (d := .list xs) hl lenL (fun i x hx => ix_lst hx) fun x q => ih x (hx x q)
      exact same_body ((ex_nx ((if_t (isT rfl rfl)).trans (ex_end (if_f (len_ne rfl rfl lenL))))).trans e)
    | tuple xs =>
      obtain ⟨hl, hx⟩ := h
      obtain ⟨ρ, e⟩ := same_loop (n := n + 1) (d := .tuple xs) hl lenT (fun i x hx => ix_tup hx) fun x q => ih x (hx x q)
      exact same_body ((ex_nx ((if_e (isT rfl rfl)).trans (ex_end ((if_t (isT rfl rfl)).trans (ex_end (if_f (len_ne rfl rfl lenT))))))).trans e)
    | dict _ => exact h.elim
    | _ => exact same_scal h rfl
end Lw
namespace Lw
open PySem PySem.Spec MP
section
variable (s : Int) (m : Nat) (amt bal : Nat → Int)
def lineD (i : Nat) : D := .tuple [.int (amt i), .int (bal i)]
def linesD : List D := (List.range m).map (lineD amt bal)
def acct : D := .tuple [.int s, .list (linesD m amt bal)]
def prev (i : Nat) : Int := if i = 0 then s else bal (i - 1)
def O (i : Nat) : Int := bal i - prev s bal i - amt i
def offsD : List D := (List.range m).map fun i => .int (O s amt bal i)
end
theorem lines_len {m : Nat} {amt bal : Nat → Int} : (linesD m amt bal).length = m := by unfold linesD; simp
theorem lines_get {m i : Nat} {amt bal : Nat → Int} (h : i < m) : (linesD m amt bal)[i]? = some (lineD amt bal i) := by unfold linesD; simp [h]
theorem take_range {α : Type} (f : Nat → α) {m i : Nat} (h : i < m) : ((List.range m).map f).take (i + 1) = ((List.range m).map f).take i ++ [f i] := by
  rw [List.take_add_one]
  simp [h]
theorem range_get {f : Nat → D} {m i : Nat} {x : D} (h : ((List.range m).map f)[i]? = some x) : i < m ∧ x = f i := by
  obtain ⟨hi, ex⟩ := List.getElem?_eq_some_iff.mp h
  rw [List.getElem_map, List.getElem_range] at ex
  exact ⟨by simpa using hi, ex.symm⟩
theorem is_offs (n : Nat) {s : Int} {m : Nat} {amt bal : Nat → Int} (hm : m ≤ 100000) : Is P (n + 1) 0 [acct s m amt bal] (.list (offsD s m amt bal)) := by
  have hLIM : V1.LIM = 16777216 := rfl
  obtain ⟨ρ', e, u, v, rfl⟩ := forL_all (f := fun x ρ' => asg (.t2 (.nm 4) (.nm 5)) x ρ' >>= fun ρ2 => exSs (callF P n) (.cons (.mu .append (.v 1) .fz (.b2 .sub (.b2 .sub (.v 5) (.v 2)) (.v 4))) (.cons (.set 2 .fz (.v 5)) .nil)) ρ2)
    (xs := linesD m amt bal) (ρ := [some (acct s m amt bal), some (.list []), some (.int s), some (.list (linesD m amt bal)), none, none])
    (fun i ρ => ∃ u v, ρ = [some (acct s m amt bal), some (.list ((offsD s m amt bal).take i)), some (.int (prev s bal i)), some (.list (linesD m amt bal)), u, v]) ⟨none, none, rfl⟩ (by
    rintro i x ρ hx ⟨u, v, rfl⟩
    obtain ⟨hi, rfl⟩ := range_get hx
    refine ⟨[some (acct s m amt bal), some (.list ((offsD s m amt bal).take (i + 1))), some (.int (bal i)), some (.list (linesD m amt bal)), some (.int (amt i)), some (.int (bal i))], .inl ?_, _, _, rfl⟩
    show exSs _ _ [some (acct s m amt bal), some (.list ((offsD s m amt bal).take i)), some (.int (prev s bal i)), some (.list (linesD m amt bal)), some (.int (amt i)), some (.int (bal i))] = _
    refine (ex_nx (ex_app (d := .int (O s amt bal i)) rfl ?_ rfl ?_)).trans (ex_end ((ex_set (d := .int (bal i)) (ev_v rfl) rfl).trans ?_))
    · exact ev_b2 (ev_b2 (ev_v rfl) (ev_v rfl) subI) (ev_v rfl) subI
    · rw [List.length_take]; omega
    · have : (offsD s m amt bal).take (i + 1) = (offsD s m amt bal).take i ++ [.int (O s amt bal i)] := take_range _ hi
      rw [this]
      rfl)
  rw [lines_len] at e
  have ht : (offsD s m amt bal).take m = offsD s m amt bal := List.take_of_length_le (by unfold offsD; simp)
  rw [ht] at e
  refine is_ret (f := f_offs) (ρ := [some (acct s m amt bal), some (.list (offsD s m amt bal)), some (.int (prev s bal m)), some (.list (linesD m amt bal)), u, v]) rfl rfl ?_ sh_l
  refine (ex_nx (ex_un (ev_v rfl) (ρ' := [some (acct s m amt bal), none, some (.int s), some (.list (linesD m amt bal)), none, none]) rfl)).trans ?_
  refine (ex_nx (ex_set (d := .list []) (ev_lst es_nil (Nat.zero_le _)) rfl)).trans ?_
  refine (ex_nx ((ex_for (it_sq (ev_v rfl) rfl)).trans e)).trans ?_
  exact ex_ret (ex_rv rfl)
theorem okS1 : PyData.strOk "start" = true := by decide +kernel
theorem okS2 : PyData.strOk "amount" = true := by decide +kernel
theorem okS3 : PyData.strOk "balance" = true := by decide +kernel
theorem ss : V1.cmp2 .eq (.str "start") (.str "start") = .ok (.bool true) := by rw [eqS okS1 okS1, show (("start" : Str) == "start") = true by decide +kernel]
theorem as_ : V1.cmp2 .eq (.str "amount") (.str "start") = .ok (.bool false) := by rw [eqS okS2 okS1, show (("amount" : Str) == "start") = false by decide +kernel]
theorem bs_ : V1.cmp2 .eq (.str "balance") (.str "start") = .ok (.bool false) := by rw [eqS okS3 okS1, show (("balance" : Str) == "start") = false by decide +kernel]
theorem aa : V1.cmp2 .eq (.str "amount") (.str "amount") = .ok (.bool true) := by rw [eqS okS2 okS2, show (("amount" : Str) == "amount") = true by decide +kernel]
theorem ba : V1.cmp2 .eq (.str "balance") (.str "amount") = .ok (.bool false) := by rw [eqS okS3 okS2, show (("balance" : Str) == "amount") = false by decide +kernel]
theorem ab : V1.cmp2 .eq (.str "amount") (.str "balance") = .ok (.bool false) := by rw [eqS okS2 okS3, show (("amount" : Str) == "balance") = false by decide +kernel]
theorem bb : V1.cmp2 .eq (.str "balance") (.str "balance") = .ok (.bool true) := by rw [eqS okS3 okS3, show (("balance" : Str) == "balance") = true by decide +kernel]
theorem lineA {amt bal : Nat → Int} {i : Nat} : V1.ix (lineD amt bal i) (.int 0) = .ok (.int (amt i)) := ix_tup (k := 0) rfl
theorem lineB {amt bal : Nat → Int} {i : Nat} : V1.ix (lineD amt bal i) (.int 1) = .ok (.int (bal i)) := ix_tup (k := 1) rfl
theorem is_loffs (n : Nat) {s : Int} {m : Nat} {amt bal : Nat → Int} (hm : m ≤ 100000) : Is P (n + 1) 6 [acct s m amt bal] (.list (offsD s m amt bal)) := by
  have hLIM : V1.LIM = 16777216 := rfl
  obtain ⟨ρ', e, u, v, rfl⟩ := forL_all (f := fun x ρ' => asg (.nm 2) x ρ' >>= fun ρ2 => exSs (callF P n) (.cons (.set 5 .fz (.v 3))
    (.cons (.ifs (.c2 .gt (.v 2) (.c (.int 0))) (.cons (.set 5 .fz (.ix (.ix (.v 4) (.b2 .sub (.v 2) (.c (.int 1)))) (.c (.int 1)))) .nil) .nil)
    (.cons (.mu .append (.v 1) .fz (.b2 .sub (.b2 .sub (.ix (.ix (.v 4) (.v 2)) (.c (.int 1))) (.v 5)) (.ix (.ix (.v 4) (.v 2)) (.c (.int 0))))) .nil))) ρ2)
    (xs := (List.range m).map fun k : Nat => PyData.int (k : Int)) (ρ := [some (acct s m amt bal), some (.list []), none, some (.int s), some (.list (linesD m amt bal)), none])
    (fun i ρ => ∃ u v, ρ = [some (acct s m amt bal), some (.list ((offsD s m amt bal).take i)), u, some (.int s), some (.list (linesD m amt bal)), v]) ⟨none, none, rfl⟩ (by
    rintro i x ρ hx ⟨u, v, rfl⟩
    obtain ⟨hi, rfl⟩ := range_get hx
    refine ⟨[some (acct s m amt bal), some (.list ((offsD s m amt bal).take (i + 1))), some (.int (i : Int)), some (.int s), some (.list (linesD m amt bal)), some (.int (prev s bal i))], .inl ?_, _, _, rfl⟩
    show exSs _ _ [some (acct s m amt bal), some (.list ((offsD s m amt bal).take i)), some (.int (i : Int)), some (.int s), some (.list (linesD m amt bal)), v] = _
    refine (ex_nx (ex_set (d := .int s) (ev_v rfl) rfl)).trans ?_
    refine (ex_nx (ρ' := [some (acct s m amt bal), some (.list ((offsD s m amt bal).take i)), some (.int (i : Int)), some (.int s), some (.list (linesD m amt bal)), some (.int (prev s bal i))]) ?_).trans ?_
    · have hc : evE (callF P n) (.c2 .gt (.v 2) (.c (.int 0))) [some (acct s m amt bal), some (.list ((offsD s m amt bal).take i)), some (.int (i : Int)), some (.int s), some (.list (linesD m amt bal)), some (.int s)] = .ok (.bool (decide ((0 : Int) < (i : Int)))) := ev_c2 (ev_v rfl) ev_c gtI
      by_cases h0 : i = 0
      · subst h0
        exact if_f (hc.trans rfl)
      · have h1 : decide ((0 : Int) < (i : Int)) = true := decide_eq_true (by omega)
        rw [h1] at hc
        refine (if_t hc).trans (ex_end ((ex_set (d := .int (prev s bal i)) ?_ rfl).trans rfl))
        have hp : prev s bal i = bal (i - 1) := if_neg h0
        rw [hp]
        refine ev_ix (ev_ix (ev_v rfl) (ev_b2 (ev_v rfl) ev_c subI) (z := lineD amt bal (i - 1)) ?_) ev_c lineB
        rw [show ((i : Int) - 1) = ((i - 1 : Nat) : Int) by omega]
        exact ix_lst (lines_get (by omega))
    · refine ex_end ((ex_app (d := .int (O s amt bal i)) rfl ?_ rfl ?_).trans ?_)
      · have hl : evE (callF P n) (.ix (.v 4) (.v 2)) [some (acct s m amt bal), some (.list ((offsD s m amt bal).take i)), some (.int (i : Int)), some (.int s), some (.list (linesD m amt bal)), some (.int (prev s bal i))] = .ok (lineD amt bal i) := ev_ix (ev_v rfl) (ev_v rfl) (ix_lst (lines_get hi))
        exact ev_b2 (ev_b2 (ev_ix hl ev_c lineB) (ev_v rfl) subI) (ev_ix hl ev_c lineA) subI
      · rw [List.length_take]; omega
      · have : (offsD s m amt bal).take (i + 1) = (offsD s m amt bal).take i ++ [.int (O s amt bal i)] := take_range _ hi
        rw [this]
        rfl)
  have ht : (offsD s m amt bal).take m = offsD s m amt bal := List.take_of_length_le (by unfold offsD; simp)
  rw [List.length_map, List.length_range, ht] at e
  refine is_ret (f := f__law_offs) (ρ := [some (acct s m amt bal), some (.list (offsD s m amt bal)), u, some (.int s), some (.list (linesD m amt bal)), v]) rfl rfl ?_ rfl
  refine (ex_nx (ex_un (ev_v rfl) (ρ' := [some (acct s m amt bal), none, none, some (.int s), some (.list (linesD m amt bal)), none]) rfl)).trans ?_
  refine (ex_nx (ex_set (d := .list []) (ev_lst es_nil (Nat.zero_le _)) rfl)).trans ?_
  refine (ex_nx ((ex_for (it_r1 (n := m) (ev_bi (ev_v rfl) (by rw [lenL, lines_len])) (by omega))).trans e)).trans ?_
  exact (ex_nx ex_fz).trans (ex_ret (ex_rt (ev_v rfl)))
theorem is_value_s (n : Nat) {s : Int} {m : Nat} {amt bal : Nat → Int} {k : Int} : Is P (n + 1) 8 [acct s m amt bal, .str "start", .int k] (.int s) := by
  refine is_ret (f := f__law_value) (ρ := [some (acct s m amt bal), some (.str "start"), some (.int k)]) rfl rfl (ex_ret ((if_t ?_).trans (ex_ret (ex_rt (ev_ix (ev_v rfl) ev_c (ix_tup (k := 0) rfl)))))) rfl
  exact ev_c2 (ev_v rfl) ev_c ss
theorem is_value_a (n : Nat) {s : Int} {m : Nat} {amt bal : Nat → Int} {k : Nat} (hk : k < m) : Is P (n + 1) 8 [acct s m amt bal, .str "amount", .int (k : Int)] (.int (amt k)) := by
  refine is_ret (f := f__law_value) (ρ := [some (acct s m amt bal), some (.str "amount"), some (.int (k : Int))]) rfl rfl ((ex_nx (if_f (ev_c2 (ev_v rfl) ev_c as_))).trans (ex_ret (ex_rt ?_))) rfl
  exact ev_ix (ev_ix (ev_ix (ev_v rfl) ev_c (ix_tup (k := 1) rfl)) (ev_v rfl) (ix_lst (lines_get hk))) (ev_bi (ev_c2 (ev_v rfl) ev_c ab) rfl) lineA
theorem is_value_b (n : Nat) {s : Int} {m : Nat} {amt bal : Nat → Int} {k : Nat} (hk : k < m) : Is P (n + 1) 8 [acct s m amt bal, .str "balance", .int (k : Int)] (.int (bal k)) := by
  refine is_ret (f := f__law_value) (ρ := [some (acct s m amt bal), some (.str "balance"), some (.int (k : Int))]) rfl rfl ((ex_nx (if_f (ev_c2 (ev_v rfl) ev_c bs_))).trans (ex_ret (ex_rt ?_))) rfl
  exact ev_ix (ev_ix (ev_ix (ev_v rfl) ev_c (ix_tup (k := 1) rfl)) (ev_v rfl) (ix_lst (lines_get hk))) (ev_bi (ev_c2 (ev_v rfl) ev_c bb) rfl) lineB
/-! a change -/
def upN (f : Nat → Int) (k : Nat) (v : Int) : Nat → Int := fun i => if i = k then v else f i
theorem is_with_s (n : Nat) {s v : Int} {m : Nat} {amt bal : Nat → Int} {k : Int} : Is P (n + 1) 7 [acct s m amt bal, .str "start", .int k, .int v] (acct v m amt bal) := by
  refine is_ret (f := f__law_with) (ρ := [some (acct s m amt bal), some (.str "start"), some (.int k), some (.int v), some (.int s), some (.list (linesD m amt bal)), none, none]) rfl rfl ?_ rfl
  refine (ex_nx (ex_un (ev_v rfl) rfl)).trans (ex_ret ((if_t (ev_c2 (ev_v rfl) ev_c ss)).trans (ex_ret (ex_rt ?_))))
  exact ev_tup (es_cons (ev_v rfl) (es_cons (ev_v rfl) es_nil)) sz2
theorem cut_set {xs : List D} {k : Nat} {x : D} (hk : k < xs.length) (hl : xs.length ≤ 100000) : V1.cut xs (some 0) (some (k : Int)) ++ [x] ++ V1.cut xs (some ((k : Int) + 1)) none = xs.set k x := by
  unfold V1.cut
  have e1 : HT.sIx xs.length 0 (some 0) = 0 := by simp [HT.sIx]
  have e2 : HT.sIx xs.length xs.length (some (k : Int)) = k := by
    rw [HT.sIx_nat]
    omega
  have e3 : HT.sIx xs.length 0 (some ((k : Int) + 1)) = k + 1 := by
    rw [show ((k : Int) + 1) = ((k + 1 : Nat) : Int) by omega, HT.sIx_nat]
    omega
  have e4 : HT.sIx xs.length xs.length none = xs.length := rfl
  rw [e1, e2, e3, e4, List.set_eq_take_append_cons_drop, if_pos hk, List.take_of_length_le (l := List.drop (k + 1) xs) (by simp)]
  simp
theorem set_lines {m k : Nat} {amt bal : Nat → Int} {x : D} {a b : Nat → Int} (hx : x = lineD a b k) (ho : ∀ i, i ≠ k → lineD a b i = lineD amt bal i) : (linesD m amt bal).set k x = linesD m a b := by
  unfold linesD
  apply List.ext_getElem?
  intro i
  rw [List.getElem?_set]
  by_cases h : k = i
  · subst h
    rw [if_pos rfl]
    by_cases hm : k < m
    · simp [hm, hx]
    · simp [hm]
  · rw [if_neg h]
    by_cases hm : i < m
    · simp [hm, ho i fun z => h z.symm]
    · simp [hm]
theorem is_with_a (n : Nat) {s v : Int} {m : Nat} {amt bal : Nat → Int} {k : Nat} (hk : k < m) (hm : m ≤ 100000) : Is P (n + 1) 7 [acct s m amt bal, .str "amount", .int (k : Int), .int v] (acct s m (upN amt k v) bal) := by
  have hLIM : V1.LIM = 16777216 := rfl
  have hl : (linesD m amt bal).length = m := lines_len
  have hc := cut_set (xs := linesD m amt bal) (k := k) (x := .tuple [.int v, .int (bal k)]) (by omega) (by omega)
  rw [set_lines (a := upN amt k v) (b := bal) (by unfold lineD upN; rw [if_pos rfl]) (fun i h => by unfold lineD upN; rw [if_neg h])] at hc
  refine is_ret (f := f__law_with) (ρ := [some (acct s m amt bal), some (.str "amount"), some (.int (k : Int)), some (.int v), some (.int s), some (.list (linesD m amt bal)), some (.int (amt k)), some (.int (bal k))]) rfl rfl ?_ rfl
  refine (ex_nx (ex_un (ev_v rfl) rfl)).trans ((ex_nx (if_f (ev_c2 (ev_v rfl) ev_c as_))).trans ?_)
  refine (ex_nx (ex_un (d := lineD amt bal k) (ev_ix (ev_v rfl) (ev_v rfl) (ix_lst (lines_get hk))) rfl)).trans (ex_ret ((if_t (ev_c2 (ev_v rfl) ev_c aa)).trans (ex_ret (ex_rt ?_))))
  refine ev_tup (es_cons (ev_v rfl) (es_cons (d := .list (linesD m (upN amt k v) bal)) ?_ es_nil)) sz2
  rw [← hc]
  have l1 : (V1.cut (linesD m amt bal) (some 0) (some (k : Int))).length ≤ m := Nat.le_trans (cut_len _ _ _) (Nat.le_of_eq hl)
  have l2 : (V1.cut (linesD m amt bal) (some ((k : Int) + 1)) none).length ≤ m := Nat.le_trans (cut_len _ _ _) (Nat.le_of_eq hl)
  exact ev_b2 (ev_b2 (ev_sl (ev_v rfl) (eo_so ev_c) (eo_so (ev_v rfl)) rfl) (ev_lst (es_cons (ev_tup (es_cons (ev_v rfl) (es_cons (ev_v rfl) es_nil)) sz2) es_nil) sz1) (addL (by simp only [List.length_cons, List.length_nil]; omega))) (ev_sl (ev_v rfl) (eo_so (ev_b2 (ev_v rfl) ev_c addI)) eo_no rfl) (addL (by simp only [List.length_append, List.length_cons, List.length_nil]; omega))
theorem is_with_b (n : Nat) {s v : Int} {m : Nat} {amt bal : Nat → Int} {k : Nat} (hk : k < m) (hm : m ≤ 100000) : Is P (n + 1) 7 [acct s m amt bal, .str "balance", .int (k : Int), .int v] (acct s m amt (upN bal k v)) := by
  have hLIM : V1.LIM = 16777216 := rfl
  have hl : (linesD m amt bal).length = m := lines_len
  have hc := cut_set (xs := linesD m amt bal) (k := k) (x := .tuple [.int (amt k), .int v]) (by omega) (by omega)
  rw [set_lines (a := amt) (b := upN bal k v) (by unfold lineD upN; rw [if_pos rfl]) (fun i h => by unfold lineD upN; rw [if_neg h])] at hc
  refine is_ret (f := f__law_with) (ρ := [some (acct s m amt bal), some (.str "balance"), some (.int (k : Int)), some (.int v), some (.int s), some (.list (linesD m amt bal)), some (.int (amt k)), some (.int (bal k))]) rfl rfl ?_ rfl
  refine (ex_nx (ex_un (ev_v rfl) rfl)).trans ((ex_nx (if_f (ev_c2 (ev_v rfl) ev_c bs_))).trans ?_)
  refine (ex_nx (ex_un (d := lineD amt bal k) (ev_ix (ev_v rfl) (ev_v rfl) (ix_lst (lines_get hk))) rfl)).trans ((ex_nx (if_f (ev_c2 (ev_v rfl) ev_c ba))).trans (ex_ret (ex_rt ?_)))
  refine ev_tup (es_cons (ev_v rfl) (es_cons (d := .list (linesD m amt (upN bal k v))) ?_ es_nil)) sz2
  rw [← hc]
  have l1 : (V1.cut (linesD m amt bal) (some 0) (some (k : Int))).length ≤ m := Nat.le_trans (cut_len _ _ _) (Nat.le_of_eq hl)
  have l2 : (V1.cut (linesD m amt bal) (some ((k : Int) + 1)) none).length ≤ m := Nat.le_trans (cut_len _ _ _) (Nat.le_of_eq hl)
  exact ev_b2 (ev_b2 (ev_sl (ev_v rfl) (eo_so ev_c) (eo_so (ev_v rfl)) rfl) (ev_lst (es_cons (ev_tup (es_cons (ev_v rfl) (es_cons (ev_v rfl) es_nil)) sz2) es_nil) sz1) (addL (by simp only [List.length_cons, List.length_nil]; omega))) (ev_sl (ev_v rfl) (eo_so (ev_b2 (ev_v rfl) ev_c addI)) eo_no rfl) (addL (by simp only [List.length_append, List.length_cons, List.length_nil]; omega))
/-- all slots: the start, each line's amount and balance -/
def slotsD (m : Nat) : List D := .tuple [.str "start", .int 0] :: (List.range m).flatMap fun k : Nat => [.tuple [.str "amount", .int (k : Int)], .tuple [.str "balance", .int (k : Int)]]
theorem slots_succ (i : Nat) : slotsD (i + 1) = slotsD i ++ [.tuple [.str "amount", .int (i : Int)], .tuple [.str "balance", .int (i : Int)]] := by
  unfold slotsD
  rw [List.range_succ, List.flatMap_append]
  simp
theorem slots_len : ∀ m, (slotsD m).length = 1 + 2 * m
  | 0 => rfl
  | m + 1 => by rw [slots_succ, List.length_append, slots_len m]; simp only [List.length_cons, List.length_nil]; omega
theorem is_slots (n : Nat) {s : Int} {m : Nat} {amt bal : Nat → Int} (hm : m ≤ 100000) : Is P (n + 1) 9 [acct s m amt bal] (.list (slotsD m)) := by
  have hLIM : V1.LIM = 16777216 := rfl
  obtain ⟨ρ', e, u, rfl⟩ := forL_all (f := fun x ρ' => asg (.nm 2) x ρ' >>= fun ρ2 => exSs (callF P n) (.cons (.set 1 .fz (.b2 .add (.v 1) (.lst (.cons (.tup (.cons (.c (.str "amount")) (.cons (.v 2) .nil))) (.cons (.tup (.cons (.c (.str "balance")) (.cons (.v 2) .nil))) .nil))))) .nil) ρ2)
    (xs := (List.range m).map fun k : Nat => PyData.int (k : Int)) (ρ := [some (acct s m amt bal), some (.list (slotsD 0)), none]) (fun i ρ => ∃ u, ρ = [some (acct s m amt bal), some (.list (slotsD i)), u]) ⟨none, rfl⟩ (by
    rintro i x ρ hx ⟨u, rfl⟩
    obtain ⟨hi, rfl⟩ := range_get hx
    refine ⟨[some (acct s m amt bal), some (.list (slotsD (i + 1))), some (.int (i : Int))], .inl ?_, _, rfl⟩
    show exSs _ _ [some (acct s m amt bal), some (.list (slotsD i)), some (.int (i : Int))] = _
    refine ex_end ((ex_set (d := .list (slotsD (i + 1))) ?_ rfl).trans rfl)
    rw [slots_succ]
    refine ev_b2 (ev_v rfl) (ev_lst (es_cons (ev_tup (es_cons ev_c (es_cons (ev_v rfl) es_nil)) sz2) (es_cons (ev_tup (es_cons ev_c (es_cons (ev_v rfl) es_nil)) sz2) es_nil)) sz2) (addL ?_)
    rw [slots_len]
    simp only [List.length_cons, List.length_nil]
    omega)
  rw [List.length_map, List.length_range] at e
  refine is_ret (f := f__law_slots) (ρ := [some (acct s m amt bal), some (.list (slotsD m)), u]) rfl rfl ?_ rfl
  refine (ex_nx (ex_set (d := .list (slotsD 0)) (ev_lst (es_cons (ev_tup (es_cons ev_c (es_cons ev_c es_nil)) sz2) es_nil) sz1) rfl)).trans ?_
  refine (ex_nx ((ex_for (it_r1 (n := m) (ev_bi (ev_ix (ev_v rfl) ev_c (ix_tup (k := 1) rfl)) (by rw [lenL, lines_len])) (by omega))).trans e)).trans ?_
  exact ex_ret (ex_rt (ev_v rfl))
end Lw
namespace Lw
open PySem PySem.Spec MP
def eA (k : Nat) (v : Int) : D := .tuple [.str "amount", .int (k : Int), .int v]
def eB (k : Nat) (v : Int) : D := .tuple [.str "balance", .int (k : Int), .int v]
def eS (v : Int) : D := .tuple [.str "start", .int 0, .int v]
def SC (s : Int) (m : Nat) (amt bal : Nat → Int) (w : Nat) (off : Int) : List D := [eA w (amt w + off)] ++ (if w + 1 = m then [eB w (bal w - off)] else []) ++ (if w = 0 then [eS (s + off)] else [])
theorem is_single (n : Nat) {s off : Int} {m : Nat} {amt bal : Nat → Int} {w : Nat} (hw : w < m) : Is P (n + 1) 1 [acct s m amt bal, .int (w : Int), .int off] (.list (SC s m amt bal w off)) := by
  have hLIM : V1.LIM = 16777216 := rfl
  generalize hL : PyData.list (linesD m amt bal) = L
  generalize hA : acct s m amt bal = A
  have hlen : V1.bi1 .len L = .ok (.int (m : Int)) := by rw [← hL, lenL, lines_len]
  have e0 : [eA w (amt w + off)].length < V1.LIM := by show 1 < V1.LIM; decide
  have st1 : ∃ r1 : List D, r1.length ≤ 2 ∧ r1 = [eA w (amt w + off)] ++ (if w + 1 = m then [eB w (bal w - off)] else []) ∧ exS (callF P n) (.ifs (.c2 .eq (.v 1) (.b2 .sub (.bi1 .len (.v 5)) (.c (.int 1)))) (.cons (.mu .append (.v 3) .fz (.tup (.cons (.c (.str "balance")) (.cons (.v 1) (.cons (.b2 .sub (.v 7) (.v 2)) .nil))))) .nil) .nil)
      [some A, some (.int (w : Int)), some (.int off), some (.list [eA w (amt w + off)]), some (.int s), some L, some (.int (amt w)), some (.int (bal w))] = .ok (.nx [some A, some (.int (w : Int)), some (.int off), some (.list r1), some (.int s), some L, some (.int (amt w)), some (.int (bal w))]) := by
    refine ⟨_, ?_, rfl, ?_⟩
    · split <;> simp
    · have hc : evE (callF P n) (.c2 .eq (.v 1) (.b2 .sub (.bi1 .len (.v 5)) (.c (.int 1)))) [some A, some (.int (w : Int)), some (.int off), some (.list [eA w (amt w + off)]), some (.int s), some L, some (.int (amt w)), some (.int (bal w))] = .ok (.bool ((w : Int) == (m : Int) - 1)) := ev_c2 (ev_v rfl) (ev_b2 (ev_bi (ev_v rfl) hlen) ev_c subI) eqI
      by_cases h : w + 1 = m
      · rw [if_pos h]
        have : ((w : Int) == (m : Int) - 1) = true := by rw [beq_iff_eq]; omega
        rw [this] at hc
        exact (if_t hc).trans (ex_end ((ex_app rfl (ev_tup (es_cons ev_c (es_cons (ev_v rfl) (es_cons (ev_b2 (ev_v rfl) (ev_v rfl) subI) es_nil))) sz3) rfl e0).trans rfl))
      · rw [if_neg h]
        have : ((w : Int) == (m : Int) - 1) = false := by rw [beq_eq_false_iff_ne]; omega
        rw [this] at hc
        exact if_f hc
  obtain ⟨r1, hr1, er1, st1⟩ := st1
  have st2 : ∃ r2 : List D, r2 = r1 ++ (if w = 0 then [eS (s + off)] else []) ∧ exS (callF P n) (.ifs (.c2 .eq (.v 1) (.c (.int 0))) (.cons (.mu .append (.v 3) .fz (.tup (.cons (.c (.str "start")) (.cons (.c (.int 0)) (.cons (.b2 .add (.v 4) (.v 2)) .nil))))) .nil) .nil)
      [some A, some (.int (w : Int)), some (.int off), some (.list r1), some (.int s), some L, some (.int (amt w)), some (.int (bal w))] = .ok (.nx [some A, some (.int (w : Int)), some (.int off), some (.list r2), some (.int s), some L, some (.int (amt w)), some (.int (bal w))]) := by
    refine ⟨_, rfl, ?_⟩
    have hc : evE (callF P n) (.c2 .eq (.v 1) (.c (.int 0))) [some A, some (.int (w : Int)), some (.int off), some (.list r1), some (.int s), some L, some (.int (amt w)), some (.int (bal w))] = .ok (.bool ((w : Int) == 0)) := ev_c2 (ev_v rfl) ev_c eqI
    by_cases h : w = 0
    · rw [if_pos h]
      have : ((w : Int) == 0) = true := by rw [beq_iff_eq]; omega
      rw [this] at hc
      exact (if_t hc).trans (ex_end ((ex_app rfl (ev_tup (es_cons ev_c (es_cons ev_c (es_cons (ev_b2 (ev_v rfl) (ev_v rfl) addI) es_nil))) sz3) rfl (by omega)).trans rfl))
    · rw [if_neg h, List.append_nil]
      have : ((w : Int) == 0) = false := by rw [beq_eq_false_iff_ne]; omega
      rw [this] at hc
      exact if_f hc
  obtain ⟨r2, er2, st2⟩ := st2
  have hSC : SC s m amt bal w off = r2 := by rw [er2, er1]; rfl
  rw [hSC]
  refine is_ret (f := f_single_corrections) (ρ := [some A, some (.int (w : Int)), some (.int off), some (.list r2), some (.int s), some L, some (.int (amt w)), some (.int (bal w))]) rfl rfl ?_ sh_l
  refine (ex_nx (ex_un (ev_v rfl) (ρ' := [some A, some (.int (w : Int)), some (.int off), none, some (.int s), some L, none, none]) (by rw [← hA, ← hL]; rfl))).trans ?_
  refine (ex_nx (ex_un (d := lineD amt bal w) (ev_ix (ev_v rfl) (ev_v rfl) (by rw [← hL]; exact ix_lst (lines_get hw))) (ρ' := [some A, some (.int (w : Int)), some (.int off), none, some (.int s), some L, some (.int (amt w)), some (.int (bal w))]) rfl)).trans ?_
  refine (ex_nx (ex_set (d := .list [eA w (amt w + off)]) (ev_lst (es_cons (ev_tup (es_cons ev_c (es_cons (ev_v rfl) (es_cons (ev_b2 (ev_v rfl) (ev_v rfl) addI) es_nil))) sz3) es_nil) sz1) sh_l)).trans ?_
  exact (ex_nx st1).trans ((ex_nx st2).trans (ex_ret (ex_rv rfl)))
/-! corrections -/
def wr (s : Int) (m : Nat) (amt bal : Nat → Int) : List Nat := (List.range m).filter fun i => decide (O s amt bal i ≠ 0)
def CR (s : Int) (m : Nat) (amt bal : Nat → Int) : List D := match wr s m amt bal with
  | [w] => SC s m amt bal w (O s amt bal w)
  | [a, b] => if b = a + 1 ∧ O s amt bal a + O s amt bal b = 0 then [eB a (bal a - O s amt bal a)] else []
  | _ => []
theorem fm_if {α β : Type} {p : α → Bool} {f : α → β} : ∀ {l : List α}, (l.filterMap fun x => if p x then some (f x) else none) = (l.filter p).map f
  | [] => rfl
  | x :: l => by
    rw [List.filterMap_cons, List.filter_cons]
    cases h : p x
    · simp [fm_if (l := l)]
    · simp [fm_if (l := l)]
theorem enum_map {m : Nat} {f : Nat → D} : V1.enumL ((List.range m).map f) 0 = (List.range m).map fun i : Nat => PyData.tuple [.int (i : Int), f i] := by
  apply List.ext_getElem?
  intro i
  by_cases h : i < m
  · rw [enumL_get _ 0 i (f i) (by simp [h])]
    simp [h]
  · rw [List.getElem?_eq_none (by rw [enumL_len]; simp; omega), List.getElem?_eq_none (by simp; omega)]
theorem wr_lt {s : Int} {m : Nat} {amt bal : Nat → Int} {i : Nat} (h : i ∈ wr s m amt bal) : i < m ∧ O s amt bal i ≠ 0 := by
  unfold wr at h
  rw [List.mem_filter, List.mem_range] at h
  exact ⟨h.1, of_decide_eq_true h.2⟩
theorem offs_get {s : Int} {m : Nat} {amt bal : Nat → Int} {i : Nat} (h : i < m) : (offsD s m amt bal)[i]? = some (.int (O s amt bal i)) := by unfold offsD; simp [h]
theorem is_corr (n : Nat) {s : Int} {m : Nat} {amt bal : Nat → Int} (hm : m ≤ 100000) : Is P (n + 2) 2 [acct s m amt bal] (.list (CR s m amt bal)) := by
  have hLIM : V1.LIM = 16777216 := rfl
  have e1 : exS (callF P (n + 1)) (.set 1 .fz (.call 0 (.cons (.v 0) .nil))) [some (acct s m amt bal), none, none, none, none] = .ok (.nx [some (acct s m amt bal), some (.list (offsD s m amt bal)), none, none, none]) := ex_set (ev_call (is_offs n hm) (es_cons (ev_v rfl) es_nil)) rfl
  have e2 : exS (callF P (n + 1)) (.set 2 .fz (.lc (.v 3) (.t2 (.nm 3) (.nm 4)) (.en (.v 1)) (.so (.c2 .ne (.v 4) (.c (.int 0)))) [3, 4])) [some (acct s m amt bal), some (.list (offsD s m amt bal)), none, none, none] = .ok (.nx [some (acct s m amt bal), some (.list (offsD s m amt bal)), some (.list ((wr s m amt bal).map fun i : Nat => PyData.int (i : Int))), none, none]) := by
    refine ex_set (ev_lc (it_en (ev_v rfl)) ?_) rfl
    unfold offsD
    rw [enum_map]
    have hfm : (wr s m amt bal).map (fun i : Nat => PyData.int (i : Int)) = (List.range m).filterMap fun i : Nat => if decide (O s amt bal i ≠ 0) = true then some (PyData.int (i : Int)) else none := fm_if.symm
    rw [hfm]
    refine lcL_fm _ _ (List.range m) fun i hi => ?_
    refine (lc_one (ρ' := [some (acct s m amt bal), some (.list ((List.range m).map fun i => .int (O s amt bal i))), none, some (.int (i : Int)), some (.int (O s amt bal i))]) (t := decide (O s amt bal i ≠ 0)) (d := .int (i : Int)) rfl ((evc_so (ev_c2 (ev_v rfl) ev_c neI)).trans ?_) fun _ => ev_v rfl).trans ?_
    · by_cases h : O s amt bal i = 0 <;> simp [h]
    · rfl
  have start : exSs (callF P (n + 1)) f_corrections.body (startE 5 [acct s m amt bal]) = _ := (ex_nx e1).trans (ex_nx e2)
  have hlt : ∀ i ∈ wr s m amt bal, i < m ∧ O s amt bal i ≠ 0 := fun i h => wr_lt h
  unfold CR
  generalize wr s m amt bal = w at start hlt ⊢
  generalize hA : acct s m amt bal = A at start
  have hO : ∀ i, i < m → V1.ix (.list (offsD s m amt bal)) (.int (i : Int)) = .ok (.int (O s amt bal i)) := fun i h => ix_lst (offs_get h)
  have hlen : V1.bi1 .len (.list (w.map fun i : Nat => PyData.int (i : Int))) = .ok (.int (w.length : Int)) := by rw [lenL, List.length_map]
  have c1 : evE (callF P (n + 1)) (.c2 .eq (.bi1 .len (.v 2)) (.c (.int 1))) [some A, some (.list (offsD s m amt bal)), some (.list (w.map fun i : Nat => PyData.int (i : Int))), none, none] = .ok (.bool ((w.length : Int) == 1)) := ev_c2 (ev_bi (ev_v rfl) hlen) ev_c eqI
  have c2 : evE (callF P (n + 1)) (.c2 .eq (.bi1 .len (.v 2)) (.c (.int 2))) [some A, some (.list (offsD s m amt bal)), some (.list (w.map fun i : Nat => PyData.int (i : Int))), none, none] = .ok (.bool ((w.length : Int) == 2)) := ev_c2 (ev_bi (ev_v rfl) hlen) ev_c eqI
  match w, hlt, start, c1, c2 with
  | [w], hlt, start, c1, _ =>
    have hw := (hlt w List.mem_cons_self).1
    refine is_ret (f := f_corrections) (ρ := [some A, some (.list (offsD s m amt bal)), some (.list [.int (w : Int)]), none, none]) rfl rfl (start.trans (ex_ret ((if_t c1).trans (ex_ret (ex_rt ?_))))) sh_l
    have hs := is_single n (s := s) (off := O s amt bal w) (amt := amt) (bal := bal) hw
    rw [hA] at hs
    refine ev_call hs (es_cons (ev_v rfl) (es_cons (ev_ix (ev_v rfl) ev_c (ix_lst (k := 0) rfl)) (es_cons (ev_ix (ev_v rfl) (ev_ix (ev_v rfl) ev_c (ix_lst (k := 0) rfl)) (hO w hw)) es_nil)))
  | [], _, start, c1, c2 =>
    refine is_ret (f := f_corrections) (ρ := [some A, some (.list (offsD s m amt bal)), some (.list []), none, none]) rfl rfl (start.trans ((ex_nx (if_f c1)).trans ((ex_nx (if_f (ev_and0 c2))).trans (ex_ret (ex_rt (ev_lst es_nil (Nat.zero_le _))))))) sh_l
  | a :: b :: c :: r, _, start, c1, c2 =>
    have q1 : (((a :: b :: c :: r).length : Int) == 1) = false := by rw [beq_eq_false_iff_ne]; simp only [List.length_cons]; omega
    have q2 : (((a :: b :: c :: r).length : Int) == 2) = false := by rw [beq_eq_false_iff_ne]; simp only [List.length_cons]; omega
    rw [q1] at c1
    rw [q2] at c2
    refine is_ret (f := f_corrections) (ρ := [some A, some (.list (offsD s m amt bal)), some (.list ((a :: b :: c :: r).map fun i : Nat => PyData.int (i : Int))), none, none]) rfl rfl (start.trans ((ex_nx (if_f c1)).trans ((ex_nx (if_f (ev_and0 c2))).trans (ex_ret (ex_rt (ev_lst es_nil (Nat.zero_le _))))))) sh_l
  | [a, b], hlt, start, c1, c2 =>
    have ha := (hlt a List.mem_cons_self).1
    have hb := (hlt b (List.mem_cons_of_mem _ List.mem_cons_self)).1
    have i0 : evE (callF P (n + 1)) (.ix (.v 2) (.c (.int 0))) [some A, some (.list (offsD s m amt bal)), some (.list [.int (a : Int), .int (b : Int)]), none, none] = .ok (.int (a : Int)) := ev_ix (ev_v rfl) ev_c (ix_lst (k := 0) rfl)
    have i1 : evE (callF P (n + 1)) (.ix (.v 2) (.c (.int 1))) [some A, some (.list (offsD s m amt bal)), some (.list [.int (a : Int), .int (b : Int)]), none, none] = .ok (.int (b : Int)) := ev_ix (ev_v rfl) ev_c (ix_lst (k := 1) rfl)
    have oa := ev_ix (a := .v 1) (ρ := [some A, some (.list (offsD s m amt bal)), some (.list [.int (a : Int), .int (b : Int)]), none, none]) (ev_v rfl) i0 (hO a ha)
    have ob := ev_ix (a := .v 1) (ρ := [some A, some (.list (offsD s m amt bal)), some (.list [.int (a : Int), .int (b : Int)]), none, none]) (ev_v rfl) i1 (hO b hb)
    have d1 := ev_c2 (o := .eq) i1 (ev_b2 i0 (ev_c (d := .int 1)) addI) eqI
    have d2 := ev_c2 (o := .eq) (ev_b2 oa ob addI) (ev_c (d := .int 0)) eqI
    have hl : V1.ix A (.int 1) = .ok (.list (linesD m amt bal)) := by rw [← hA]; exact ix_tup (k := 1) rfl
    show Is P (n + 2) 2 [A] (.list (if b = a + 1 ∧ O s amt bal a + O s amt bal b = 0 then [eB a (bal a - O s amt bal a)] else []))
    by_cases h1 : b = a + 1
    · have q1 : ((b : Int) == (a : Int) + 1) = true := by rw [beq_iff_eq]; omega
      rw [q1] at d1
      by_cases h2 : O s amt bal a + O s amt bal b = 0
      · have q2 : (O s amt bal a + O s amt bal b == 0) = true := by rw [beq_iff_eq]; exact h2
        rw [q2] at d2
        rw [if_pos ⟨h1, h2⟩]
        refine is_ret (f := f_corrections) (ρ := [some A, some (.list (offsD s m amt bal)), some (.list [.int (a : Int), .int (b : Int)]), none, none]) rfl rfl (start.trans ((ex_nx (if_f c1)).trans (ex_ret ((if_t (ev_and c2 (ev_and d1 d2))).trans (ex_ret (ex_rt ?_)))))) sh_l
        exact ev_lst (es_cons (ev_tup (es_cons ev_c (es_cons i0 (es_cons (ev_b2 (ev_ix (ev_ix (ev_ix (ev_v rfl) ev_c hl) i0 (ix_lst (lines_get ha))) ev_c lineB) oa subI) es_nil))) sz3) es_nil) sz1
      · have q2 : (O s amt bal a + O s amt bal b == 0) = false := by rw [beq_eq_false_iff_ne]; exact h2
        rw [q2] at d2
        rw [if_neg fun z => h2 z.2]
        exact is_ret (f := f_corrections) (ρ := [some A, some (.list (offsD s m amt bal)), some (.list [.int (a : Int), .int (b : Int)]), none, none]) rfl rfl (start.trans ((ex_nx (if_f c1)).trans ((ex_nx (if_f (ev_and c2 (ev_and d1 d2)))).trans (ex_ret (ex_rt (ev_lst es_nil (Nat.zero_le _))))))) sh_l
    · have q1 : ((b : Int) == (a : Int) + 1) = false := by rw [beq_eq_false_iff_ne]; omega
      rw [q1] at d1
      rw [if_neg fun z => h1 z.1]
      exact is_ret (f := f_corrections) (ρ := [some A, some (.list (offsD s m amt bal)), some (.list [.int (a : Int), .int (b : Int)]), none, none]) rfl rfl (start.trans ((ex_nx (if_f c1)).trans ((ex_nx (if_f (ev_and c2 (ev_and0 d1)))).trans (ex_ret (ex_rt (ev_lst es_nil (Nat.zero_le _))))))) sh_l
end Lw
namespace Lw
open PySem PySem.Spec MP
noncomputable def pick (p : Prop) (x : D) : List D := @ite _ p (Classical.propDecidable p) [x] []
theorem pick_t {p : Prop} {x : D} (h : p) : pick p x = [x] := if_pos h
theorem pick_f {p : Prop} {x : D} (h : ¬ p) : pick p x = [] := if_neg h
theorem shp_ints (S : List Int) : V1.shp (.list (S.map PyData.int)) = true := by
  have h1 : ∀ S : List Int, PyData.canLayAll0 (S.map PyData.int) = true := by
    intro S
    induction S with
    | nil => rfl
    | cons x S ih => rw [List.map_cons]; unfold PyData.canLayAll0 PyData.canLay0; exact ih
  have h2 : ∀ S : List Int, PyData.depthAll (S.map PyData.int) = 0 := by
    intro S
    induction S with
    | nil => rfl
    | cons x S ih => rw [List.map_cons]; unfold PyData.depthAll PyData.depth; rw [ih]; rfl
  unfold V1.shp SeqAt.shaped PyData.canLay0 PyData.depth
  rw [h1, h2]
  rfl
theorem any_ints (S : List Int) (x : Int) : ((S.map PyData.int).any fun z => PyData.eqv z (.int x)) = decide (x ∈ S) := by
  induction S with
  | nil => rfl
  | cons y S ih =>
    rw [List.map_cons, List.any_cons, ih]
    have : PyData.eqv (.int y) (.int x) = (y == x) := by unfold PyData.eqv; rfl
    rw [this]
    by_cases h : y = x
    · simp [h]
    · have h' : x ≠ y := fun z => h z.symm
      simp [h, h']
theorem notinI {S : List Int} {x : Int} : V1.cmp2 .notin (.int x) (.list (S.map PyData.int)) = .ok (.bool (!decide (x ∈ S))) := by
  show (if V1.shp (.int x) && V1.shp (.list (S.map PyData.int)) then Rs.ok (PyData.bool (!(S.map PyData.int).any fun z => PyData.eqv z (.int x))) else .bad) = _
  rw [any_ints]
  exact if_pos (by rw [shp_ints]; rfl)
/-- the steps so far -/
structure StI (s : Int) (amt bal : Nat → Int) (S : List Int) (i : Nat) : Prop where
  nd : S.Nodup
  nz : ∀ x ∈ S, x ≠ 0
  has : ∀ j, j < i → O s amt bal j ≠ 0 → O s amt bal j ∈ S ∧ -(O s amt bal j) ∈ S
  len : S.length ≤ 2 * i
def add1 (S : List Int) (x : Int) : List Int := if x ≠ 0 ∧ x ∉ S then S ++ [x] else S
theorem add1_ok {S : List Int} {x : Int} (nd : S.Nodup) (nz : ∀ y ∈ S, y ≠ 0) : (add1 S x).Nodup ∧ (∀ y ∈ add1 S x, y ≠ 0) ∧ (∀ y ∈ S, y ∈ add1 S x) ∧ (x ≠ 0 → x ∈ add1 S x) ∧ (add1 S x).length ≤ S.length + 1 := by
  unfold add1
  by_cases h : x ≠ 0 ∧ x ∉ S
  · rw [if_pos h]
    refine ⟨List.nodup_append.mpr ⟨nd, by simp, fun a ha b hb z => ?_⟩, fun y hy => ?_, fun y hy => List.mem_append_left _ hy, fun _ => List.mem_append_right _ List.mem_cons_self, by simp⟩
    · rw [List.mem_singleton] at hb
      subst hb z
      exact h.2 ha
    · rcases List.mem_append.mp hy with q | q
      · exact nz y q
      · rw [List.mem_singleton.mp q]; exact h.1
  · rw [if_neg h]
    refine ⟨nd, nz, fun y hy => hy, fun hx => ?_, Nat.le_succ _⟩
    exact Classical.byContradiction fun z => h ⟨hx, z⟩
theorem step1 {cf : CF} {A : D} {S : List Int} {x : Int} {u2 : Option D} (hS : S.length < V1.LIM) :
    exSs cf (.cons (.ifs (.and (.c2 .ne (.v 4) (.c (.int 0))) (.c2 .notin (.v 4) (.v 1))) (.cons (.mu .append (.v 1) .fz (.v 4)) .nil) .nil) .nil) [some A, some (.list (S.map PyData.int)), u2, none, some (.int x), none, none, none] = .ok (.nx [some A, some (.list ((add1 S x).map PyData.int)), u2, none, some (.int x), none, none, none]) := by
  refine ex_end ?_
  have h1 := ev_c2 (cf := cf) (a := .v 4) (b := .c (.int 0)) (ρ := [some A, some (.list (S.map PyData.int)), u2, none, some (.int x), none, none, none]) (ev_v rfl) ev_c neI
  have h2 := ev_c2 (cf := cf) (a := .v 4) (b := .v 1) (ρ := [some A, some (.list (S.map PyData.int)), u2, none, some (.int x), none, none, none]) (ev_v rfl) (ev_v rfl) notinI
  unfold add1
  by_cases hx : x = 0
  · rw [if_neg fun z => z.1 hx]
    subst hx
    exact if_f (ev_and0 h1)
  · have q : (!(x == 0)) = true := by simp [hx]
    rw [q] at h1
    by_cases hm : x ∈ S
    · rw [if_neg fun z => z.2 hm]
      have q2 : (!decide (x ∈ S)) = false := by simp [hm]
      rw [q2] at h2
      exact if_f (ev_and h1 h2)
    · rw [if_pos ⟨hx, hm⟩]
      have q2 : (!decide (x ∈ S)) = true := by simp [hm]
      rw [q2] at h2
      refine (if_t (ev_and h1 h2)).trans (ex_end ((ex_app rfl (ev_v rfl) rfl (by rw [List.length_map]; exact hS)).trans ?_))
      rw [List.map_append]
      rfl
theorem steps_loop (n : Nat) {s : Int} {m : Nat} {amt bal : Nat → Int} (hm : m ≤ 100000) : ∃ (S : List Int) (u v : Option D), StI s amt bal S m ∧
    exS (callF P (n + 1)) (.for_ (.nm 2) (.sq (.call 6 (.cons (.v 0) .nil))) (.cons (.for_ (.nm 4) (.sq (.lst (.cons (.v 2) (.cons (.b2 .sub (.c (.int 0)) (.v 2)) .nil)))) (.cons (.ifs (.and (.c2 .ne (.v 4) (.c (.int 0))) (.c2 .notin (.v 4) (.v 1))) (.cons (.mu .append (.v 1) .fz (.v 4)) .nil) .nil) .nil)) .nil))
      [some (acct s m amt bal), some (.list []), none, none, none, none, none, none] = .ok (.nx [some (acct s m amt bal), some (.list (S.map PyData.int)), u, none, v, none, none, none]) := by
  have hLIM : V1.LIM = 16777216 := rfl
  generalize hA : acct s m amt bal = A
  obtain ⟨ρ', e, S, u, v, rfl, hS⟩ := forL_all (f := fun x ρ' => asg (.nm 2) x ρ' >>= fun ρ2 => exSs (callF P (n + 1)) (.cons (.for_ (.nm 4) (.sq (.lst (.cons (.v 2) (.cons (.b2 .sub (.c (.int 0)) (.v 2)) .nil)))) (.cons (.ifs (.and (.c2 .ne (.v 4) (.c (.int 0))) (.c2 .notin (.v 4) (.v 1))) (.cons (.mu .append (.v 1) .fz (.v 4)) .nil) .nil) .nil)) .nil) ρ2)
    (xs := offsD s m amt bal) (ρ := [some A, some (.list []), none, none, none, none, none, none])
    (fun i ρ => ∃ (S : List Int) (u v : Option D), ρ = [some A, some (.list (S.map PyData.int)), u, none, v, none, none, none] ∧ (i ≤ m → StI s amt bal S i)) ⟨[], none, none, rfl, fun _ => ⟨List.nodup_nil, fun _ q => (by cases q), fun _ q => absurd q (Nat.not_lt_zero _), Nat.zero_le _⟩⟩ (by
    rintro i x ρ hx ⟨S, u, v, rfl, hS⟩
    obtain ⟨hi, rfl⟩ := range_get hx
    have hS := hS (by omega)
    generalize hx : O s amt bal i = x
    obtain ⟨a1, a2, a3, a4, a5⟩ := add1_ok (x := x) hS.nd hS.nz
    obtain ⟨b1, b2, b3, b4, b5⟩ := add1_ok (x := 0 - x) a1 a2
    have hl := hS.len
    refine ⟨[some A, some (.list ((add1 (add1 S x) (0 - x)).map PyData.int)), some (.int x), none, some (.int (0 - x)), none, none, none], .inl ?_, _, _, _, rfl, fun _ => ⟨b1, b2, fun j hj hne => ?_, by omega⟩⟩
    · show exSs _ _ [some A, some (.list (S.map PyData.int)), some (.int x), none, v, none, none, none] = _
      refine ex_end ((ex_for (it_sq (d := .list [.int x, .int (0 - x)]) (ev_lst (es_cons (ev_v rfl) (es_cons (ev_b2 ev_c (ev_v rfl) subI) es_nil)) sz2) rfl)).trans ?_)
      rw [forL_cons]
      have s1 := step1 (cf := callF P (n + 1)) (A := A) (S := S) (x := x) (u2 := some (.int x)) (by omega)
      have s2 := step1 (cf := callF P (n + 1)) (A := A) (S := add1 S x) (x := 0 - x) (u2 := some (.int x)) (by omega)
      rw [show (asg (.nm 4) (.int x) [some A, some (.list (S.map PyData.int)), some (.int x), none, v, none, none, none]) = .ok [some A, some (.list (S.map PyData.int)), some (.int x), none, some (.int x), none, none, none] from rfl, okb, s1, okb]
      show forL _ _ _ = _
      rw [forL_cons, show (asg (.nm 4) (.int (0 - x)) [some A, some (.list ((add1 S x).map PyData.int)), some (.int x), none, some (.int x), none, none, none]) = .ok [some A, some (.list ((add1 S x).map PyData.int)), some (.int x), none, some (.int (0 - x)), none, none, none] from rfl, okb, s2, okb]
      rfl
    · by_cases h : j = i
      · subst h
        rw [hx] at hne ⊢
        refine ⟨b3 _ (a4 hne), ?_⟩
        rw [show -x = 0 - x by omega]
        exact b4 (by omega)
      · obtain ⟨q1, q2⟩ := hS.has j (by omega) hne
        exact ⟨b3 _ (a3 _ q1), b3 _ (a3 _ q2)⟩)
  have hl : (offsD s m amt bal).length = m := by unfold offsD; simp
  rw [hl] at hS
  refine ⟨S, u, v, hS (Nat.le_refl _), (ex_for (it_sq (ev_call (?_ : Is P (n + 1) 6 [A] (.list (offsD s m amt bal))) (es_cons (ev_v rfl) es_nil)) rfl)).trans e⟩
  rw [← hA]
  exact is_loffs n hm
/-! the second loop -/
theorem zeros_len {m : Nat} {f : Nat → Int} : ((((List.range m).filter fun i => decide (f i ≠ 0)).length : Int) == 0) = decide (∀ i, i < m → f i = 0) := by
  by_cases h : ∀ i, i < m → f i = 0
  · rw [decide_eq_true h, beq_iff_eq]
    rw [List.filter_eq_nil_iff.mpr fun i hi => by simp [h i (List.mem_range.mp hi)]]
    rfl
  · rw [decide_eq_false h, beq_eq_false_iff_ne]
    intro z
    apply h
    intro i hi
    exact Classical.byContradiction fun q => by
      have : i ∈ (List.range m).filter fun i => decide (f i ≠ 0) := List.mem_filter.mpr ⟨List.mem_range.mpr hi, decide_eq_true q⟩
      have z2 : ((List.range m).filter fun i => decide (f i ≠ 0)) = [] := List.eq_nil_of_length_eq_zero (by omega)
      rw [z2] at this
      cases this
/-- a slot, tried with every step -/
theorem try_loop (n : Nat) {A : D} {m : Nat} {word : D} {k cur : Int} {Os : Int → Nat → Int} {acc' : Int → D} {S : List Int} {F : List D} {u2 u4 u7 : Option D} {need : Int} {good : Prop}
    (hv : Is P (n + 1) 8 [A, word, .int k] (.int cur)) (hw : ∀ st, Is P (n + 1) 7 [A, word, .int k, .int (cur + st)] (acc' st)) (ho : ∀ st, Is P (n + 1) 6 [acc' st] (.list ((List.range m).map fun i => PyData.int (Os st i))))
    (hz : ∀ st, st ∈ S → ((∀ i, i < m → Os st i = 0) ↔ (st = need ∧ good))) (nd : S.Nodup) (hg : good → need ∈ S) (hF : F.length + 2 < V1.LIM) :
    ∃ v4 v7 : Option D, forL (S.map PyData.int) (fun x ρ' => asg (.nm 4) x ρ' >>= fun ρ2 => exSs (callF P (n + 1)) (.cons (.set 7 .fz (.b2 .add (.call 8 (.cons (.v 0) (.cons (.v 5) (.cons (.v 6) .nil)))) (.v 4)))
    (.cons (.ifs (.c2 .eq (.bi1 .len (.lc (.v 2) (.nm 2) (.sq (.call 6 (.cons (.call 7 (.cons (.v 0) (.cons (.v 5) (.cons (.v 6) (.cons (.v 7) .nil))))) .nil))) (.so (.c2 .ne (.v 2) (.c (.int 0)))) [2])) (.c (.int 0))) (.cons (.mu .append (.v 3) .fz (.tup (.cons (.v 5) (.cons (.v 6) (.cons (.v 7) .nil))))) .nil) .nil) .nil)) ρ2)
      [some A, some (.list (S.map PyData.int)), u2, some (.list F), u4, some word, some (.int k), u7] = .ok (.nx [some A, some (.list (S.map PyData.int)), u2, some (.list (F ++ pick good (.tuple [word, .int k, .int (cur + need)]))), v4, some word, some (.int k), v7]) := by
  obtain ⟨ρ', e, v4, v7, hρ⟩ := forL_all (f := fun x ρ' => asg (.nm 4) x ρ' >>= fun ρ2 => exSs (callF P (n + 1)) (.cons (.set 7 .fz (.b2 .add (.call 8 (.cons (.v 0) (.cons (.v 5) (.cons (.v 6) .nil)))) (.v 4)))
    (.cons (.ifs (.c2 .eq (.bi1 .len (.lc (.v 2) (.nm 2) (.sq (.call 6 (.cons (.call 7 (.cons (.v 0) (.cons (.v 5) (.cons (.v 6) (.cons (.v 7) .nil))))) .nil))) (.so (.c2 .ne (.v 2) (.c (.int 0)))) [2])) (.c (.int 0))) (.cons (.mu .append (.v 3) .fz (.tup (.cons (.v 5) (.cons (.v 6) (.cons (.v 7) .nil))))) .nil) .nil) .nil)) ρ2)
    (xs := S.map PyData.int) (ρ := [some A, some (.list (S.map PyData.int)), u2, some (.list F), u4, some word, some (.int k), u7])
    (fun i ρ => ∃ v4 v7 : Option D, ρ = [some A, some (.list (S.map PyData.int)), u2, some (.list (F ++ pick (good ∧ need ∈ S.take i) (.tuple [word, .int k, .int (cur + need)]))), v4, some word, some (.int k), v7]) ⟨u4, u7, by rw [pick_f fun z => by cases z.2]; rw [List.append_nil]⟩ (by
    rintro i x ρ hx ⟨v4, v7, rfl⟩
    rw [List.getElem?_map] at hx
    cases hs : S[i]? with
    | none => rw [hs] at hx; cases hx
    | some st =>
      rw [hs] at hx
      cases hx
      obtain ⟨hi, est⟩ := List.getElem?_eq_some_iff.mp hs
      have hmem : st ∈ S := List.mem_of_getElem? hs
      have htk : S.take (i + 1) = S.take i ++ [st] := by rw [List.take_add_one, hs]; rfl
      have hnot : st ∉ S.take i := fun z => by
        have q := nd
        rw [← List.take_append_drop i S] at q
        have q2 := (List.nodup_append.mp q).2.2
        refine q2 st z st ?_ rfl
        rw [List.drop_eq_getElem_cons hi, est]
        exact List.mem_cons_self
      have fin : ∀ G : List D, G.length < V1.LIM → exSs (callF P (n + 1)) (.cons (.set 7 .fz (.b2 .add (.call 8 (.cons (.v 0) (.cons (.v 5) (.cons (.v 6) .nil)))) (.v 4)))
    (.cons (.ifs (.c2 .eq (.bi1 .len (.lc (.v 2) (.nm 2) (.sq (.call 6 (.cons (.call 7 (.cons (.v 0) (.cons (.v 5) (.cons (.v 6) (.cons (.v 7) .nil))))) .nil))) (.so (.c2 .ne (.v 2) (.c (.int 0)))) [2])) (.c (.int 0))) (.cons (.mu .append (.v 3) .fz (.tup (.cons (.v 5) (.cons (.v 6) (.cons (.v 7) .nil))))) .nil) .nil) .nil)) [some A, some (.list (S.map PyData.int)), u2, some (.list (G)), some (.int st), some word, some (.int k), v7] = .ok (.nx [some A, some (.list (S.map PyData.int)), u2, some (.list (G ++ pick (∀ i, i < m → Os st i = 0) (.tuple [word, .int k, .int (cur + st)]))), some (.int st), some word, some (.int k), some (.int (cur + st))]) := by
        intro G hG
        refine (ex_nx (ex_set (d := .int (cur + st)) (ev_b2 (ev_call hv (es_cons (ev_v rfl) (es_cons (ev_v rfl) (es_cons (ev_v rfl) es_nil)))) (ev_v rfl) addI) rfl)).trans ?_
        have hlc : evE (callF P (n + 1)) (.lc (.v 2) (.nm 2) (.sq (.call 6 (.cons (.call 7 (.cons (.v 0) (.cons (.v 5) (.cons (.v 6) (.cons (.v 7) .nil))))) .nil))) (.so (.c2 .ne (.v 2) (.c (.int 0)))) [2]) [some A, some (.list (S.map PyData.int)), u2, some (.list (G)), some (.int st), some word, some (.int k), some (.int (cur + st))] = .ok (.list (((List.range m).filter fun i => decide (Os st i ≠ 0)).map fun i => PyData.int (Os st i))) := by
          refine ev_lc (it_sq (ev_call (ho st) (es_cons (ev_call (hw st) (es_cons (ev_v rfl) (es_cons (ev_v rfl) (es_cons (ev_v rfl) (es_cons (ev_v rfl) es_nil))))) es_nil)) rfl) ?_
          rw [← fm_if]
          refine lcL_fm _ _ (List.range m) fun i hi => ?_
          refine lc_one (ρ' := [some A, some (.list (S.map PyData.int)), some (.int (Os st i)), some (.list G), some (.int st), some word, some (.int k), some (.int (cur + st))]) (t := decide (Os st i ≠ 0)) (d := .int (Os st i)) rfl ((evc_so (ev_c2 (ev_v rfl) ev_c neI)).trans ?_) fun _ => ev_v rfl
          by_cases h : Os st i = 0 <;> simp [h]
        have hc : evE (callF P (n + 1)) (.c2 .eq (.bi1 .len (.lc (.v 2) (.nm 2) (.sq (.call 6 (.cons (.call 7 (.cons (.v 0) (.cons (.v 5) (.cons (.v 6) (.cons (.v 7) .nil))))) .nil))) (.so (.c2 .ne (.v 2) (.c (.int 0)))) [2])) (.c (.int 0))) [some A, some (.list (S.map PyData.int)), u2, some (.list (G)), some (.int st), some word, some (.int k), some (.int (cur + st))] = .ok (.bool (decide (∀ i, i < m → Os st i = 0))) := by
          refine ev_c2 (ev_bi hlc lenL) ev_c ?_
          rw [List.length_map, eqI, zeros_len]
        by_cases h : ∀ i, i < m → Os st i = 0
        · rw [decide_eq_true h] at hc
          rw [pick_t h]
          exact ex_end ((if_t hc).trans (ex_end ((ex_app rfl (ev_tup (es_cons (ev_v rfl) (es_cons (ev_v rfl) (es_cons (ev_v rfl) es_nil))) sz3) rfl hG).trans rfl)))
        · rw [decide_eq_false h] at hc
          rw [pick_f h, List.append_nil]
          exact ex_end (if_f hc)
      have hpl : ∀ (p : Prop) (x : D), (pick p x).length ≤ 1 := fun p x => by
        by_cases h : p
        · rw [pick_t h]; exact Nat.le_refl _
        · rw [pick_f h]; exact Nat.zero_le _
      have hP := hpl (good ∧ need ∈ S.take i) (.tuple [word, .int k, .int (cur + need)])
      have key : F ++ pick (good ∧ need ∈ S.take i) (.tuple [word, .int k, .int (cur + need)]) ++ pick (∀ i, i < m → Os st i = 0) (.tuple [word, .int k, .int (cur + st)]) = F ++ pick (good ∧ need ∈ S.take (i + 1)) (.tuple [word, .int k, .int (cur + need)]) := by
        rw [List.append_assoc]
        congr 1
        by_cases hall : ∀ i, i < m → Os st i = 0
        · obtain ⟨e1, e2⟩ := (hz st hmem).mp hall
          subst e1
          rw [pick_t hall, pick_f fun z => hnot z.2, pick_t ⟨e2, by rw [htk]; exact List.mem_append_right _ List.mem_cons_self⟩]
          rfl
        · rw [pick_f hall, List.append_nil]
          by_cases hg2 : good ∧ need ∈ S.take i
          · rw [pick_t hg2, pick_t ⟨hg2.1, by rw [htk]; exact List.mem_append_left _ hg2.2⟩]
          · rw [pick_f hg2, pick_f]
            rintro ⟨q1, q2⟩
            rw [htk] at q2
            rcases List.mem_append.mp q2 with q2 | q2
            · exact hg2 ⟨q1, q2⟩
            · exact hall ((hz st hmem).mpr ⟨(List.mem_singleton.mp q2).symm, q1⟩)
      exact ⟨_, .inl (fin _ (by rw [List.length_append]; omega)), some (.int st), some (.int (cur + st)), by rw [key]⟩)
  subst hρ
  rw [List.length_map, List.take_length] at e
  refine ⟨v4, v7, ?_⟩
  by_cases hgd : good
  · rw [pick_t ⟨hgd, hg hgd⟩] at e
    rw [pick_t hgd]
    exact e
  · rw [pick_f fun z => hgd z.1] at e
    rw [pick_f hgd]
    exact e
end Lw
namespace Lw
open PySem PySem.Spec MP
section
variable {s : Int} {m : Nat} {amt bal : Nat → Int}
theorem O_start (st : Int) (i : Nat) : O (s + st) amt bal i = O s amt bal i - (if i = 0 then st else 0) := by
  unfold O prev
  by_cases h : i = 0
  · rw [if_pos h, if_pos h, if_pos h]; omega
  · rw [if_neg h, if_neg h, if_neg h]; omega
theorem O_amt (k : Nat) (st : Int) (i : Nat) : O s (upN amt k (amt k + st)) bal i = O s amt bal i - (if i = k then st else 0) := by
  unfold O upN
  by_cases h : i = k
  · rw [if_pos h, if_pos h, h]; omega
  · rw [if_neg h, if_neg h]; omega
theorem O_bal (k : Nat) (st : Int) (i : Nat) : O s amt (upN bal k (bal k + st)) i = O s amt bal i + (if i = k then st else 0) - (if i = k + 1 then st else 0) := by
  unfold O prev upN
  by_cases h0 : i = 0
  · rw [if_pos h0, if_pos h0]
    by_cases h : i = k
    · rw [if_pos h, if_pos h, if_neg (by omega), h]; omega
    · rw [if_neg h, if_neg h, if_neg (by omega)]; omega
  · rw [if_neg h0, if_neg h0]
    by_cases h : i = k
    · rw [if_pos h, if_pos h, if_neg (by omega), if_neg (by omega), h]; omega
    · rw [if_neg h, if_neg h]
      by_cases h2 : i = k + 1
      · rw [if_pos (by omega), if_pos h2, show i - 1 = k by omega]; omega
      · rw [if_neg (by omega), if_neg h2]; omega
end
section
variable (s : Int) (m : Nat) (amt bal : Nat → Int)
def gS : Prop := O s amt bal 0 ≠ 0 ∧ ∀ i, i < m → i ≠ 0 → O s amt bal i = 0
def gA (k : Nat) : Prop := O s amt bal k ≠ 0 ∧ ∀ i, i < m → i ≠ k → O s amt bal i = 0
def gB (k : Nat) : Prop := O s amt bal k ≠ 0 ∧ ∀ i, i < m → i ≠ k → O s amt bal i = if i = k + 1 then -(O s amt bal k) else 0
noncomputable def SEk (k : Nat) : List (D × List D) := [(.tuple [.str "amount", .int (k : Int)], pick (gA s m amt bal k) (eA k (amt k + O s amt bal k))), (.tuple [.str "balance", .int (k : Int)], pick (gB s m amt bal k) (eB k (bal k + -(O s amt bal k))))]
noncomputable def SE : List (D × List D) := (.tuple [.str "start", .int 0], pick (gS s m amt bal) (eS (s + O s amt bal 0))) :: (List.range m).flatMap (SEk s m amt bal)
end
abbrev inner : Ss := .cons (.for_ (.nm 4) (.sq (.v 1)) (.cons (.set 7 .fz (.b2 .add (.call 8 (.cons (.v 0) (.cons (.v 5) (.cons (.v 6) .nil)))) (.v 4)))
    (.cons (.ifs (.c2 .eq (.bi1 .len (.lc (.v 2) (.nm 2) (.sq (.call 6 (.cons (.call 7 (.cons (.v 0) (.cons (.v 5) (.cons (.v 6) (.cons (.v 7) .nil))))) .nil))) (.so (.c2 .ne (.v 2) (.c (.int 0)))) [2])) (.c (.int 0))) (.cons (.mu .append (.v 3) .fz (.tup (.cons (.v 5) (.cons (.v 6) (.cons (.v 7) .nil))))) .nil) .nil) .nil))) .nil
theorem try_slot (n : Nat) {s : Int} {m : Nat} {amt bal : Nat → Int} {S : List Int} (hm : m ≤ 100000) (h0 : 0 < m) (hS : StI s amt bal S m) {p : D × List D} (hp : p ∈ SE s m amt bal) {F : List D} (hF : F.length + 2 < V1.LIM) {u2 u4 u5 u6 u7 : Option D} :
    ∃ v4 v5 v6 v7 : Option D, (asg (.t2 (.nm 5) (.nm 6)) p.1 [some (acct s m amt bal), some (.list (S.map PyData.int)), u2, some (.list F), u4, u5, u6, u7] >>= fun ρ2 => exSs (callF P (n + 1)) inner ρ2) =
      .ok (.nx [some (acct s m amt bal), some (.list (S.map PyData.int)), u2, some (.list (F ++ p.2)), v4, v5, v6, v7]) := by
  have go : ∀ (word : D) (k cur : Int) (Os : Int → Nat → Int) (acc' : Int → D) (need : Int) (good : Prop) (x : List D), p = (.tuple [word, .int k], x) → x = pick good (.tuple [word, .int k, .int (cur + need)]) →
      Is P (n + 1) 8 [acct s m amt bal, word, .int k] (.int cur) → (∀ st, Is P (n + 1) 7 [acct s m amt bal, word, .int k, .int (cur + st)] (acc' st)) → (∀ st, Is P (n + 1) 6 [acc' st] (.list ((List.range m).map fun i => PyData.int (Os st i)))) →
      (∀ st, st ∈ S → ((∀ i, i < m → Os st i = 0) ↔ (st = need ∧ good))) → (good → need ∈ S) →
      ∃ v4 v5 v6 v7 : Option D, (asg (.t2 (.nm 5) (.nm 6)) p.1 [some (acct s m amt bal), some (.list (S.map PyData.int)), u2, some (.list F), u4, u5, u6, u7] >>= fun ρ2 => exSs (callF P (n + 1)) inner ρ2) =
      .ok (.nx [some (acct s m amt bal), some (.list (S.map PyData.int)), u2, some (.list (F ++ p.2)), v4, v5, v6, v7]) := by
    intro word k cur Os acc' need good x ep ex hv hw ho hz hg
    obtain ⟨v4, v7, e⟩ := try_loop n (F := F) (u2 := u2) (u4 := u4) (u7 := u7) hv hw ho hz hS.nd hg hF
    subst ep ex
    refine ⟨v4, some word, some (.int k), v7, ?_⟩
    show exSs _ inner [some (acct s m amt bal), some (.list (S.map PyData.int)), u2, some (.list F), u4, some word, some (.int k), u7] = _
    exact ex_end ((ex_for (it_sq (ev_v rfl) rfl)).trans e)
  unfold SE at hp
  rcases List.mem_cons.mp hp with hp | hp
  · refine go (.str "start") 0 s (fun st => O (s + st) amt bal) (fun st => acct (s + st) m amt bal) (O s amt bal 0) (gS s m amt bal) _ hp rfl (is_value_s n) (fun st => is_with_s n) (fun st => is_loffs n hm) (fun st hst => ?_) fun h => (hS.has 0 h0 h.1).1
    constructor
    · intro h
      have e0 := h 0 h0
      rw [O_start, if_pos rfl] at e0
      refine ⟨by omega, fun z => hS.nz st hst (by omega), fun i hi hne => ?_⟩
      have := h i hi
      rw [O_start, if_neg hne] at this
      omega
    · rintro ⟨rfl, h1, h2⟩ i hi
      rw [O_start]
      by_cases h : i = 0
      · rw [if_pos h, h]; omega
      · rw [if_neg h, h2 i hi h]; omega
  · obtain ⟨k, hk, hp⟩ := List.mem_flatMap.mp hp
    have hk := List.mem_range.mp hk
    unfold SEk at hp
    rcases List.mem_cons.mp hp with hp | hp
    · refine go (.str "amount") (k : Int) (amt k) (fun st => O s (upN amt k (amt k + st)) bal) (fun st => acct s m (upN amt k (amt k + st)) bal) (O s amt bal k) (gA s m amt bal k) _ hp rfl (is_value_a n hk) (fun st => is_with_a n hk hm) (fun st => is_loffs n hm) (fun st hst => ?_) fun h => (hS.has k hk h.1).1
      constructor
      · intro h
        have e0 := h k hk
        rw [O_amt, if_pos rfl] at e0
        refine ⟨by omega, fun z => hS.nz st hst (by omega), fun i hi hne => ?_⟩
        have := h i hi
        rw [O_amt, if_neg hne] at this
        omega
      · rintro ⟨rfl, h1, h2⟩ i hi
        rw [O_amt]
        by_cases h : i = k
        · rw [if_pos h, h]; omega
        · rw [if_neg h, h2 i hi h]; omega
    · rw [List.mem_singleton] at hp
      refine go (.str "balance") (k : Int) (bal k) (fun st => O s amt (upN bal k (bal k + st))) (fun st => acct s m amt (upN bal k (bal k + st))) (-(O s amt bal k)) (gB s m amt bal k) _ hp rfl (is_value_b n hk) (fun st => is_with_b n hk hm) (fun st => is_loffs n hm) (fun st hst => ?_) fun h => (hS.has k hk h.1).2
      constructor
      · intro h
        have e0 := h k hk
        rw [O_bal, if_pos rfl, if_neg (by omega)] at e0
        refine ⟨by omega, fun z => hS.nz st hst (by omega), fun i hi hne => ?_⟩
        have := h i hi
        rw [O_bal, if_neg hne] at this
        by_cases h2 : i = k + 1
        · rw [if_pos h2] at this ⊢; omega
        · rw [if_neg h2] at this ⊢; omega
      · rintro ⟨rfl, h1, h2⟩ i hi
        rw [O_bal]
        by_cases h : i = k
        · rw [if_pos h, if_neg (by omega), h]; omega
        · rw [if_neg h, h2 i hi h]
          by_cases h3 : i = k + 1
          · rw [if_pos h3]; omega
          · rw [if_neg h3]; omega
theorem SE_fst {s : Int} {m : Nat} {amt bal : Nat → Int} : (SE s m amt bal).map (·.1) = slotsD m := by
  unfold SE slotsD
  rw [List.map_cons, List.map_flatMap]
  rfl
noncomputable def FD (s : Int) (m : Nat) (amt bal : Nat → Int) : List D := (SE s m amt bal).flatMap (·.2)
theorem SE_snd {s : Int} {m : Nat} {amt bal : Nat → Int} {p : D × List D} (hp : p ∈ SE s m amt bal) : p.2.length ≤ 1 := by
  have hpl : ∀ (p : Prop) (x : D), (pick p x).length ≤ 1 := fun p x => by
    by_cases h : p
    · rw [pick_t h]; exact Nat.le_refl _
    · rw [pick_f h]; exact Nat.zero_le _
  unfold SE at hp
  rcases List.mem_cons.mp hp with hp | hp
  · rw [hp]; exact hpl _ _
  · obtain ⟨k, hk, hp⟩ := List.mem_flatMap.mp hp
    unfold SEk at hp
    rcases List.mem_cons.mp hp with hp | hp
    · rw [hp]; exact hpl _ _
    · rw [List.mem_singleton.mp hp]; exact hpl _ _
theorem is_lcorr (n : Nat) {s : Int} {m : Nat} {amt bal : Nat → Int} (hm : m ≤ 100000) (h0 : 0 < m) (hs : V1.bi1 .sorted (.list (FD s m amt bal)) = .ok (.list (CR s m amt bal))) : Is P (n + 2) 10 [acct s m amt bal] (.list (CR s m amt bal)) := by
  have hLIM : V1.LIM = 16777216 := rfl
  obtain ⟨S, u, v, hS, e1⟩ := steps_loop n (s := s) (amt := amt) (bal := bal) hm
  have hSl : (SE s m amt bal).length = 1 + 2 * m := by rw [← slots_len m, ← SE_fst (s := s) (amt := amt) (bal := bal), List.length_map]
  obtain ⟨ρ', e2, v4, v5, v6, v7, hρ⟩ := forL_all (f := fun x ρ' => asg (.t2 (.nm 5) (.nm 6)) x ρ' >>= fun ρ2 => exSs (callF P (n + 1)) inner ρ2)
    (xs := (SE s m amt bal).map (·.1)) (ρ := [some (acct s m amt bal), some (.list (S.map PyData.int)), u, some (.list []), v, none, none, none])
    (fun i ρ => ∃ v4 v5 v6 v7 : Option D, ρ = [some (acct s m amt bal), some (.list (S.map PyData.int)), u, some (.list (((SE s m amt bal).take i).flatMap (·.2))), v4, v5, v6, v7]) ⟨v, none, none, none, rfl⟩ (by
    rintro i x ρ hx ⟨v4, v5, v6, v7, rfl⟩
    rw [List.getElem?_map] at hx
    cases hp : (SE s m amt bal)[i]? with
    | none => rw [hp] at hx; cases hx
    | some p =>
      rw [hp] at hx
      cases hx
      have hmem := List.mem_of_getElem? hp
      have hlen : ∀ l : List (D × List D), (∀ p ∈ l, p.2.length ≤ 1) → (l.flatMap (·.2)).length ≤ l.length := by
        intro l hl
        induction l with
        | nil => exact Nat.le_refl _
        | cons p l ih =>
          rw [List.flatMap_cons, List.length_append, List.length_cons]
          have h1 := hl p List.mem_cons_self
          have h2 := ih fun q hq => hl q (List.mem_cons_of_mem _ hq)
          omega
      have hl := hlen ((SE s m amt bal).take i) fun q hq => SE_snd (List.mem_of_mem_take hq)
      obtain ⟨w4, w5, w6, w7, e⟩ := try_slot n hm h0 hS hmem (F := ((SE s m amt bal).take i).flatMap (·.2)) (by rw [List.length_take] at hl; omega) (u2 := u) (u4 := v4) (u5 := v5) (u6 := v6) (u7 := v7)
      have ht : ((SE s m amt bal).take (i + 1)).flatMap (·.2) = ((SE s m amt bal).take i).flatMap (·.2) ++ p.2 := by
        rw [List.take_add_one, hp, List.flatMap_append]
        simp
      exact ⟨_, .inl e, w4, w5, w6, w7, by rw [ht]⟩)
  subst hρ
  rw [List.length_map, List.take_length] at e2
  refine is_ret (f := f__law_corrections) (ρ := [some (acct s m amt bal), some (.list (S.map PyData.int)), u, some (.list (FD s m amt bal)), v4, v5, v6, v7]) rfl rfl ?_ rfl
  refine (ex_nx (ex_set (d := .list []) (ev_lst es_nil (Nat.zero_le _)) sh_l)).trans ((ex_nx e1).trans ?_)
  refine (ex_nx (ex_set (d := .list []) (ev_lst es_nil (Nat.zero_le _)) sh_l)).trans ((ex_nx ex_fz).trans ?_)
  have hit : evIt (callF P (n + 1)) (.sq (.call 9 (.cons (.v 0) .nil))) [some (acct s m amt bal), some (.list (S.map PyData.int)), u, some (.list []), v, none, none, none] = .ok ((SE s m amt bal).map (·.1)) := by
    rw [SE_fst]
    exact it_sq (ev_call (is_slots n hm) (es_cons (ev_v rfl) es_nil)) rfl
  exact (ex_nx ((ex_for hit).trans e2)).trans (ex_ret (ex_rt (ev_bi (ev_v rfl) hs)))
end Lw
namespace Lw
open PySem PySem.Spec MP
theorem ms1 {α : Type} {le : α → α → Bool} {a : α} : [a].mergeSort le = [a] := by simp [List.mergeSort]
theorem ms2 {α : Type} {le : α → α → Bool} {a b : α} : [a, b].mergeSort le = if le a b then [a, b] else [b, a] := by
  simp [List.mergeSort, List.MergeSort.Internal.splitInTwo, List.merge]
theorem ms3 {α : Type} {le : α → α → Bool} {a b c : α} (h1 : le a b = false) (h2 : le a c = false) (h3 : le b c = true) : [a, b, c].mergeSort le = [b, c, a] := by
  simp [List.mergeSort, List.MergeSort.Internal.splitInTwo, List.merge, h1, h2, h3]
theorem leAB {k l : Nat} {v w : Int} : W.dataLe false id (eA k v) (eB l w) = true := rfl
theorem leBA {k l : Nat} {v w : Int} : W.dataLe false id (eB k v) (eA l w) = false := rfl
theorem leSA {l : Nat} {v w : Int} : W.dataLe false id (eS v) (eA l w) = false := rfl
theorem leSB {l : Nat} {v w : Int} : W.dataLe false id (eS v) (eB l w) = false := rfl
theorem srt0 : V1.bi1 .sorted (.list []) = .ok (.list []) := by
  show (if V1.sortOk [] then Rs.ok (PyData.list (([] : List D).mergeSort (W.dataLe false id))) else .bad) = _
  rw [if_pos (by rfl)]
  simp
theorem srtA {w : Nat} {v : Int} : V1.bi1 .sorted (.list [eA w v]) = .ok (.list [eA w v]) := by
  show (if V1.sortOk [eA w v] then Rs.ok (PyData.list ([eA w v].mergeSort (W.dataLe false id))) else .bad) = _
  rw [if_pos (by rfl), ms1]
theorem srtB {w : Nat} {v : Int} : V1.bi1 .sorted (.list [eB w v]) = .ok (.list [eB w v]) := by
  show (if V1.sortOk [eB w v] then Rs.ok (PyData.list ([eB w v].mergeSort (W.dataLe false id))) else .bad) = _
  rw [if_pos (by rfl), ms1]
theorem srtAB {w x : Nat} {v u : Int} : V1.bi1 .sorted (.list [eA w v, eB x u]) = .ok (.list [eA w v, eB x u]) := by
  show (if V1.sortOk [eA w v, eB x u] then Rs.ok (PyData.list ([eA w v, eB x u].mergeSort (W.dataLe false id))) else .bad) = _
  rw [if_pos (by rfl), ms2, leAB, if_pos rfl]
theorem srtSA {w : Nat} {v u : Int} : V1.bi1 .sorted (.list [eS u, eA w v]) = .ok (.list [eA w v, eS u]) := by
  show (if V1.sortOk [eS u, eA w v] then Rs.ok (PyData.list ([eS u, eA w v].mergeSort (W.dataLe false id))) else .bad) = _
  rw [if_pos (by rfl), ms2, leSA, if_neg (by decide)]
theorem srtSAB {w x : Nat} {v u t : Int} : V1.bi1 .sorted (.list [eS u, eA w v, eB x t]) = .ok (.list [eA w v, eB x t, eS u]) := by
  show (if V1.sortOk [eS u, eA w v, eB x t] then Rs.ok (PyData.list ([eS u, eA w v, eB x t].mergeSort (W.dataLe false id))) else .bad) = _
  rw [if_pos (by rfl), ms3 leSA leSB leAB]
theorem fm_nil {α : Type} {g : Nat → List α} : ∀ m, (∀ k, k < m → g k = []) → (List.range m).flatMap g = []
  | 0, _ => rfl
  | m + 1, h => by rw [List.range_succ, List.flatMap_append, fm_nil m fun k hk => h k (by omega)]; simp [h m (by omega)]
theorem fm_one {α : Type} {g : Nat → List α} {w : Nat} : ∀ m, w < m → (∀ k, k < m → k ≠ w → g k = []) → (List.range m).flatMap g = g w
  | 0, h, _ => absurd h (Nat.not_lt_zero _)
  | m + 1, hw, h => by
    rw [List.range_succ, List.flatMap_append]
    by_cases e : w = m
    · subst e
      rw [fm_nil w fun k hk => h k (by omega) (by omega)]
      simp
    · rw [fm_one m (by omega) fun k hk hne => h k (by omega) hne]
      simp [h m (by omega) fun z => e z.symm]
section
variable {s : Int} {m : Nat} {amt bal : Nat → Int}
theorem mem_wr {i : Nat} : i ∈ wr s m amt bal ↔ i < m ∧ O s amt bal i ≠ 0 := by
  unfold wr
  rw [List.mem_filter, List.mem_range]
  exact ⟨fun h => ⟨h.1, of_decide_eq_true h.2⟩, fun h => ⟨h.1, decide_eq_true h.2⟩⟩
theorem wr_lt2 : (wr s m amt bal).Pairwise (· < ·) := List.Pairwise.filter _ List.pairwise_lt_range
theorem FD_eq : FD s m amt bal = pick (gS s m amt bal) (eS (s + O s amt bal 0)) ++ (List.range m).flatMap fun k => pick (gA s m amt bal k) (eA k (amt k + O s amt bal k)) ++ pick (gB s m amt bal k) (eB k (bal k + -(O s amt bal k))) := by
  unfold FD SE
  rw [List.flatMap_cons, List.flatMap_assoc]
  congr 1
  congr 1
  funext k
  unfold SEk
  simp
theorem sub_add {a b : Int} : a + -b = a - b := by omega
theorem sorted_ok (h0 : 0 < m) : V1.bi1 .sorted (.list (FD s m amt bal)) = .ok (.list (CR s m amt bal)) := by
  have hw : ∀ i, i ∈ wr s m amt bal ↔ i < m ∧ O s amt bal i ≠ 0 := fun i => mem_wr
  have hz : ∀ i, i < m → i ∉ wr s m amt bal → O s amt bal i = 0 := fun i hi hn => Classical.byContradiction fun z => hn ((hw i).mpr ⟨hi, z⟩)
  have hp := wr_lt2 (s := s) (m := m) (amt := amt) (bal := bal)
  rw [FD_eq]
  unfold CR
  generalize wr s m amt bal = l at hw hz hp
  have nil : (¬ gS s m amt bal) → (∀ k, k < m → ¬ gA s m amt bal k) → (∀ k, k < m → ¬ gB s m amt bal k) → (pick (gS s m amt bal) (eS (s + O s amt bal 0)) ++ (List.range m).flatMap fun k => pick (gA s m amt bal k) (eA k (amt k + O s amt bal k)) ++ pick (gB s m amt bal k) (eB k (bal k + -(O s amt bal k)))) = [] := by
    intro a b c
    rw [pick_f a, fm_nil m fun k hk => by rw [pick_f (b k hk), pick_f (c k hk)]; rfl]
    rfl
  match l, hw, hz, hp with
  | [], hw, hz, _ =>
    have z : ∀ i, i < m → O s amt bal i = 0 := fun i hi => hz i hi fun q => by cases q
    rw [nil (fun h => h.1 (z 0 h0)) (fun k hk h => h.1 (z k hk)) fun k hk h => h.1 (z k hk)]
    exact srt0
  | [w], hw, hz, _ =>
    obtain ⟨hwm, hwn⟩ := (hw w).mp List.mem_cons_self
    have z : ∀ i, i < m → i ≠ w → O s amt bal i = 0 := fun i hi hne => hz i hi fun q => hne (List.mem_singleton.mp q)
    have hA : ∀ k, k < m → k ≠ w → ¬ gA s m amt bal k := fun k hk hne h => h.1 (z k hk hne)
    have hB : ∀ k, k < m → k ≠ w → ¬ gB s m amt bal k := fun k hk hne h => h.1 (z k hk hne)
    have hAw : gA s m amt bal w := ⟨hwn, z⟩
    rw [fm_one m hwm fun k hk hne => by rw [pick_f (hA k hk hne), pick_f (hB k hk hne)]; rfl, pick_t hAw]
    have hS : gS s m amt bal ↔ w = 0 := ⟨fun h => Classical.byContradiction fun q => h.1 (z 0 h0 fun e => q e.symm), fun e => ⟨by rw [← e]; exact hwn, fun i hi hne => z i hi (by omega)⟩⟩
    have hBw : gB s m amt bal w ↔ w + 1 = m := by
      constructor
      · intro h
        refine Classical.byContradiction fun q => ?_
        have e := h.2 (w + 1) (by omega) (by omega)
        rw [if_pos rfl, z (w + 1) (by omega) (by omega)] at e
        omega
      · intro e
        refine ⟨hwn, fun i hi hne => ?_⟩
        rw [if_neg (by omega)]
        exact z i hi hne
    show _ = Rs.ok (PyData.list (SC s m amt bal w (O s amt bal w)))
    unfold SC
    rw [sub_add]
    by_cases e0 : w = 0
    · subst e0
      rw [pick_t (hS.mpr rfl)]
      by_cases e1 : 0 + 1 = m
      · rw [pick_t (hBw.mpr e1), if_pos e1, if_pos rfl]
        exact srtSAB
      · rw [pick_f fun h => e1 (hBw.mp h), if_neg e1, if_pos rfl]
        exact srtSA
    · rw [pick_f fun h => e0 (hS.mp h), if_neg e0]
      by_cases e1 : w + 1 = m
      · rw [pick_t (hBw.mpr e1), if_pos e1]
        exact srtAB
      · rw [pick_f fun h => e1 (hBw.mp h), if_neg e1]
        exact srtA
  | [a, b], hw, hz, hp =>
    obtain ⟨ham, han⟩ := (hw a).mp List.mem_cons_self
    obtain ⟨hbm, hbn⟩ := (hw b).mp (List.mem_cons_of_mem _ List.mem_cons_self)
    have hab : a < b := (List.pairwise_cons.mp hp).1 b List.mem_cons_self
    have z : ∀ i, i < m → i ≠ a → i ≠ b → O s amt bal i = 0 := fun i hi h1 h2 => hz i hi fun q => by
      rcases List.mem_cons.mp q with q | q
      · exact h1 q
      · exact h2 (List.mem_singleton.mp q)
    have hS : ¬ gS s m amt bal := fun h => hbn (h.2 b hbm (by omega))
    have hA : ∀ k, ¬ gA s m amt bal k := fun k h => by
      by_cases e : a = k
      · exact hbn (h.2 b hbm (by omega))
      · exact han (h.2 a ham e)
    have hBk : ∀ k, k < m → k ≠ a → ¬ gB s m amt bal k := fun k hk hne h => by
      have e := h.2 a ham fun q => hne q.symm
      by_cases q : a = k + 1
      · exact h.1 (z k hk hne (by omega))
      · rw [if_neg q] at e; exact han e
    have hBa : gB s m amt bal a ↔ (b = a + 1 ∧ O s amt bal a + O s amt bal b = 0) := by
      constructor
      · intro h
        have e := h.2 b hbm (by omega)
        by_cases q : b = a + 1
        · rw [if_pos q] at e; exact ⟨q, by omega⟩
        · rw [if_neg q] at e; exact absurd e hbn
      · rintro ⟨e1, e2⟩
        refine ⟨han, fun i hi hne => ?_⟩
        by_cases q : i = a + 1
        · rw [if_pos q, q, ← e1]; omega
        · rw [if_neg q]; exact z i hi hne (by omega)
    rw [pick_f hS, fm_one m ham fun k hk hne => by rw [pick_f (hA k), pick_f (hBk k hk hne)]; rfl, pick_f (hA a), sub_add]
    show _ = Rs.ok (PyData.list (if b = a + 1 ∧ O s amt bal a + O s amt bal b = 0 then [eB a (bal a - O s amt bal a)] else []))
    by_cases q : b = a + 1 ∧ O s amt bal a + O s amt bal b = 0
    · rw [if_pos q, pick_t (hBa.mpr q)]
      exact srtB
    · rw [if_neg q, pick_f fun h => q (hBa.mp h)]
      exact srt0
  | a :: b :: c :: r, hw, hz, hp =>
    obtain ⟨ham, han⟩ := (hw a).mp List.mem_cons_self
    obtain ⟨hbm, hbn⟩ := (hw b).mp (List.mem_cons_of_mem _ List.mem_cons_self)
    obtain ⟨hcm, hcn⟩ := (hw c).mp (List.mem_cons_of_mem _ (List.mem_cons_of_mem _ List.mem_cons_self))
    have hab : a < b := (List.pairwise_cons.mp hp).1 b List.mem_cons_self
    have hbc : b < c := (List.pairwise_cons.mp (List.pairwise_cons.mp hp).2).1 c List.mem_cons_self
    rw [nil (fun h => hbn (h.2 b hbm (by omega))) (fun k hk h => ?_) fun k hk h => ?_]
    · exact srt0
    · by_cases e : a = k
      · exact hbn (h.2 b hbm (by omega))
      · exact han (h.2 a ham e)
    · have f : ∀ i, i < m → O s amt bal i ≠ 0 → i = k ∨ i = k + 1 := fun i hi hn => by
        refine Classical.byContradiction fun q => ?_
        have e := h.2 i hi fun z => q (.inl z)
        rw [if_neg fun z => q (.inr z)] at e
        exact hn e
      have f1 := f a ham han
      have f2 := f b hbm hbn
      have f3 := f c hcm hcn
      omega
theorem is_lcorr' (n : Nat) (hm : m ≤ 100000) (h0 : 0 < m) : Is P (n + 2) 10 [acct s m amt bal] (.list (CR s m amt bal)) := is_lcorr n hm h0 (sorted_ok h0)
end
end Lw
namespace Lw
open PySem PySem.Spec MP
/-- a text of good signs, of at most n -/
def Tx (x : Str) (n : Nat) : Prop := PyData.strOk x = true ∧ x.length ≤ n
theorem tx_str (s : String) {n : Nat} (h : s.toList.length ≤ n) : Tx (Str.ofString s) n := by
  rw [Tx, Str.ofString_eq_toList]
  constructor
  · unfold PyData.strOk
    rw [Array.all_eq_true]
    intro i hi
    simp only [List.getElem_toArray, List.getElem_map]
    refine decide_eq_true ?_
    have := (s.toList[i]'(by simpa using hi)).valid
    rcases this with h | h
    · exact Nat.lt_trans h (by decide)
    · exact h.2
  · show (s.toList.map Char.toNat).toArray.size ≤ n
    simpa using h
theorem tx_app {x y : Str} {n k : Nat} (hx : Tx x n) (hy : Tx y k) : Tx (x ++ y) (n + k) := by
  constructor
  · show ((x ++ y).cps.all fun c => decide (c < 0x110000)) = true
    have e : (x ++ y).cps = x.cps ++ y.cps := rfl
    rw [e, Array.all_append]
    have h1 : (x.cps.all fun c => decide (c < 0x110000)) = true := hx.1
    have h2 : (y.cps.all fun c => decide (c < 0x110000)) = true := hy.1
    rw [h1, h2]
    rfl
  · have e : (x ++ y).length = x.length + y.length := by
      show (x.cps ++ y.cps).size = _
      rw [Array.size_append]
      rfl
    rw [e]
    exact Nat.add_le_add hx.2 hy.2
theorem Tx.le {x : Str} {n k : Nat} (h : Tx x n) (q : n ≤ k) : Tx x k := ⟨h.1, Nat.le_trans h.2 q⟩
theorem tx_int {i : Int} (h1 : -1000000 < i) (h2 : i < 1000000) : Tx (Str.ofString (toString i)) 8 := by
  refine tx_str _ ?_
  cases i with
  | ofNat n =>
    have e : toString (Int.ofNat n) = n.repr := rfl
    rw [e, Nat.toList_repr]
    have h2 : (n : Int) < 1000000 := h2
    exact Nat.le_trans ((Nat.length_toDigits_le_iff (by decide) (by decide : 0 < 6)).mpr (by omega)) (by decide)
  | negSucc n =>
    have e : toString (Int.negSucc n) = "-" ++ (n + 1).repr := rfl
    rw [e, String.toList_append, Nat.toList_repr, List.length_append]
    have := (Nat.length_toDigits_le_iff (b := 10) (n := n + 1) (by decide) (by decide : 0 < 6)).mpr (by omega)
    have e2 : ("-" : String).toList.length = 1 := rfl
    omega
theorem tx_from {c : Nat} : ∀ (ts : List Str) (k : Nat) (acc : Str) (n : Nat), Tx acc n → (∀ t ∈ ts, Tx t c) → Tx (textFrom k acc ts) (n + ts.length * (c + 2))
  | [], k, acc, n, h, _ => by
    unfold textFrom
    exact h.le (by omega)
  | t :: ts, k, acc, n, h, ht => by
    unfold textFrom
    have hs : Tx ((if k > 0 then ", " else "" : String) : Str) 2 := by
      split
      · exact tx_str _ (by decide)
      · exact tx_str _ (by decide)
    exact (tx_from ts (k + 1) _ _ (tx_app (tx_app h hs) (ht t List.mem_cons_self)) fun u hu => ht u (List.mem_cons_of_mem _ hu)).le (by rw [List.length_cons, Nat.add_mul]; omega)
theorem tx_tup2 {a b : Str} {n k : Nat} (ha : Tx a n) (hb : Tx b k) : Tx (tupleText [a, b]) (n + k + 4) := by
  have h := tx_app (tx_app (tx_str "(" (n := 1) (by decide)) (tx_app (tx_app ha (tx_str ", " (n := 2) (by decide))) hb)) (tx_str ")" (n := 1) (by decide))
  exact h.le (by omega)
/-- a number of up to six digits -/
def Sm6 (i : Int) : Prop := -1000000 < i ∧ i < 1000000
structure Bd (s : Int) (m : Nat) (amt bal : Nat → Int) : Prop where
  s6 : Sm6 s
  a6 : ∀ i, i < m → Sm6 (amt i)
  b6 : ∀ i, i < m → Sm6 (bal i)
theorem log6 {i : Int} (h : Sm6 i) : i.natAbs.log2 < 1920 := by
  have h1 : i.natAbs < 1000000 := by have := h.1; have := h.2; omega
  by_cases h0 : i.natAbs = 0
  · rw [h0]; decide
  · exact (Nat.log2_lt h0).mpr (Nat.lt_trans h1 (by
      have : (1000000 : Nat) < 2 ^ 20 := by decide
      exact Nat.lt_of_lt_of_le this (Nat.pow_le_pow_right (by decide) (by decide))))
theorem all_lines {m : Nat} {amt bal : Nat → Int} (f : List D → Bool) (g : D → Bool) (hf : ∀ x xs, f (x :: xs) = (g x && f xs)) (h0 : f [] = true) (hg : ∀ i, i < m → g (lineD amt bal i) = true) : f (linesD m amt bal) = true := by
  have : ∀ l : List Nat, (∀ i ∈ l, i < m) → f (l.map (lineD amt bal)) = true := by
    intro l hl
    induction l with
    | nil => exact h0
    | cons i l ih =>
      rw [List.map_cons, hf, hg i (hl i List.mem_cons_self), ih fun j hj => hl j (List.mem_cons_of_mem _ hj)]
      rfl
  exact this _ fun i hi => List.mem_range.mp hi
theorem depth_lines {m : Nat} {amt bal : Nat → Int} : PyData.depthAll (linesD m amt bal) ≤ 1 := by
  have : ∀ l : List Nat, PyData.depthAll (l.map (lineD amt bal)) ≤ 1 := by
    intro l
    induction l with
    | nil => exact Nat.zero_le _
    | cons i l ih =>
      rw [List.map_cons]
      unfold PyData.depthAll
      have : PyData.depth (lineD amt bal i) = 1 := rfl
      rw [this]
      omega
  exact this _
theorem depth_acct {s : Int} {m : Nat} {amt bal : Nat → Int} : PyData.depth (acct s m amt bal) ≤ 64 := by
  have h := depth_lines (m := m) (amt := amt) (bal := bal)
  show max 0 (max (PyData.depthAll (linesD m amt bal) + 1) 0) + 1 ≤ 64
  omega
theorem shown_lines {m : Nat} {amt bal : Nat → Int} (ha : ∀ i, i < m → Sm6 (amt i)) (hb : ∀ i, i < m → Sm6 (bal i)) : (∀ t ∈ PyData.shownAll (linesD m amt bal), Tx t 20) ∧ (PyData.shownAll (linesD m amt bal)).length = m := by
  have : ∀ l : List Nat, (∀ i ∈ l, i < m) → (∀ t ∈ PyData.shownAll (l.map (lineD amt bal)), Tx t 20) ∧ (PyData.shownAll (l.map (lineD amt bal))).length = l.length := by
    intro l hl
    induction l with
    | nil => exact ⟨fun t ht => (by cases ht), rfl⟩
    | cons i l ih =>
      obtain ⟨h1, h2⟩ := ih fun j hj => hl j (List.mem_cons_of_mem _ hj)
      rw [List.map_cons]
      unfold PyData.shownAll
      refine ⟨fun t ht => ?_, by rw [List.length_cons, h2, List.length_cons]⟩
      rcases List.mem_cons.mp ht with q | q
      · have hi := hl i List.mem_cons_self
        rw [q]
        have e : PyData.shown (lineD amt bal i) = tupleText [Str.ofString (toString (amt i)), Str.ofString (toString (bal i))] := by
          rfl
        rw [e]
        exact tx_tup2 (tx_int (ha i hi).1 (ha i hi).2) (tx_int (hb i hi).1 (hb i hi).2)
      · exact h1 t q
  obtain ⟨h1, h2⟩ := this (List.range m) fun i hi => List.mem_range.mp hi
  exact ⟨h1, h2.trans List.length_range⟩
theorem repr_ok {s : Int} {m : Nat} {amt bal : Nat → Int} (h : Bd s m amt bal) (hm : m ≤ 8) : ∃ r : Str, PyData.strOk r = true ∧ V1.bi1 .repr (acct s m amt bal) = .ok (.str r) := by
  have hLIM : V1.LIM = 16777216 := rfl
  obtain ⟨h1, h2⟩ := shown_lines h.a6 h.b6
  have tl : Tx (listText (PyData.shownAll (linesD m amt bal))) 200 := by
    unfold listText
    exact (tx_app (tx_from (c := 20) _ 0 _ 1 (tx_str "[" (by decide)) h1) (tx_str "]" (n := 1) (by decide))).le (by rw [h2]; omega)
  have e : PyData.shown (acct s m amt bal) = tupleText [Str.ofString (toString s), listText (PyData.shownAll (linesD m amt bal))] := rfl
  have tx := tx_tup2 (tx_int h.s6.1 h.s6.2) tl
  rw [← e] at tx
  have hd : PyData.hasDict (acct s m amt bal) = false := by
    have := all_lines (m := m) (amt := amt) (bal := bal) (fun l => !PyData.hasDictAll l) (fun d => !PyData.hasDict d) (fun x xs => by show (!(PyData.hasDict x || PyData.hasDictAll xs)) = _; rw [Bool.not_or]) rfl fun i _ => rfl
    show (false || (PyData.hasDictAll (linesD m amt bal) || false)) = false
    simpa using this
  have hs : PyData.showable (acct s m amt bal) = true := by
    have := all_lines (m := m) (amt := amt) (bal := bal) PyData.showableAll PyData.showable (fun x xs => by conv => lhs; unfold PyData.showableAll) rfl fun i hi => by
      show (decide ((amt i).natAbs.log2 < 1920) && (decide ((bal i).natAbs.log2 < 1920) && true)) = true
      rw [decide_eq_true (log6 (h.a6 i hi)), decide_eq_true (log6 (h.b6 i hi))]
      rfl
    show (decide (s.natAbs.log2 < 1920) && (PyData.showableAll (linesD m amt bal) && true)) = true
    rw [this, decide_eq_true (log6 h.s6)]
    rfl
  refine ⟨PyData.shown (acct s m amt bal), tx.1, ?_⟩
  show (if V1.isSq (acct s m amt bal) && !(acct s m amt bal).hasDict && (acct s m amt bal).showable && decide ((acct s m amt bal).depth ≤ 64) && decide ((acct s m amt bal).shown.length ≤ V1.LIM) then Rs.ok (PyData.str (acct s m amt bal).shown) else .bad) = _
  have hz := tx.2
  refine if_pos ?_
  rw [hd, hs, decide_eq_true depth_acct, decide_eq_true (show (acct s m amt bal).shown.length ≤ V1.LIM by omega)]
  rfl
end Lw
namespace Lw
open PySem PySem.Spec MP
theorem ds_get {l : List Int} {c : Nat} {lim : Int} (h : Ds l c lim) {i : Nat} (hi : i < c) : ∃ d, (l.map PyData.int)[i]? = some (.int d) ∧ 0 ≤ d ∧ d < lim := by
  have hl : i < l.length := by rw [h.1]; exact hi
  refine ⟨l[i], by rw [List.getElem?_map, List.getElem?_eq_getElem hl]; rfl, ?_⟩
  exact h.2 _ (List.getElem_mem hl)
/-- the running balance -/
def balF (s : Int) (amt : Nat → Int) : Nat → Int
  | 0 => s + amt 0
  | i + 1 => balF s amt i + amt (i + 1)
theorem balF_O (s : Int) (amt : Nat → Int) (i : Nat) : O s amt (balF s amt) i = 0 := by
  unfold O prev
  cases i with
  | zero => rw [if_pos rfl]; show s + amt 0 - s - amt 0 = 0; omega
  | succ i => rw [if_neg (by omega)]; show balF s amt i + amt (i + 1) - balF s amt i - amt (i + 1) = 0; omega
theorem balF_prev (s : Int) (amt : Nat → Int) (i : Nat) : balF s amt i = prev s (balF s amt) i + amt i := by
  have := balF_O s amt i
  unfold O at this
  omega
theorem balF_bd {s : Int} {amt : Nat → Int} {m : Nat} (hs : -1000 ≤ s ∧ s ≤ 1000) (ha : ∀ i, i < m → -3 ≤ amt i ∧ amt i ≤ 50400) : ∀ i, i < m → -1000 - 3 * ((i : Int) + 1) ≤ balF s amt i ∧ balF s amt i ≤ 1000 + 50400 * ((i : Int) + 1)
  | 0, h => by
    have := ha 0 h
    show _ ≤ s + amt 0 ∧ s + amt 0 ≤ _
    omega
  | i + 1, h => by
    have h1 := ha (i + 1) h
    have h2 := balF_bd hs ha i (by omega)
    show _ ≤ balF s amt i + amt (i + 1) ∧ balF s amt i + amt (i + 1) ≤ _
    omega
theorem wr_zero {s : Int} {m : Nat} {amt bal : Nat → Int} (h : ∀ i, i < m → O s amt bal i = 0) : CR s m amt bal = [] := by
  unfold CR
  have : wr s m amt bal = [] := by
    unfold wr
    exact List.filter_eq_nil_iff.mpr fun i hi => by simp [h i (List.mem_range.mp hi)]
  rw [this]
/-! what one change does -/
inductive One (s : Int) (m : Nat) (amt bal : Nat → Int) : Int → (Nat → Int) → (Nat → Int) → D → Int → D → Prop
  | st (x : Int) : x ≠ 0 → One s m amt bal (s + x) amt bal (.str "start") 0 (eS s)
  | am (k : Nat) (x : Int) : k < m → x ≠ 0 → One s m amt bal s (upN amt k (amt k + x)) bal (.str "amount") (k : Int) (eA k (amt k))
  | ba (k : Nat) (x : Int) : k < m → x ≠ 0 → One s m amt bal s amt (upN bal k (bal k + x)) (.str "balance") (k : Int) (eB k (bal k))
theorem wr_one {s : Int} {m : Nat} {amt bal : Nat → Int} {w : Nat} (hw : w < m) (hn : O s amt bal w ≠ 0) (h : ∀ i, i < m → i ≠ w → O s amt bal i = 0) : CR s m amt bal = SC s m amt bal w (O s amt bal w) := by
  unfold CR
  have : wr s m amt bal = [w] := by
    have hp := wr_lt2 (s := s) (m := m) (amt := amt) (bal := bal)
    have hm : ∀ i, i ∈ wr s m amt bal ↔ i = w := fun i => by
      rw [mem_wr]
      constructor
      · rintro ⟨a, b⟩
        exact Classical.byContradiction fun z => b (h i a z)
      · rintro rfl
        exact ⟨hw, hn⟩
    generalize wr s m amt bal = l at hp hm
    match l, hp, hm with
    | [], _, hm => exact absurd ((hm w).mpr rfl) (by simp)
    | [a], _, hm => rw [(hm a).mp List.mem_cons_self]
    | a :: b :: r, hp, hm =>
      have h1 := (hm a).mp List.mem_cons_self
      have h2 := (hm b).mp (List.mem_cons_of_mem _ List.mem_cons_self)
      have := (List.pairwise_cons.mp hp).1 b List.mem_cons_self
      omega
  rw [this]
theorem wr_two {s : Int} {m : Nat} {amt bal : Nat → Int} {w : Nat} (hw : w + 1 < m) (hn : O s amt bal w ≠ 0) (hn2 : O s amt bal w + O s amt bal (w + 1) = 0) (h : ∀ i, i < m → i ≠ w → i ≠ w + 1 → O s amt bal i = 0) : CR s m amt bal = [eB w (bal w - O s amt bal w)] := by
  unfold CR
  have : wr s m amt bal = [w, w + 1] := by
    have hp := wr_lt2 (s := s) (m := m) (amt := amt) (bal := bal)
    have hm : ∀ i, i ∈ wr s m amt bal ↔ (i = w ∨ i = w + 1) := fun i => by
      rw [mem_wr]
      constructor
      · rintro ⟨a, b⟩
        refine Classical.byContradiction fun z => b (h i a (fun q => z (.inl q)) fun q => z (.inr q))
      · rintro (rfl | rfl)
        · exact ⟨by omega, hn⟩
        · exact ⟨hw, by omega⟩
    generalize wr s m amt bal = l at hp hm
    match l, hp, hm with
    | [], _, hm => exact absurd ((hm w).mpr (.inl rfl)) (by simp)
    | [a], _, hm =>
      have h1 := (hm w).mpr (.inl rfl)
      have h2 := (hm (w + 1)).mpr (.inr rfl)
      rw [List.mem_singleton] at h1 h2
      omega
    | [a, b], hp, hm =>
      have h1 := (hm a).mp List.mem_cons_self
      have h2 := (hm b).mp (List.mem_cons_of_mem _ List.mem_cons_self)
      have := (List.pairwise_cons.mp hp).1 b List.mem_cons_self
      have e1 : a = w := by omega
      have e2 : b = w + 1 := by omega
      rw [e1, e2]
    | a :: b :: c :: r, hp, hm =>
      have h1 := (hm a).mp List.mem_cons_self
      have h2 := (hm b).mp (List.mem_cons_of_mem _ List.mem_cons_self)
      have h3 := (hm c).mp (List.mem_cons_of_mem _ (List.mem_cons_of_mem _ List.mem_cons_self))
      have q1 := (List.pairwise_cons.mp hp).1 b List.mem_cons_self
      have q2 := (List.pairwise_cons.mp (List.pairwise_cons.mp hp).2).1 c List.mem_cons_self
      omega
  rw [this]
  show (if w + 1 = w + 1 ∧ O s amt bal w + O s amt bal (w + 1) = 0 then [eB w (bal w - O s amt bal w)] else []) = _
  rw [if_pos ⟨rfl, hn2⟩]
theorem one_mem {s : Int} {m : Nat} {amt bal : Nat → Int} (hz : ∀ i, i < m → O s amt bal i = 0) (h0 : 0 < m) {s' : Int} {amt' bal' : Nat → Int} {word : D} {k : Int} {e : D} (h : One s m amt bal s' amt' bal' word k e) : e ∈ CR s' m amt' bal' := by
  cases h with
  | st x hx =>
    have ho : ∀ i, i < m → O (s + x) amt bal i = if i = 0 then -x else 0 := fun i hi => by
      rw [O_start, hz i hi]
      by_cases q : i = 0
      · rw [if_pos q, if_pos q]; omega
      · rw [if_neg q, if_neg q]; omega
    have o0 := ho 0 h0
    rw [if_pos rfl] at o0
    rw [wr_one h0 (by omega) fun i hi hne => by rw [ho i hi, if_neg hne], o0]
    unfold SC
    rw [if_pos rfl]
    refine List.mem_append_right _ (List.mem_singleton.mpr ?_)
    rw [show s + x + -x = s by omega]
  | am k x hk hx =>
    have ho : ∀ i, i < m → O s (upN amt k (amt k + x)) bal i = if i = k then -x else 0 := fun i hi => by
      rw [O_amt, hz i hi]
      by_cases q : i = k
      · rw [if_pos q, if_pos q]; omega
      · rw [if_neg q, if_neg q]; omega
    have o0 := ho k hk
    rw [if_pos rfl] at o0
    rw [wr_one hk (by omega) fun i hi hne => by rw [ho i hi, if_neg hne], o0]
    unfold SC
    refine List.mem_append_left _ (List.mem_append_left _ (List.mem_singleton.mpr ?_))
    have : upN amt k (amt k + x) k = amt k + x := if_pos rfl
    rw [this, show amt k + x + -x = amt k by omega]
  | ba k x hk hx =>
    have ho : ∀ i, i < m → O s amt (upN bal k (bal k + x)) i = (if i = k then x else 0) - (if i = k + 1 then x else 0) := fun i hi => by
      rw [O_bal, hz i hi]
      omega
    have o0 := ho k hk
    rw [if_pos rfl, if_neg (by omega)] at o0
    have hu : upN bal k (bal k + x) k = bal k + x := if_pos rfl
    by_cases hl : k + 1 = m
    · rw [wr_one hk (by omega) fun i hi hne => by rw [ho i hi, if_neg hne, if_neg (by omega)]; rfl, o0]
      unfold SC
      rw [if_pos hl]
      refine List.mem_append_left _ (List.mem_append_right _ (List.mem_singleton.mpr ?_))
      rw [hu, show bal k + x - (x - 0) = bal k by omega]
    · have o1 := ho (k + 1) (by omega)
      rw [if_neg (by omega), if_pos rfl] at o1
      rw [wr_two (w := k) (by omega) (by omega) (by omega) fun i hi h1 h2 => by rw [ho i hi, if_neg h1, if_neg h2]; rfl, o0, hu, show bal k + x - (x - 0) = bal k by omega]
      exact List.mem_singleton.mpr rfl
end Lw
namespace Lw
open PySem PySem.Spec MP
theorem sub_get {xs : List D} {i : Nat} {d : D} {cf : CF} {a b : MP.E} {ρ : En} (ha : evE cf a ρ = .ok (.list xs)) (hb : evE cf b ρ = .ok (.int (i : Int))) (h : xs[i]? = some d) : evE cf (.ix a b) ρ = .ok d := ev_ix ha hb (ix_lst h)
theorem mod_nat {a b : Int} (h : 0 < b) : ∃ j : Nat, a.fmod b = (j : Int) ∧ (j : Int) < b := by
  have h1 := fmod_lo (i := a) h
  have h2 := fmod_hi (i := a) h
  exact ⟨(a.fmod b).toNat, by omega, by omega⟩
def SlotP (m : Nat) (word : D) (k : Int) : Prop := (word = .str "start" ∧ k = 0) ∨ ∃ j : Nat, j < m ∧ k = (j : Int) ∧ (word = .str "amount" ∨ word = .str "balance")
theorem slots_mem {m : Nat} {x : D} (h : x ∈ slotsD m) : ∃ word k, x = .tuple [word, .int k] ∧ SlotP m word k := by
  unfold slotsD at h
  rcases List.mem_cons.mp h with h | h
  · exact ⟨_, _, h, .inl ⟨rfl, rfl⟩⟩
  · obtain ⟨j, hj, h⟩ := List.mem_flatMap.mp h
    have hj := List.mem_range.mp hj
    rcases List.mem_cons.mp h with h | h
    · exact ⟨_, _, h, .inr ⟨j, hj, rfl, .inl rfl⟩⟩
    · exact ⟨_, _, List.mem_singleton.mp h, .inr ⟨j, hj, rfl, .inr rfl⟩⟩
/-- a change keeps the numbers small -/
structure Bd2 (s : Int) (m : Nat) (amt bal : Nat → Int) (i : Nat) : Prop where
  s6 : -1000 - 1000 * (i : Int) ≤ s ∧ s ≤ 1000 + 1000 * (i : Int)
  a6 : ∀ j, j < m → -3 - 1000 * (i : Int) ≤ amt j ∧ amt j ≤ 50400 + 1000 * (i : Int)
  b6 : ∀ j, j < m → -2000 - 1000 * (i : Int) ≤ bal j ∧ bal j ≤ 500000 + 1000 * (i : Int)
theorem Bd2.bd {s : Int} {m : Nat} {amt bal : Nat → Int} {i : Nat} (h : Bd2 s m amt bal i) (hi : i ≤ 2) : Bd s m amt bal :=
  ⟨⟨by have := h.s6; omega, by have := h.s6; omega⟩, fun j hj => ⟨by have := h.a6 j hj; omega, by have := h.a6 j hj; omega⟩, fun j hj => ⟨by have := h.b6 j hj; omega, by have := h.b6 j hj; omega⟩⟩
theorem upN_bd {f : Nat → Int} {k m : Nat} {x lo hi : Int} (h : ∀ j, j < m → lo ≤ f j ∧ f j ≤ hi) (hx : -1000 ≤ x ∧ x ≤ 1000) (hk : k < m) : ∀ j, j < m → lo - 1000 ≤ upN f k (f k + x) j ∧ upN f k (f k + x) j ≤ hi + 1000 := by
  intro j hj
  unfold upN
  by_cases q : j = k
  · rw [if_pos q]
    have := h k hk
    omega
  · rw [if_neg q]
    have := h j hj
    omega
theorem change (n : Nat) {s : Int} {m : Nat} {amt bal : Nat → Int} {word : D} {k x : Int} {i : Nat} (hm : m ≤ 100000) (hb : Bd2 s m amt bal i) (hs : SlotP m word k) (hx : x ≠ 0) (hx2 : -1000 ≤ x ∧ x ≤ 1000) :
    ∃ (s' : Int) (amt' bal' : Nat → Int) (cur : Int), Is P (n + 1) 8 [acct s m amt bal, word, .int k] (.int cur) ∧ Is P (n + 1) 7 [acct s m amt bal, word, .int k, .int (cur + x)] (acct s' m amt' bal') ∧ One s m amt bal s' amt' bal' word k (.tuple [word, .int k, .int cur]) ∧ Bd2 s' m amt' bal' (i + 1) := by
  have e : ((i + 1 : Nat) : Int) = (i : Int) + 1 := by omega
  rcases hs with ⟨rfl, rfl⟩ | ⟨j, hj, rfl, rfl | rfl⟩
  · refine ⟨s + x, amt, bal, s, is_value_s n, is_with_s n, .st x hx, ⟨?_, fun j hj => ?_, fun j hj => ?_⟩⟩
    · have := hb.s6; omega
    · have := hb.a6 j hj; omega
    · have := hb.b6 j hj; omega
  · refine ⟨s, upN amt j (amt j + x), bal, amt j, is_value_a n hj, is_with_a n hj hm, .am j x hj hx, ⟨?_, fun l hl => ?_, fun l hl => ?_⟩⟩
    · have := hb.s6; omega
    · have := upN_bd hb.a6 hx2 hj l hl; omega
    · have := hb.b6 l hl; omega
  · refine ⟨s, amt, upN bal j (bal j + x), bal j, is_value_b n hj, is_with_b n hj hm, .ba j x hj hx, ⟨?_, fun l hl => ?_, fun l hl => ?_⟩⟩
    · have := hb.s6; omega
    · have := hb.a6 l hl; omega
    · have := upN_bd hb.b6 hx2 hj l hl; omega
/-! data that are compared -/
theorem eqvAll_map {f g : Nat → D} {l : List Nat} : PyData.eqvAll (l.map f) (l.map g) = l.all fun i => PyData.eqv (f i) (g i) := by
  induction l with
  | nil => rfl
  | cons i l ih => rw [List.map_cons, List.map_cons, List.all_cons, ← ih]; rfl
theorem eqv_line {a b a' b' : Nat → Int} {i : Nat} : PyData.eqv (lineD a b i) (lineD a' b' i) = ((a i == a' i) && (b i == b' i)) := by
  show ((a i == a' i) && ((b i == b' i) && true)) = _
  rw [Bool.and_true]
theorem eqv_acct {s s' : Int} {m : Nat} {a b a' b' : Nat → Int} : PyData.eqv (acct s m a b) (acct s' m a' b') = ((s == s') && (List.range m).all fun i => (a i == a' i) && (b i == b' i)) := by
  show ((s == s') && (PyData.eqvAll (linesD m a b) (linesD m a' b') && true)) = _
  unfold linesD
  rw [eqvAll_map, Bool.and_true]
  congr 1
  congr 1
  funext i
  exact eqv_line
theorem shp_acct {s : Int} {m : Nat} {amt bal : Nat → Int} : V1.shp (acct s m amt bal) = true := by
  unfold V1.shp SeqAt.shaped
  rw [decide_eq_true depth_acct, Bool.and_true]
  have := all_lines (m := m) (amt := amt) (bal := bal) PyData.canLayAll0 PyData.canLay0 (fun x xs => rfl) rfl fun i _ => rfl
  show (true && (PyData.canLayAll0 (linesD m amt bal) && true)) = true
  rw [this]
  rfl
theorem ne_acct {s s' : Int} {m : Nat} {a b a' b' : Nat → Int} : V1.cmp2 .ne (acct s m a b) (acct s' m a' b') = .ok (.bool (!PyData.eqv (acct s m a b) (acct s' m a' b'))) := by
  show (if V1.shp (acct s m a b) && V1.shp (acct s' m a' b') then Rs.ok (PyData.bool (!PyData.eqv (acct s m a b) (acct s' m a' b'))) else .bad) = _
  exact if_pos (by rw [shp_acct, shp_acct]; rfl)
theorem ne_str {r : Str} (h : PyData.strOk r = true) : V1.cmp2 .ne (.str r) (.str r) = .ok (.bool false) := by
  show (if V1.shp (.str r) && V1.shp (.str r) then Rs.ok (PyData.bool (!PyData.eqv (.str r) (.str r))) else .bad) = _
  refine (if_pos (by rw [shpS h]; rfl)).trans ?_
  unfold PyData.eqv
  rw [beq_self_eq_true]
  rfl
/-- what the corrections look like -/
def IsE (d : D) : Prop := ∃ (w : Str) (k v : Int), d = .tuple [.str w, .int k, .int v] ∧ PyData.strOk w = true
theorem CR_e {s : Int} {m : Nat} {amt bal : Nat → Int} : (∀ d ∈ CR s m amt bal, IsE d) ∧ (CR s m amt bal).length ≤ 3 := by
  unfold CR
  split
  · unfold SC
    constructor
    · intro d hd
      rcases List.mem_append.mp hd with hd | hd
      · rcases List.mem_append.mp hd with hd | hd
        · rw [List.mem_singleton.mp hd]; exact ⟨_, _, _, rfl, okS2⟩
        · split at hd
          · rw [List.mem_singleton.mp hd]; exact ⟨_, _, _, rfl, okS3⟩
          · cases hd
      · split at hd
        · rw [List.mem_singleton.mp hd]; exact ⟨_, _, _, rfl, okS1⟩
        · cases hd
    · simp only [List.length_append, List.length_singleton]
      split <;> split <;> simp
  · split
    · exact ⟨fun d hd => by rw [List.mem_singleton.mp hd]; exact ⟨_, _, _, rfl, okS3⟩, by simp⟩
    · exact ⟨fun d hd => (by cases hd), by simp⟩
  · exact ⟨fun d hd => (by cases hd), by simp⟩
theorem sm_told {s : Int} {m : Nat} {amt bal : Nat → Int} (hm : m ≤ 100000) : Sm 3 (.list [.list (offsD s m amt bal), .list (CR s m amt bal)]) := by
  have hLIM : V1.LIM = 16777216 := rfl
  refine ⟨by simp only [List.length_cons, List.length_nil]; omega, fun x hx => ?_⟩
  rcases List.mem_cons.mp hx with hx | hx
  · rw [hx]
    refine ⟨by unfold offsD; rw [List.length_map, List.length_range]; omega, fun y hy => ?_⟩
    obtain ⟨i, _, rfl⟩ := List.mem_map.mp hy
    exact trivial
  · rw [List.mem_singleton.mp hx]
    obtain ⟨h1, h2⟩ := CR_e (s := s) (m := m) (amt := amt) (bal := bal)
    refine ⟨by omega, fun y hy => ?_⟩
    obtain ⟨w, k, v, rfl, hw⟩ := h1 y hy
    refine ⟨by simp only [List.length_cons, List.length_nil]; omega, fun z hz => ?_⟩
    rcases List.mem_cons.mp hz with q | q
    · rw [q]; exact hw
    · rcases List.mem_cons.mp q with q | q
      · rw [q]; exact trivial
      · rw [List.mem_singleton.mp q]; exact trivial
theorem shp_e {d : D} (h : IsE d) : PyData.canLay0 d = true ∧ PyData.depth d = 1 ∧ PyData.eqv d d = true := by
  obtain ⟨w, k, v, rfl, hw⟩ := h
  refine ⟨?_, rfl, ?_⟩
  · show (PyData.strOk w && (true && (true && true))) = true
    rw [hw]; rfl
  · show ((w == w) && ((k == k) && ((v == v) && true))) = true
    simp
theorem in_cr {s : Int} {m : Nat} {amt bal : Nat → Int} {e : D} (he : e ∈ CR s m amt bal) : V1.cmp2 .isin e (.list (CR s m amt bal)) = .ok (.bool true) := by
  obtain ⟨h1, h2⟩ := CR_e (s := s) (m := m) (amt := amt) (bal := bal)
  have hl : ∀ l : List D, (∀ d ∈ l, IsE d) → PyData.canLayAll0 l = true ∧ PyData.depthAll l ≤ 1 := by
    intro l hl
    induction l with
    | nil => exact ⟨rfl, Nat.zero_le _⟩
    | cons d l ih =>
      obtain ⟨i1, i2⟩ := ih fun q hq => hl q (List.mem_cons_of_mem _ hq)
      obtain ⟨e1, e2, _⟩ := shp_e (hl d List.mem_cons_self)
      constructor
      · show (PyData.canLay0 d && PyData.canLayAll0 l) = true
        rw [e1, i1]; rfl
      · show max (PyData.depth d) (PyData.depthAll l) ≤ 1
        omega
  obtain ⟨c1, c2⟩ := hl _ h1
  obtain ⟨e1, e2, e3⟩ := shp_e (h1 e he)
  have s1 : V1.shp e = true := by
    unfold V1.shp SeqAt.shaped
    rw [e1, e2]; rfl
  have s2 : V1.shp (.list (CR s m amt bal)) = true := by
    unfold V1.shp SeqAt.shaped
    have : PyData.depth (.list (CR s m amt bal)) ≤ 64 := by
      show PyData.depthAll _ + 1 ≤ 64
      omega
    rw [decide_eq_true this, Bool.and_true]
    exact c1
  show (if V1.shp e && V1.shp (.list (CR s m amt bal)) then Rs.ok (PyData.bool ((CR s m amt bal).any fun z => PyData.eqv z e)) else .bad) = _
  refine (if_pos (by rw [s1, s2]; rfl)).trans ?_
  have : ((CR s m amt bal).any fun z => PyData.eqv z e) = true := List.any_eq_true.mpr ⟨e, he, e3⟩
  rw [this]
end Lw
namespace Lw
open PySem PySem.Spec MP
def sAt : Ss → Nat → MP.S
  | .cons s _, 0 => s
  | .cons _ r, n + 1 => sAt r n
  | .nil, _ => .pas
def forB : MP.S → Ss
  | .for_ _ _ b => b
  | _ => .nil
abbrev en (a0 a1 a2 a3 a4 a5 a6 a7 a8 a9 a10 a11 a12 a13 a14 a15 a16 a17 : Option D) : En := [a0, a1, a2, a3, a4, a5, a6, a7, a8, a9, a10, a11, a12, a13, a14, a15, a16, a17]
section
variable {l : List Int} (hl : Ds l 40 50400)
def dr (l : List Int) (i : Nat) : Int := l.getD i 0
include hl
theorem dr_get {i : Nat} (hi : i < 40) : (l.map PyData.int)[i]? = some (.int (dr l i)) ∧ 0 ≤ dr l i ∧ dr l i < 50400 := by
  have hi : i < l.length := by rw [hl.1]; exact hi
  have e : dr l i = l[i] := by unfold dr; rw [List.getD_eq_getElem?_getD, List.getElem?_eq_getElem hi]; rfl
  rw [e]
  exact ⟨by rw [List.getElem?_map, List.getElem?_eq_getElem hi]; rfl, hl.2 _ (List.getElem_mem hi)⟩
/-- draws[i] -/
theorem ev_dr {cf : CF} {ρ : En} {b : MP.E} {i : Nat} (hi : i < 40) (h1 : get ρ 1 = .ok (.list (l.map PyData.int))) (hb : evE cf b ρ = .ok (.int (i : Int))) : evE cf (.ix (.v 1) b) ρ = .ok (.int (dr l i)) := sub_get (ev_v h1) hb (dr_get hl hi).1
/-- a word's choice -/
theorem pick3 {cf : CF} {ρ : En} (h1 : get ρ 1 = .ok (.list (l.map PyData.int))) : ∃ c : Int, 0 < c ∧ c ≤ 50400 ∧ ∀ ρ, get ρ 1 = .ok (.list (l.map PyData.int)) → evE cf (.ix (.lst (.cons (.c (.int 7)) (.cons (.c (.int 301)) (.cons (.c (.int 50400)) .nil)))) (.b2 .mod (.ix (.v 1) (.c (.int 12))) (.c (.int 3)))) ρ = .ok (.int c) := by
  obtain ⟨j, ej, hj⟩ := mod_nat (a := dr l 12) (b := 3) (by decide)
  have hi : ∀ ρ, get ρ 1 = .ok (.list (l.map PyData.int)) → evE cf (.b2 .mod (.ix (.v 1) (.c (.int 12))) (.c (.int 3))) ρ = .ok (.int (j : Int)) := fun ρ h => by
    rw [← ej]
    exact ev_b2 (ev_dr hl (i := 12) (by decide) h ev_c) ev_c (modI (by decide))
  have hd : ∀ ρ, evE cf (.lst (.cons (.c (.int 7)) (.cons (.c (.int 301)) (.cons (.c (.int 50400)) .nil)))) ρ = .ok (.list [.int 7, .int 301, .int 50400]) := fun ρ => ev_lst (es_cons ev_c (es_cons ev_c (es_cons ev_c es_nil))) sz3
  have : j = 0 ∨ j = 1 ∨ j = 2 := by omega
  rcases this with rfl | rfl | rfl
  · exact ⟨7, by decide, by decide, fun ρ h => sub_get (hd ρ) (hi ρ h) rfl⟩
  · exact ⟨301, by decide, by decide, fun ρ h => sub_get (hd ρ) (hi ρ h) rfl⟩
  · exact ⟨50400, by decide, by decide, fun ρ h => sub_get (hd ρ) (hi ρ h) rfl⟩
theorem loop1 {w : D} {s : Int} (hs : -1000 ≤ s ∧ s ≤ 1000) : ∃ (m : Nat) (amt : Nat → Int) (u5 u13 : Option D), 0 < m ∧ m ≤ 8 ∧ Bd2 s m amt (balF s amt) 0 ∧
    exS (callF P 60) (sAt f_law.body 4) (en (some w) (some (.list (l.map PyData.int))) (some (.int s)) (some (.list [])) (some (.int s)) none none none none none none none none none none none none none) =
      .ok (.nx (en (some w) (some (.list (l.map PyData.int))) (some (.int s)) (some (.list (linesD m amt (balF s amt)))) (some (.int (prev s (balF s amt) m))) u5 none none none none none none none u13 none none none none)) := by
  have hLIM : V1.LIM = 16777216 := rfl
  obtain ⟨j, ej, hj⟩ := mod_nat (a := dr l 1) (b := 8) (by decide)
  obtain ⟨c, hc1, hc2, hc⟩ := pick3 (cf := callF P 60) (ρ := en (some w) (some (.list (l.map PyData.int))) none none none none none none none none none none none none none none none none) hl rfl
  generalize hamt : (fun i => (dr l (2 + i)).fmod c - 3) = amt
  have ha : ∀ i, -3 ≤ amt i ∧ amt i ≤ 50400 := fun i => by
    rw [← hamt]
    have h1 := fmod_lo (i := dr l (2 + i)) hc1
    have h2 := fmod_hi (i := dr l (2 + i)) hc1
    show -3 ≤ (dr l (2 + i)).fmod c - 3 ∧ (dr l (2 + i)).fmod c - 3 ≤ 50400
    omega
  refine ⟨j + 1, amt, ?_⟩
  obtain ⟨ρ', e, u5, u13, hρ⟩ := forL_all (f := fun x ρ' => asg (.nm 5) x ρ' >>= fun ρ2 => exSs (callF P 60) (forB (sAt f_law.body 4)) ρ2)
    (xs := (List.range (j + 1)).map fun k : Nat => PyData.int (k : Int)) (ρ := en (some w) (some (.list (l.map PyData.int))) (some (.int s)) (some (.list [])) (some (.int s)) none none none none none none none none none none none none none)
    (fun i ρ => ∃ u5 u13 : Option D, ρ = en (some w) (some (.list (l.map PyData.int))) (some (.int s)) (some (.list (linesD i amt (balF s amt)))) (some (.int (prev s (balF s amt) i))) u5 none none none none none none none u13 none none none none) ⟨none, none, rfl⟩ (by
    rintro i x ρ hx ⟨u5, u13, rfl⟩
    obtain ⟨hi, rfl⟩ := range_get hx
    refine ⟨_, .inl ?_, some (.int (i : Int)), some (.int (amt i)), rfl⟩
    show exSs _ (forB (sAt f_law.body 4)) (en (some w) (some (.list (l.map PyData.int))) (some (.int s)) (some (.list (linesD i amt (balF s amt)))) (some (.int (prev s (balF s amt) i))) (some (.int (i : Int))) none none none none none none none u13 none none none none) = _
    have hai : evE (callF P 60) (.b2 .sub (.b2 .mod (.ix (.v 1) (.b2 .add (.c (.int 2)) (.v 5))) (.ix (.lst (.cons (.c (.int 7)) (.cons (.c (.int 301)) (.cons (.c (.int 50400)) .nil)))) (.b2 .mod (.ix (.v 1) (.c (.int 12))) (.c (.int 3))))) (.c (.int 3))) (en (some w) (some (.list (l.map PyData.int))) (some (.int s)) (some (.list (linesD i amt (balF s amt)))) (some (.int (prev s (balF s amt) i))) (some (.int (i : Int))) none none none none none none none u13 none none none none) = .ok (.int (amt i)) := by
      rw [← hamt]
      refine ev_b2 (ev_b2 (ev_dr hl (i := 2 + i) (by omega) rfl ((ev_b2 ev_c (ev_v rfl) addI).trans ?_)) (hc _ rfl) (modI (by omega))) ev_c subI
      rw [show ((2 : Int) + (i : Int)) = ((2 + i : Nat) : Int) by omega]
    refine (ex_nx (ex_set (d := .int (amt i)) hai rfl)).trans ?_
    refine (ex_nx (ex_set (d := .int (prev s (balF s amt) i + amt i)) (ev_b2 (ev_v rfl) (ev_v rfl) addI) rfl)).trans ?_
    rw [← balF_prev]
    refine ex_end ((ex_app rfl (ev_tup (es_cons (ev_v rfl) (es_cons (ev_v rfl) es_nil)) sz2) rfl (by rw [lines_len]; omega)).trans ?_)
    have : linesD (i + 1) amt (balF s amt) = linesD i amt (balF s amt) ++ [.tuple [.int (amt i), .int (balF s amt i)]] := by
      unfold linesD
      rw [List.range_succ, List.map_append]
      rfl
    rw [this]
    rfl)
  subst hρ
  rw [List.length_map, List.length_range] at e
  refine ⟨u5, u13, by omega, by omega, ⟨by omega, fun i hi => by have := ha i; omega, fun i hi => ?_⟩, ?_⟩
  · have := balF_bd hs (fun i hi => ha i) i hi
    omega
  · refine (ex_for (it_r1 (n := j + 1) ((ev_b2 ev_c (ev_b2 (ev_dr hl (i := 1) (by decide) rfl ev_c) ev_c (modI (by decide))) addI).trans ?_) (by omega))).trans e
    rw [ej, show (1 : Int) + (j : Int) = ((j + 1 : Nat) : Int) by omega]
/-- the steps that are drawn -/
theorem pick5 {i : Nat} (hi : i < 24) : ∃ x : Int, x ≠ 0 ∧ (-1000 ≤ x ∧ x ≤ 1000) ∧ ∀ (cf : CF) (ρ : En), get ρ 1 = .ok (.list (l.map PyData.int)) → get ρ 5 = .ok (.int (i : Int)) →
    evE cf (.ix (.lst (.cons (.c (.int 1)) (.cons (.neg (.c (.int 1))) (.cons (.c (.int 5)) (.cons (.neg (.c (.int 9))) (.cons (.c (.int 1000)) .nil)))))) (.b2 .mod (.ix (.v 1) (.b2 .add (.c (.int 16)) (.v 5))) (.c (.int 5)))) ρ = .ok (.int x) := by
  obtain ⟨j, ej, hj⟩ := mod_nat (a := dr l (16 + i)) (b := 5) (by decide)
  have hi' : ∀ (cf : CF) (ρ : En), get ρ 1 = .ok (.list (l.map PyData.int)) → get ρ 5 = .ok (.int (i : Int)) → evE cf (.b2 .mod (.ix (.v 1) (.b2 .add (.c (.int 16)) (.v 5))) (.c (.int 5))) ρ = .ok (.int (j : Int)) := fun cf ρ h h5 => by
    rw [← ej]
    refine ev_b2 (ev_dr hl (i := 16 + i) (by omega) h ((ev_b2 ev_c (ev_v h5) addI).trans ?_)) ev_c (modI (by decide))
    rw [show ((16 : Int) + (i : Int)) = ((16 + i : Nat) : Int) by omega]
  have hd : ∀ (cf : CF) (ρ : En), evE cf (.lst (.cons (.c (.int 1)) (.cons (.neg (.c (.int 1))) (.cons (.c (.int 5)) (.cons (.neg (.c (.int 9))) (.cons (.c (.int 1000)) .nil)))))) ρ = .ok (.list [.int 1, .int (-1), .int 5, .int (-9), .int 1000]) := fun cf ρ => ev_lst (es_cons ev_c (es_cons (ev_neg ev_c) (es_cons ev_c (es_cons (ev_neg ev_c) (es_cons ev_c es_nil))))) sz5
  have : j = 0 ∨ j = 1 ∨ j = 2 ∨ j = 3 ∨ j = 4 := by omega
  rcases this with rfl | rfl | rfl | rfl | rfl
  · exact ⟨1, by decide, by decide, fun cf ρ h h5 => sub_get (hd cf ρ) (hi' cf ρ h h5) rfl⟩
  · exact ⟨-1, by decide, by decide, fun cf ρ h h5 => sub_get (hd cf ρ) (hi' cf ρ h h5) rfl⟩
  · exact ⟨5, by decide, by decide, fun cf ρ h h5 => sub_get (hd cf ρ) (hi' cf ρ h h5) rfl⟩
  · exact ⟨-9, by decide, by decide, fun cf ρ h h5 => sub_get (hd cf ρ) (hi' cf ρ h h5) rfl⟩
  · exact ⟨1000, by decide, by decide, fun cf ρ h h5 => sub_get (hd cf ρ) (hi' cf ρ h h5) rfl⟩
end
end Lw
namespace Lw
open PySem PySem.Spec MP
section
variable {l : List Int} (hl : Ds l 40 50400)
include hl
theorem slot_at {cf : CF} {ρ : En} {m : Nat} {b : MP.E} {a : Int} (hm : 0 < m) (h9 : get ρ 9 = .ok (.list (slotsD m))) (hb : evE cf b ρ = .ok (.int a)) : ∃ word k, SlotP m word k ∧ evE cf (.ix (.v 9) (.b2 .mod b (.bi1 .len (.v 9)))) ρ = .ok (.tuple [word, .int k]) := by
  have hlen := slots_len m
  obtain ⟨j, ej, hj⟩ := mod_nat (a := a) (b := ((slotsD m).length : Int)) (by omega)
  have hj' : j < (slotsD m).length := by omega
  obtain ⟨word, k, e, hs⟩ := slots_mem (List.getElem_mem hj')
  refine ⟨word, k, hs, sub_get (ev_v h9) (i := j) ?_ (by rw [List.getElem?_eq_getElem hj', e])⟩
  rw [← ej]
  exact ev_b2 hb (ev_bi (ev_v h9) lenL) (modI (by omega))
/-- the state behind i changes -/
structure St2 (s : Int) (m : Nat) (amt bal : Nat → Int) (i : Nat) (s' : Int) (amt' bal' : Nat → Int) (ch : List D) : Prop where
  bd : Bd2 s' m amt' bal' i
  len : ch.length = i
  z : i = 0 → s' = s ∧ amt' = amt ∧ bal' = bal
  one : i = 1 → ∃ (word : D) (k orig : Int), One s m amt bal s' amt' bal' word k (.tuple [word, .int k, .int orig]) ∧ ch = [.tuple [word, .int k]] ∧ Is P 60 8 [acct s m amt bal, word, .int k] (.int orig)
theorem loop2 {w : D} {s : Int} {m : Nat} {amt bal : Nat → Int} (h0 : 0 < m) (hm : m ≤ 8) (hb : Bd2 s m amt bal 0) {a3 a4 u5 u13 : Option D} : ∃ (c : Nat) (s' : Int) (amt' bal' : Nat → Int) (ch : List D) (v5 v14 v16 v17 : Option D), c ≤ 2 ∧ St2 s m amt bal c s' amt' bal' ch ∧
    exS (callF P 60) (sAt f_law.body 11) (en (some w) (some (.list (l.map PyData.int))) (some (.int s)) a3 a4 u5 (some (acct s m amt bal)) (some (acct s m amt bal)) (some (.list [])) (some (.list (slotsD m))) none none none u13 none none none none) =
      .ok (.nx (en (some w) (some (.list (l.map PyData.int))) (some (.int s)) a3 a4 v5 (some (acct s' m amt' bal')) (some (acct s m amt bal)) (some (.list ch)) (some (.list (slotsD m))) none none none u13 v14 none v16 v17)) := by
  have hLIM : V1.LIM = 16777216 := rfl
  obtain ⟨j, ej, hj⟩ := mod_nat (a := dr l 13) (b := 5) (by decide)
  have hcnt : ∃ c : Nat, c ≤ 2 ∧ ∀ ρ, get ρ 1 = .ok (.list (l.map PyData.int)) → evE (callF P 60) (.ix (.lst (.cons (.c (.int 0)) (.cons (.c (.int 1)) (.cons (.c (.int 1)) (.cons (.c (.int 2)) (.cons (.c (.int 2)) .nil)))))) (.b2 .mod (.ix (.v 1) (.c (.int 13))) (.c (.int 5)))) ρ = .ok (.int (c : Int)) := by
    have hi : ∀ ρ, get ρ 1 = .ok (.list (l.map PyData.int)) → evE (callF P 60) (.b2 .mod (.ix (.v 1) (.c (.int 13))) (.c (.int 5))) ρ = .ok (.int (j : Int)) := fun ρ h => by
      rw [← ej]
      exact ev_b2 (ev_dr hl (i := 13) (by decide) h ev_c) ev_c (modI (by decide))
    have hd : ∀ ρ, evE (callF P 60) (.lst (.cons (.c (.int 0)) (.cons (.c (.int 1)) (.cons (.c (.int 1)) (.cons (.c (.int 2)) (.cons (.c (.int 2)) .nil)))))) ρ = .ok (.list [.int 0, .int 1, .int 1, .int 2, .int 2]) := fun ρ => ev_lst (es_cons ev_c (es_cons ev_c (es_cons ev_c (es_cons ev_c (es_cons ev_c es_nil))))) sz5
    have : j = 0 ∨ j = 1 ∨ j = 2 ∨ j = 3 ∨ j = 4 := by omega
    rcases this with rfl | rfl | rfl | rfl | rfl
    · exact ⟨0, by decide, fun ρ h => sub_get (hd ρ) (hi ρ h) rfl⟩
    · exact ⟨1, by decide, fun ρ h => sub_get (hd ρ) (hi ρ h) rfl⟩
    · exact ⟨1, by decide, fun ρ h => sub_get (hd ρ) (hi ρ h) rfl⟩
    · exact ⟨2, by decide, fun ρ h => sub_get (hd ρ) (hi ρ h) rfl⟩
    · exact ⟨2, by decide, fun ρ h => sub_get (hd ρ) (hi ρ h) rfl⟩
  obtain ⟨c, hc2, hc⟩ := hcnt
  obtain ⟨ρ', e, s', amt', bal', ch, v5, v14, v16, v17, hρ, hst⟩ := forL_all (f := fun x ρ' => asg (.nm 5) x ρ' >>= fun ρ2 => exSs (callF P 60) (forB (sAt f_law.body 11)) ρ2)
    (xs := (List.range c).map fun k : Nat => PyData.int (k : Int)) (ρ := en (some w) (some (.list (l.map PyData.int))) (some (.int s)) a3 a4 u5 (some (acct s m amt bal)) (some (acct s m amt bal)) (some (.list [])) (some (.list (slotsD m))) none none none u13 none none none none)
    (fun i ρ => ∃ (s' : Int) (amt' bal' : Nat → Int) (ch : List D) (v5 v14 v16 v17 : Option D), ρ = en (some w) (some (.list (l.map PyData.int))) (some (.int s)) a3 a4 v5 (some (acct s' m amt' bal')) (some (acct s m amt bal)) (some (.list ch)) (some (.list (slotsD m))) none none none u13 v14 none v16 v17 ∧ St2 s m amt bal i s' amt' bal' ch)
    ⟨s, amt, bal, [], u5, none, none, none, rfl, hb, rfl, fun _ => ⟨rfl, rfl, rfl⟩, fun q => (by cases q)⟩ (by
    rintro i x ρ hx ⟨s1, amt1, bal1, ch, v5, v14, v16, v17, rfl, hst⟩
    obtain ⟨hi, rfl⟩ := range_get hx
    obtain ⟨step, hx0, hxb, hstep⟩ := pick5 hl (i := i) (by omega)
    -- the slot that is taken
    have hslot : ∃ word k, SlotP m word k ∧ exSs (callF P 60) (forB (sAt f_law.body 11)) (en (some w) (some (.list (l.map PyData.int))) (some (.int s)) a3 a4 (some (.int (i : Int))) (some (acct s1 m amt1 bal1)) (some (acct s m amt bal)) (some (.list ch)) (some (.list (slotsD m))) none none none u13 v14 none v16 v17) =
        exSs (callF P 60) (.cons (.set 14 .fz (.ix (.lst (.cons (.c (.int 1)) (.cons (.neg (.c (.int 1))) (.cons (.c (.int 5)) (.cons (.neg (.c (.int 9))) (.cons (.c (.int 1000)) .nil)))))) (.b2 .mod (.ix (.v 1) (.b2 .add (.c (.int 16)) (.v 5))) (.c (.int 5)))))
    (.cons (.set 6 .fz (.call 7 (.cons (.v 6) (.cons (.v 16) (.cons (.v 17) (.cons (.b2 .add (.call 8 (.cons (.v 6) (.cons (.v 16) (.cons (.v 17) .nil)))) (.v 14)) .nil))))))
    (.cons (.mu .append (.v 8) .fz (.tup (.cons (.v 16) (.cons (.v 17) .nil)))) .nil))) (en (some w) (some (.list (l.map PyData.int))) (some (.int s)) a3 a4 (some (.int (i : Int))) (some (acct s1 m amt1 bal1)) (some (acct s m amt bal)) (some (.list ch)) (some (.list (slotsD m))) none none none u13 v14 none (some word) (some (.int k))) := by
      obtain ⟨word, k, hs1, e1⟩ := slot_at hl (cf := callF P 60) (ρ := en (some w) (some (.list (l.map PyData.int))) (some (.int s)) a3 a4 (some (.int (i : Int))) (some (acct s1 m amt1 bal1)) (some (acct s m amt bal)) (some (.list ch)) (some (.list (slotsD m))) none none none u13 v14 none v16 v17) (b := .ix (.v 1) (.b2 .add (.c (.int 14)) (.v 5))) (a := dr l (14 + i)) h0 rfl
        (ev_dr hl (i := 14 + i) (by omega) rfl ((ev_b2 ev_c (ev_v rfl) addI).trans (by rw [show ((14 : Int) + (i : Int)) = ((14 + i : Nat) : Int) by omega])))
      have st1 : exS (callF P 60) (.un (.t2 (.nm 16) (.nm 17)) (.ix (.v 9) (.b2 .mod (.ix (.v 1) (.b2 .add (.c (.int 14)) (.v 5))) (.bi1 .len (.v 9))))) (en (some w) (some (.list (l.map PyData.int))) (some (.int s)) a3 a4 (some (.int (i : Int))) (some (acct s1 m amt1 bal1)) (some (acct s m amt bal)) (some (.list ch)) (some (.list (slotsD m))) none none none u13 v14 none v16 v17) = _ := ex_un e1 (ρ' := en (some w) (some (.list (l.map PyData.int))) (some (.int s)) a3 a4 (some (.int (i : Int))) (some (acct s1 m amt1 bal1)) (some (acct s m amt bal)) (some (.list ch)) (some (.list (slotsD m))) none none none u13 v14 none (some word) (some (.int k))) rfl
      obtain ⟨word2, k2, hs2, e2⟩ := slot_at hl (cf := callF P 60) (ρ := en (some w) (some (.list (l.map PyData.int))) (some (.int s)) a3 a4 (some (.int (i : Int))) (some (acct s1 m amt1 bal1)) (some (acct s m amt bal)) (some (.list ch)) (some (.list (slotsD m))) none none none u13 v14 none (some word) (some (.int k))) (b := .b2 .add (.b2 .add (.ix (.v 1) (.c (.int 14))) (.c (.int 1))) (.b2 .mod (.ix (.v 1) (.c (.int 15))) (.c (.int 3)))) (a := dr l 14 + 1 + (dr l 15).fmod 3) h0 rfl
        (ev_b2 (ev_b2 (ev_dr hl (i := 14) (by decide) rfl ev_c) ev_c addI) (ev_b2 (ev_dr hl (i := 15) (by decide) rfl ev_c) ev_c (modI (by decide))) addI)
      have c1 : evE (callF P 60) (.c2 .eq (.b2 .mod (.ix (.v 1) (.c (.int 18))) (.c (.int 2))) (.c (.int 0))) (en (some w) (some (.list (l.map PyData.int))) (some (.int s)) a3 a4 (some (.int (i : Int))) (some (acct s1 m amt1 bal1)) (some (acct s m amt bal)) (some (.list ch)) (some (.list (slotsD m))) none none none u13 v14 none (some word) (some (.int k))) = .ok (.bool ((dr l 18).fmod 2 == 0)) := ev_c2 (ev_b2 (ev_dr hl (i := 18) (by decide) rfl ev_c) ev_c (modI (by decide))) ev_c eqI
      have c2 : evE (callF P 60) (.c2 .eq (.v 5) (.c (.int 1))) (en (some w) (some (.list (l.map PyData.int))) (some (.int s)) a3 a4 (some (.int (i : Int))) (some (acct s1 m amt1 bal1)) (some (acct s m amt bal)) (some (.list ch)) (some (.list (slotsD m))) none none none u13 v14 none (some word) (some (.int k))) = .ok (.bool ((i : Int) == 1)) := ev_c2 (ev_v rfl) ev_c eqI
      cases q1 : ((dr l 18).fmod 2 == 0) with
      | false =>
        rw [q1] at c1
        exact ⟨word, k, hs1, (ex_nx st1).trans (ex_nx (if_f (ev_and0 c1)))⟩
      | true =>
        rw [q1] at c1
        cases q2 : ((i : Int) == 1) with
        | false =>
          rw [q2] at c2
          exact ⟨word, k, hs1, (ex_nx st1).trans (ex_nx (if_f (ev_and c1 c2)))⟩
        | true =>
          rw [q2] at c2
          exact ⟨word2, k2, hs2, (ex_nx st1).trans (ex_nx ((if_t (ev_and c1 c2)).trans (ex_end (ex_un e2 (ρ' := en (some w) (some (.list (l.map PyData.int))) (some (.int s)) a3 a4 (some (.int (i : Int))) (some (acct s1 m amt1 bal1)) (some (acct s m amt bal)) (some (.list ch)) (some (.list (slotsD m))) none none none u13 v14 none (some word2) (some (.int k2))) rfl))))⟩
    obtain ⟨word, k, hsl, heq⟩ := hslot
    obtain ⟨s2, amt2, bal2, cur, g1, g2, g3, g4⟩ := change 59 (by omega) hst.bd hsl hx0 hxb
    refine ⟨en (some w) (some (.list (l.map PyData.int))) (some (.int s)) a3 a4 (some (.int (i : Int))) (some (acct s2 m amt2 bal2)) (some (acct s m amt bal)) (some (.list (ch ++ [.tuple [word, .int k]]))) (some (.list (slotsD m))) none none none u13 (some (.int step)) none (some word) (some (.int k)), .inl ?_, s2, amt2, bal2, ch ++ [.tuple [word, .int k]], _, _, _, _, rfl, g4, by rw [List.length_append, hst.len]; rfl, fun q => (by omega), fun q => ?_⟩
    · refine heq.trans ?_
      refine (ex_nx (ex_set (d := .int step) (hstep _ _ rfl rfl) rfl)).trans ?_
      refine (ex_nx (ex_set (d := acct s2 m amt2 bal2) (ev_call g2 (es_cons (ev_v rfl) (es_cons (ev_v rfl) (es_cons (ev_v rfl) (es_cons (ev_b2 (ev_call g1 (es_cons (ev_v rfl) (es_cons (ev_v rfl) (es_cons (ev_v rfl) es_nil)))) (ev_v rfl) addI) es_nil))))) rfl)).trans ?_
      exact ex_end ((ex_app rfl (ev_tup (es_cons (ev_v rfl) (es_cons (ev_v rfl) es_nil)) sz2) rfl (by rw [hst.len]; omega)).trans rfl)
    · have hi0 : i = 0 := by omega
      subst hi0
      obtain ⟨rfl, rfl, rfl⟩ := hst.z rfl
      have hch : ch = [] := List.eq_nil_of_length_eq_zero hst.len
      subst hch
      exact ⟨word, k, cur, g3, rfl, g1⟩)
  subst hρ
  rw [List.length_map, List.length_range] at hst
  exact ⟨c, s', amt', bal', ch, v5, v14, v16, v17, hc2, hst, (ex_for (it_r1 (n := c) (hc _ rfl) (by omega))).trans e⟩
end
end Lw
namespace Lw
open PySem PySem.Spec MP
theorem sm_up : ∀ (n : Nat) (d : D), Sm n d → Sm (n + 1) d := by
  intro n
  induction n with
  | zero =>
    intro d h
    cases d <;> first | exact h | exact h.elim
  | succ n ih =>
    intro d h
    cases d with
    | list xs => exact ⟨h.1, fun x hx => ih x (h.2 x hx)⟩
    | tuple xs => exact ⟨h.1, fun x hx => ih x (h.2 x hx)⟩
    | dict _ => exact h.elim
    | _ => exact h
theorem sm_le {n : Nat} {d : D} (h : Sm n d) : ∀ k, Sm (n + k) d
  | 0 => h
  | k + 1 => sm_up (n + k) d (sm_le h k)
theorem sh_ll {a b : List D} : shOk (.ls (.ls .fz)) (.list [.list a, .list b]) = true := by
  show (shOk (.ls .fz) (.list a) && (shOk (.ls .fz) (.list b) && true)) = true
  rw [sh_l, sh_l]
  rfl
theorem loop3 {w L S Sl : D} {s : Int} {m : Nat} {amt bal : Nat → Int} {r : Str} (hm : m ≤ 8) (hr1 : PyData.strOk r = true) (hr2 : V1.bi1 .repr (acct s m amt bal) = .ok (.str r)) {a3 a4 a5 a7 a8 a9 a13 a14 a16 a17 : Option D} : ∃ v12 v15 : Option D,
    exS (callF P 60) (sAt f_law.body 14) (en (some w) (some L) (some S) a3 a4 a5 (some (acct s m amt bal)) a7 a8 a9 (some (.str r)) (some (.list (CR s m amt bal))) none a13 a14 none a16 a17) =
      .ok (.nx (en (some w) (some L) (some S) a3 a4 a5 (some (acct s m amt bal)) a7 a8 a9 (some (.str r)) (some (.list (CR s m amt bal))) v12 a13 a14 v15 a16 a17)) := by
  have hLIM : V1.LIM = 16777216 := rfl
  obtain ⟨ρ', e, v12, v15, hρ⟩ := forL_all (f := fun x ρ' => asg (.nm 12) x ρ' >>= fun ρ2 => exSs (callF P 60) (forB (sAt f_law.body 14)) ρ2)
    (xs := (List.range 2).map fun k : Nat => PyData.int (k : Int)) (ρ := en (some w) (some L) (some S) a3 a4 a5 (some (acct s m amt bal)) a7 a8 a9 (some (.str r)) (some (.list (CR s m amt bal))) none a13 a14 none a16 a17)
    (fun i ρ => ∃ v12 v15 : Option D, ρ = en (some w) (some L) (some S) a3 a4 a5 (some (acct s m amt bal)) a7 a8 a9 (some (.str r)) (some (.list (CR s m amt bal))) v12 a13 a14 v15 a16 a17) ⟨none, none, rfl⟩ (by
    rintro i x ρ hx ⟨v12, v15, rfl⟩
    obtain ⟨hi, rfl⟩ := range_get hx
    refine ⟨_, .inl ?_, some (.int (i : Int)), some (.list [.list (offsD s m amt bal ++ [.int 0]), .list (CR s m amt bal ++ [.int 0])]), rfl⟩
    show exSs _ (forB (sAt f_law.body 14)) (en (some w) (some L) (some S) a3 a4 a5 (some (acct s m amt bal)) a7 a8 a9 (some (.str r)) (some (.list (CR s m amt bal))) (some (.int (i : Int))) a13 a14 v15 a16 a17) = _
    have told := is_same 59 _ (sm_le (sm_told (s := s) (m := m) (amt := amt) (bal := bal) (by omega)) 56)
    have ol : (offsD s m amt bal).length < V1.LIM := by unfold offsD; rw [List.length_map, List.length_range]; omega
    have cl := (CR_e (s := s) (m := m) (amt := amt) (bal := bal)).2
    refine (ex_nx (ex_set (d := .list [.list (offsD s m amt bal), .list (CR s m amt bal)]) (ev_lsh (es_cons (ev_call (is_offs 59 (by omega)) (es_cons (ev_v rfl) es_nil)) (es_cons (ev_call (is_corr 58 (by omega)) (es_cons (ev_v rfl) es_nil)) es_nil)) sh_ll sz2) sh_ll)).trans ?_
    refine (ex_nx (if_f (ev_or (ev_not (b := true) (ev_scl (ev_call told (es_cons (ev_v rfl) (es_cons (ev_lst (es_cons (ev_call (is_loffs 59 (by omega)) (es_cons (ev_v rfl) es_nil)) (es_cons (ev_v rfl) es_nil)) sz2) es_nil))) rfl)) (ev_c2 (ev_bi (ev_v rfl) hr2) (ev_v rfl) (ne_str hr1))))).trans ?_
    refine (ex_nx (ex_appP (k := 0) (xs := [.list (offsD s m amt bal), .list (CR s m amt bal)]) (ys := offsD s m amt bal) rfl rfl ev_c rfl ol)).trans ?_
    refine (ex_nx (ex_appP (k := 1) (xs := [.list (offsD s m amt bal ++ [.int 0]), .list (CR s m amt bal)]) (ys := CR s m amt bal) rfl rfl ev_c rfl (by omega))).trans ?_
    exact (ex_nx ex_fz).trans ex_nil)
  subst hρ
  exact ⟨v12, v15, (ex_for (it_r1 (n := 2) ev_c (by omega))).trans e⟩
theorem law_ok (ns : List Int) (h : ns.length ≤ 63) : Is P 61 11 [V1.wk (ns.map PyData.int)] (.bool true) := by
  have hLIM : V1.LIM = 16777216 := rfl
  obtain ⟨l, hn, hl⟩ := is_numbers 59 (ns.getD 0 0) 40 50400 (by decide) (by decide) (by decide)
  generalize hw : V1.wk (ns.map PyData.int) = w
  have hcell := is_cell 59 ns 0 (by omega)
  rw [hw] at hcell
  have hs : -1000 ≤ (dr l 0).fmod 2001 - 1000 ∧ (dr l 0).fmod 2001 - 1000 ≤ 1000 := by
    have h1 := fmod_lo (i := dr l 0) (j := 2001) (by decide)
    have h2 := fmod_hi (i := dr l 0) (j := 2001) (by decide)
    omega
  generalize hsd : (dr l 0).fmod 2001 - 1000 = s at hs
  obtain ⟨m, amt, u5, u13, h0, hm, hb, e5⟩ := loop1 hl (w := w) hs
  generalize hbal : balF s amt = bal at hb e5
  have hz : ∀ i, O s amt bal i = 0 := fun i => by rw [← hbal]; exact balF_O s amt i
  have hc0 : CR s m amt bal = [] := wr_zero fun i _ => hz i
  obtain ⟨c, s', amt', bal', ch, v5, v14, v16, v17, hc2, hst, e12⟩ := loop2 hl (w := w) (s := s) h0 hm hb (a3 := some (.list (linesD m amt bal))) (a4 := some (.int (prev s bal m))) (u5 := u5) (u13 := u13)
  obtain ⟨r, hr1, hr2⟩ := repr_ok (hst.bd.bd hc2) hm
  obtain ⟨v12, v15, e15⟩ := loop3 (w := w) (L := .list (l.map PyData.int)) (S := .int s) (Sl := .none) hm hr1 hr2 (a3 := some (.list (linesD m amt bal))) (a4 := some (.int (prev s bal m))) (a5 := v5) (a7 := some (acct s m amt bal)) (a8 := some (.list ch)) (a9 := some (.list (slotsD m))) (a13 := u13) (a14 := v14) (a16 := v16) (a17 := v17)
  have hcorr0 := is_corr 58 (s := s) (m := m) (amt := amt) (bal := bal) (by omega)
  rw [hc0] at hcorr0
  have hcorr := is_corr 58 (s := s') (m := m) (amt := amt') (bal := bal') (by omega)
  have hlcorr := is_lcorr' (s := s') (m := m) (amt := amt') (bal := bal') 58 (by omega) h0
  -- up to the last two rows
  have go : exSs (callF P 60) f_law.body (startE 18 [w]) = exSs (callF P 60) (.cons (sAt f_law.body 15) (.cons (sAt f_law.body 16) .nil)) (en (some w) (some (.list (l.map PyData.int))) (some (.int s)) (some (.list (linesD m amt bal))) (some (.int (prev s bal m))) v5 (some (acct s' m amt' bal')) (some (acct s m amt bal)) (some (.list ch)) (some (.list (slotsD m))) (some (.str r)) (some (.list (CR s' m amt' bal'))) v12 u13 v14 v15 v16 v17) := by
    refine (ex_nx (ex_set (d := .list (l.map PyData.int)) (ev_call hn (es_cons (ev_call hcell (es_cons (ev_v rfl) (es_cons ev_c es_nil))) (es_cons ev_c (es_cons ev_c es_nil)))) rfl)).trans ?_
    refine (ex_nx (ex_set (d := .int s) ((ev_b2 (ev_b2 (ev_dr hl (i := 0) (by decide) rfl ev_c) ev_c (modI (by decide))) ev_c subI).trans (by rw [hsd])) rfl)).trans ?_
    refine (ex_nx (ex_set (d := .list []) (ev_lst es_nil (Nat.zero_le _)) sh_l)).trans ?_
    refine (ex_nx (ex_set (d := .int s) (ev_v rfl) rfl)).trans ?_
    refine (ex_nx e5).trans ((ex_nx ex_fz).trans ?_)
    refine (ex_nx (ex_set (d := acct s m amt bal) (ev_tup (es_cons (ev_v rfl) (es_cons (ev_v rfl) es_nil)) sz2) rfl)).trans ?_
    refine (ex_nx (if_f (ev_or ((ev_c2 (ev_bi (ev_call hcorr0 (es_cons (ev_v rfl) es_nil)) lenL) ev_c gtI).trans rfl) ((ev_c2 (ev_call hcorr0 (es_cons (ev_v rfl) es_nil)) (ev_lst es_nil (Nat.zero_le _)) rfl).trans rfl)))).trans ?_
    refine (ex_nx (ex_set (d := acct s m amt bal) (ev_v rfl) rfl)).trans ?_
    refine (ex_nx (ex_set (d := .list []) (ev_lst es_nil (Nat.zero_le _)) sh_l)).trans ?_
    refine (ex_nx (ex_set (d := .list (slotsD m)) (ev_call (is_slots 59 (by omega)) (es_cons (ev_v rfl) es_nil)) rfl)).trans ?_
    refine (ex_nx e12).trans ?_
    refine (ex_nx (ex_set (d := .str r) (ev_bi (ev_v rfl) hr2) rfl)).trans ?_
    refine (ex_nx (ex_set (d := .list (CR s' m amt' bal')) (ev_call hlcorr (es_cons (ev_v rfl) es_nil)) rfl)).trans ?_
    exact ex_nx e15
  have hlast : ∀ {ρ : En}, exSs (callF P 60) (.cons (sAt f_law.body 15) (.cons (sAt f_law.body 16) .nil)) (en (some w) (some (.list (l.map PyData.int))) (some (.int s)) (some (.list (linesD m amt bal))) (some (.int (prev s bal m))) v5 (some (acct s' m amt' bal')) (some (acct s m amt bal)) (some (.list ch)) (some (.list (slotsD m))) (some (.str r)) (some (.list (CR s' m amt' bal'))) v12 u13 v14 v15 v16 v17) = .ok (.ret (.bool true) ρ) → Is P 61 11 [w] (.bool true) := fun h => is_ret (f := f_law) rfl rfl (go.trans h) rfl
  have cnd : evE (callF P 60) (.c2 .eq (.bi1 .len (.v 8)) (.c (.int 1))) (en (some w) (some (.list (l.map PyData.int))) (some (.int s)) (some (.list (linesD m amt bal))) (some (.int (prev s bal m))) v5 (some (acct s' m amt' bal')) (some (acct s m amt bal)) (some (.list ch)) (some (.list (slotsD m))) (some (.str r)) (some (.list (CR s' m amt' bal'))) v12 u13 v14 v15 v16 v17) = .ok (.bool ((ch.length : Int) == 1)) := ev_c2 (ev_bi (ev_v rfl) lenL) ev_c eqI
  have same0 : (CR s' m amt' bal' = []) → Is P 61 11 [w] (.bool true) := fun hcr => by
    by_cases h1 : c = 1
    · obtain ⟨word, k, orig, ho, _, _⟩ := hst.one h1
      have := one_mem (fun i _ => hz i) h0 ho
      rw [hcr] at this
      cases this
    · have q : ((ch.length : Int) == 1) = false := by rw [beq_eq_false_iff_ne, hst.len]; omega
      rw [q] at cnd
      refine hlast ((ex_nx (if_f cnd)).trans (ex_ret (ex_rt ?_)))
      have e2 : evE (callF P 60) (.c2 .eq (.v 11) (.lst .nil)) (en (some w) (some (.list (l.map PyData.int))) (some (.int s)) (some (.list (linesD m amt bal))) (some (.int (prev s bal m))) v5 (some (acct s' m amt' bal')) (some (acct s m amt bal)) (some (.list ch)) (some (.list (slotsD m))) (some (.str r)) (some (.list (CR s' m amt' bal'))) v12 u13 v14 v15 v16 v17) = .ok (.bool true) := by
        rw [hcr]
        exact ev_c2 (ev_v rfl) (ev_lst es_nil (Nat.zero_le _)) rfl
      have e1 := ev_c2 (cf := callF P 60) (o := .ne) (a := .v 6) (b := .v 7) (ρ := en (some w) (some (.list (l.map PyData.int))) (some (.int s)) (some (.list (linesD m amt bal))) (some (.int (prev s bal m))) v5 (some (acct s' m amt' bal')) (some (acct s m amt bal)) (some (.list ch)) (some (.list (slotsD m))) (some (.str r)) (some (.list (CR s' m amt' bal'))) v12 u13 v14 v15 v16 v17) (ev_v rfl) (ev_v rfl) ne_acct
      cases hq : PyData.eqv (acct s' m amt' bal') (acct s m amt bal) with
      | true =>
        rw [hq] at e1
        exact ev_or e1 e2
      | false =>
        rw [hq] at e1
        exact ev_or1 e1
  by_cases h1 : c = 1
  · obtain ⟨word, k, orig, ho, hch, hv⟩ := hst.one h1
    have q : ((ch.length : Int) == 1) = true := by rw [beq_iff_eq, hst.len]; omega
    rw [q] at cnd
    have hin := in_cr (one_mem (fun i _ => hz i) h0 ho)
    subst hch
    refine hlast (ex_ret ((if_t cnd).trans ((ex_nx (ex_un (d := .tuple [word, .int k]) (ev_ix (ev_v rfl) ev_c (ix_lst (k := 0) rfl)) rfl)).trans (ex_ret (ex_rt ?_)))))
    exact ev_c2 (ev_tup (es_cons (ev_v rfl) (es_cons (ev_v rfl) (es_cons (ev_call hv (es_cons (ev_v rfl) (es_cons (ev_v rfl) (es_cons (ev_v rfl) es_nil)))) es_nil))) sz3) (ev_call hcorr (es_cons (ev_v rfl) es_nil)) hin
  · cases hq : PyData.eqv (acct s' m amt' bal') (acct s m amt bal) with
    | true =>
      rw [eqv_acct, Bool.and_eq_true, List.all_eq_true] at hq
      obtain ⟨q1, q2⟩ := hq
      have es : s' = s := by simpa using q1
      have ea : ∀ i, i < m → amt' i = amt i ∧ bal' i = bal i := fun i hi => by
        have := q2 i (List.mem_range.mpr hi)
        simpa using this
      refine same0 (wr_zero fun i hi => ?_)
      have := hz i
      unfold O prev at this ⊢
      rw [(ea i hi).1, (ea i hi).2, es]
      by_cases h0 : i = 0
      · rw [if_pos h0] at this ⊢; exact this
      · rw [if_neg h0] at this ⊢
        rw [(ea (i - 1) (by omega)).2]
        exact this
    | false =>
      have q : ((ch.length : Int) == 1) = false := by rw [beq_eq_false_iff_ne, hst.len]; omega
      rw [q] at cnd
      refine hlast ((ex_nx (if_f cnd)).trans (ex_ret (ex_rt (ev_or1 ?_))))
      exact (ev_c2 (ev_v rfl) (ev_v rfl) ne_acct).trans (by rw [hq]; rfl)
theorem value (ns : List Int) (h : ns.length ≤ 63) : ∃ fin, callF (prgO rows) 61 11 [V1.wk (ns.map PyData.int)] = .ok (.bool true, fin) := law_ok ns h
end Lw
open PySem PySem.W PySem.Calls PyProof.Rows
theorem PySem.Challenge.cw_nobodywaits_k58_accounts_with_one_wrong_holds : PySem.Challenge.rw_nobodywaits_k58_accounts_with_one_wrong.Holds := by
  w_on; o_law
  refine HandSHeadRun.head_any (r := OpenLaw.row PySem.Challenge.rw_nobodywaits_k58_accounts_with_one_wrong) (q := view (OpenLaw.row PySem.Challenge.rw_nobodywaits_k58_accounts_with_one_wrong).prog [13]) (H := Lw.hk) (ob := Lw.ob) (M := 2000) (loose := Lw.loose) (d := HandSHeadRun.topDef (OpenLaw.row PySem.Challenge.rw_nobodywaits_k58_accounts_with_one_wrong).prog 13) (kwd := []) Lw.ob_eq
    (by kernel_rfl) (fun s => by kernel_rfl) Lw.run (by kernel_rfl) (by kernel_rfl) (by kernel_rfl) (by rfl) (by first | assumption | decide +kernel) (by decide +kernel) ⟨rfl, rfl, rfl, rfl, rfl, by decide +kernel⟩ ?hw ?hc
  case hw => w_witness2
  case hc => exact MP.law_walk (m := 63) (n := 60) (kl := 11) (r := Lw.r_law) (x := "script") rfl (by decide) (by kernel_rfl) ⟨rfl, by decide, by decide⟩ rfl rfl rfl rfl rfl (by kernel_rfl) Lw.bind Lw.ok Lw.value
