import PyProof.Rows.All
import Wide.All
import OpenK.AllK
import Wide.FinOn
import PySem.Challenge.RW_diceandtracks_k64_whole_rings_counted_ou
import PyProof.ReprRoads
import PyProof.EqLayable
import HandS.ForMost
import HandS.ForExc
import HandS.Deep
import HandS.Gcd
import HandS.Wide
import HandS.Flow
import HandS.TryMany
import HandS.ExcInit
import HandS.ExcField
import HandS.ExcIs
import HandS.CallSlots
import HandS.SortInts
import HandS.Conv
import HandS.Words
import HandS.Nested
import HandS.ExcSuper
import KE.KExcSuper
import HandS.Codes
import PyProof.ReprLen
set_option autoImplicit false
set_option Elab.async false
set_option linter.all false
set_option maxRecDepth 100000
/-! Z1: a small language of values (no heap), and what its texts are worth. -/
namespace Z
open PySem

abbrev D := PyData
/-- an outcome: a value, an own error (its class by number, its int), or nothing that is told -/
inductive Rs (α : Type) where
  | ok (a : α) | er (c : Nat) (n : Int) | bad
def Rs.bind {α β : Type} : Rs α → (α → Rs β) → Rs β
  | .ok a, f => f a
  | .er c n, _ => .er c n
  | .bad, _ => .bad
@[simp] theorem Rs.bind_ok {α β : Type} (a : α) (f : α → Rs β) : (Rs.ok a).bind f = f a := Eq.trans rfl rfl
@[simp] theorem Rs.bind_er {α β : Type} (c : Nat) (n : Int) (f : α → Rs β) : (Rs.er c n).bind f = .er c n := Eq.trans rfl rfl
theorem Rs.bind_assoc {α β γ : Type} (r : Rs α) (f : α → Rs β) (g : β → Rs γ) : (r.bind f).bind g = r.bind fun a => (f a).bind g := by cases r <;> rfl
@[simp] theorem Rs.bind_bad {α β : Type} (f : α → Rs β) : (Rs.bad : Rs α).bind f = .bad := Eq.trans rfl rfl

/-- a slot: unset, a value that may be shared, a list or dict of its own -/
inductive Sl where
  | un | fz (d : D) | ow (d : D)
abbrev En := List Sl
def En.at (ρ : En) (i : Nat) : Sl := ρ.getD i .un
def En.wipe (ρ : En) : List Nat → En
  | [] => ρ
  | i :: is => (En.wipe ρ is).set i .un

inductive Bop where
  | add | sub | mul | fdiv | mod | pow | shl | shr | band
  deriving DecidableEq
inductive Cop where
  | eq | ne | lt | le | gt | ge | isN | notN | mem | nmem
  deriving DecidableEq
/-- built-in functions of one, two or no arguments, by values -/
inductive Bi where
  | len | abs | min2 | max2 | minl | maxl | sum | int | str | repr | all | any | gcd | list | tuple | sorted | join | dict | isinst
  | index | count | get1 | get2 | items
  deriving DecidableEq
/-- a target: a slot, or several -/
inductive Tg where
  | nm (i : Nat) | tup (ts : List Tg)

inductive E where
  | var (i : Nat)
  | bv (i : Nat)
  | c (d : D)
  | gl (i : Nat)
  | bin (op : Bop) (a b : E)
  | cat (a b : E)
  | rep (a b : E)
  | neg (a : E)
  | not (a : E)
  | ands (es : List E)
  | ors (es : List E)
  | cmp (op : Cop) (a b : E)
  | chain (o1 o2 : Cop) (a b c : E)
  | ite (c a b : E)
  | lst (es : List E)
  | tup (es : List E)
  | ix (a i : E)
  | sl (a : E) (lo hi : Option E)
  | call (f : Nat) (es : List E)
  | sel (fs : List Nat) (i : E) (es : List E)
  | bi (f : Bi) (es : List E)
  | eat (a : E)
  | lr1 (a : E) | lr2 (a b : E)
  | rng1 (a : E) | rng2 (a b : E) | enum (a : E) | zip (a b : E)
  | lc (tg : Tg) (own : List Nat) (it : E) (cs : List E) (e : E)

inductive S where
  | expr (e : E)
  | set (i : Nat) (e : E)
  | new (i : Nat) (e : E)
  | unp (tg : Tg) (e : E)
  | fz (i : Nat)
  | wp (is : List Nat)
  | app (i : Nat) (e : E)
  | seti (i : Nat) (k e : E)
  | ext (i : Nat) (e : E)
  | pop (j i : Nat)
  | clr (i : Nat)
  | ret (e : E)
  | rto (i : Nat)
  | rtn
  | ife (c : E) (a b : List S)
  | whl (n : Nat) (c : E) (b : List S)
  | fr (tg : Tg) (it : E) (b : List S)
  | rse (c : Nat) (e : E)
  | try_ (b : List S) (hs : List (Nat × Nat × Str))

/-! ### values -/
def LIM : Nat := 16777216
def mulOk (a b : Int) : Bool := decide (a.natAbs.log2 + b.natAbs.log2 < 1000000)
def divOk (b : Int) : Bool := decide (b ≠ 0 ∧ b.natAbs.log2 < 9000)
def evBin : Bop → D → D → Rs D
  | .add, .int a, .int b => .ok (.int (a + b))
  | .sub, .int a, .int b => .ok (.int (a - b))
  | .mul, .int a, .int b => if mulOk a b then .ok (.int (a * b)) else .bad
  | .fdiv, .int a, .int b => if divOk b then .ok (.int (a.fdiv b)) else .bad
  | .mod, .int a, .int b => if b = 0 then .bad else .ok (.int (a.fmod b))
  | .pow, .int a, .int b => if 0 ≤ b ∧ b ≤ 1000000 ∧ a.natAbs < 18446744073709551616 then .ok (.int (a ^ b.toNat)) else .bad
  | _, _, _ => .bad
def evCat : D → D → Rs D
  | .list xs, .list ys => if xs.length + ys.length ≤ LIM then .ok (.list (xs ++ ys)) else .bad
  | _, _ => .bad
def evRep : D → D → Rs D
  | .list xs, .int k => if 0 ≤ k ∧ k < 16777216 ∧ xs.length * k.toNat ≤ LIM then .ok (.list (List.replicate k.toNat xs).flatten) else .bad
  | _, _ => .bad
def evNeg : D → Rs D
  | .int a => .ok (.int (-a))
  | _ => .bad
/-- truth -/
def tr : D → Rs Bool
  | .none => .ok false
  | .bool b => .ok b
  | .int i => .ok (i != 0)
  | .str x => if x.length ≤ LIM then .ok (x.length != 0) else .bad
  | .list xs => .ok (!xs.isEmpty)
  | .tuple xs => .ok (!xs.isEmpty)
  | .dict _ => .bad
def isNone : D → Bool
  | .none => true
  | _ => false
/-- data that == looks at -/
def eqOk (d : D) : Bool := SeqAt.shaped d
def evCmp : Cop → D → D → Rs D
  | .eq, a, b => if eqOk a && eqOk b then .ok (.bool (PyData.eqv a b)) else .bad
  | .ne, a, b => if eqOk a && eqOk b then .ok (.bool (!PyData.eqv a b)) else .bad
  | .lt, .int a, .int b => .ok (.bool (decide (a < b)))
  | .le, .int a, .int b => .ok (.bool (decide (a ≤ b)))
  | .gt, .int a, .int b => .ok (.bool (decide (b < a)))
  | .ge, .int a, .int b => .ok (.bool (decide (b ≤ a)))
  | .isN, a, _ => .ok (.bool (isNone a))
  | .notN, a, _ => .ok (.bool (!isNone a))
  | .mem, a, .list xs => if eqOk a && eqOk (.list xs) then .ok (.bool (xs.any fun y => PyData.eqv y a)) else .bad
  | .nmem, a, .list xs => if eqOk a && eqOk (.list xs) then .ok (.bool (!xs.any fun y => PyData.eqv y a)) else .bad
  | _, _, _ => .bad
/-- the place of an index -/
def place (n : Nat) (i : Int) : Option Nat :=
  if 0 ≤ i then (if i < n then some i.toNat else none) else if -(n : Int) ≤ i then some (i + n).toNat else none
/-- the law's script: a list that is only asked for its length and its items -/
def scD (ds : List D) : D := .dict [(.bool true, .list ds)]
def evIx : D → D → Rs D
  | .dict [(.bool true, .list xs)], .int i => match (place xs.length i).bind fun j => xs[j]? with
    | some d => .ok d
    | none => .bad
  | .list xs, .int i => match (place xs.length i).bind fun j => xs[j]? with
    | some d => .ok d
    | none => .bad
  | .tuple xs, .int i => match (place xs.length i).bind fun j => xs[j]? with
    | some d => .ok d
    | none => .bad
  | _, _ => .bad
/-- the bound of a slice -/
def bnd (n d : Nat) : Option Int → Nat
  | none => d
  | some i => if 0 ≤ i then min i.toNat n else (i + n).toNat
def cut (xs : List D) (lo hi : Option Int) : List D := (xs.drop (bnd xs.length 0 lo)).take (bnd xs.length xs.length hi - bnd xs.length 0 lo)
def asInt : Option D → Rs (Option Int)
  | none => .ok none
  | some (.int i) => .ok (some i)
  | some _ => .bad
def evSl : D → Option Int → Option Int → Rs D
  | .list xs, lo, hi => .ok (.list (cut xs lo hi))
  | _, _, _ => .bad
def intsOf : List D → Option (List Int)
  | [] => some []
  | .int i :: r => (intsOf r).map (i :: ·)
  | _ :: _ => none
def boolsOf : List D → Option (List Bool)
  | [] => some []
  | .bool i :: r => (boolsOf r).map (i :: ·)
  | _ :: _ => none
def maxOf : Int → List Int → Int
  | m, [] => m
  | m, x :: r => maxOf (if m < x then x else m) r
def minOf : Int → List Int → Int
  | m, [] => m
  | m, x :: r => minOf (if x < m then x else m) r
/-- a number that is set among rising ones -/
def ins (x : Int) : List Int → List Int
  | [] => [x]
  | y :: r => if x ≤ y then x :: y :: r else y :: ins x r
def sortI : List Int → List Int
  | [] => []
  | x :: r => ins x (sortI r)
-- how long a text tells it, at most
mutual
def wt : D → Nat
  | .none => 4
  | .bool _ => 5
  | .int i => i.natAbs.log2 + 3
  | .str x => 12 * x.length + 2
  | .list xs => wts xs + 2
  | .tuple xs => wts xs + 3
  | .dict _ => 100000000
def wts : List D → Nat
  | [] => 0
  | x :: xs => wt x + 2 + wts xs
end
def reprOk (d : D) : Bool := d.showable && !d.hasDict && decide (d.depth ≤ 64) && decide (d.shown.length ≤ LIM)
def idxOf (d : D) : List D → Option Nat
  | [] => none
  | x :: xs => if PyData.eqv x d then some 0 else (idxOf d xs).map (· + 1)
def on1 (g : D → Rs D) : List D → Rs D
  | [d] => g d
  | _ => .bad
def on2 (g : D → D → Rs D) : List D → Rs D
  | [d, e] => g d e
  | _ => .bad
def evLen : D → Rs D
  | .list xs => .ok (.int xs.length)
  | .tuple xs => .ok (.int xs.length)
  | .dict [(.bool true, .list xs)] => .ok (.int xs.length)
  | _ => .bad
def evAbs : D → Rs D
  | .int a => .ok (.int (if a < 0 then -a else a))
  | _ => .bad
def evMin2 : D → D → Rs D
  | .int a, .int b => .ok (.int (if b < a then b else a))
  | _, _ => .bad
def evMax2 : D → D → Rs D
  | .int a, .int b => .ok (.int (if a < b then b else a))
  | _, _ => .bad
def evInts (g : List Int → Rs D) : D → Rs D
  | .list xs => match intsOf xs with
    | some ns => g ns
    | none => .bad
  | _ => .bad
def evBools (g : List Bool → Bool) : D → Rs D
  | .list xs => match boolsOf xs with
    | some ns => .ok (.bool (g ns))
    | none => .bad
  | _ => .bad
def evMaxl : List Int → Rs D
  | x :: r => .ok (.int (maxOf x r))
  | [] => .bad
def evMinl : List Int → Rs D
  | x :: r => .ok (.int (minOf x r))
  | [] => .bad
def evInt : D → Rs D
  | .int a => .ok (.int a)
  | .bool b => .ok (.int (if b then 1 else 0))
  | _ => .bad
def evList : D → Rs D
  | .list xs => .ok (.list xs)
  | .tuple xs => .ok (.list xs)
  | _ => .bad
def evTuple : D → Rs D
  | .list xs => .ok (.tuple xs)
  | .tuple xs => .ok (.tuple xs)
  | _ => .bad
def evGcd : D → D → Rs D
  | .int a, .int b => .ok (.int (Nat.gcd a.natAbs b.natAbs : Nat))
  | _, _ => .bad
def evRepr (d : D) : Rs D := if reprOk d then .ok (.str d.shown) else .bad
def evIndex : D → D → Rs D
  | .list xs, d => if eqOk d && eqOk (.list xs) then (match idxOf d xs with | some j => .ok (.int (j : Nat)) | none => .bad) else .bad
  | _, _ => .bad
def evBi : Bi → List D → Rs D
  | .len => on1 evLen
  | .abs => on1 evAbs
  | .min2 => on2 evMin2
  | .max2 => on2 evMax2
  | .maxl => on1 (evInts evMaxl)
  | .minl => on1 (evInts evMinl)
  | .sum => on1 (evInts fun ns => .ok (.int ns.sum))
  | .int => on1 evInt
  | .all => on1 (evBools fun bs => bs.all id)
  | .any => on1 (evBools fun bs => bs.any id)
  | .gcd => on2 evGcd
  | .list => on1 evList
  | .tuple => on1 evTuple
  | .sorted => on1 (evInts fun ns => .ok (.list ((sortI ns).map .int)))
  | .repr => on1 evRepr
  | .index => on2 evIndex
  | _ => fun _ => .bad
def rangeL (lo hi : Int) : List D := (List.range (hi - lo).toNat).map fun (k : Nat) => .int (lo + (k : Int))
def evRng (lo hi : Int) : Rs D :=
  if -16777216 ≤ lo ∧ lo ≤ 16777216 ∧ -16777216 ≤ hi ∧ hi ≤ 16777216 ∧ hi - lo ≤ 16777216 then .ok (.list (rangeL lo hi)) else .bad
def enumL (k : Int) : List D → List D
  | [] => []
  | x :: xs => .tuple [.int k, x] :: enumL (k + 1) xs
def zipL : List D → List D → List D
  | x :: xs, y :: ys => .tuple [x, y] :: zipL xs ys
  | _, _ => []
/-- an own error, as a value -/
def exD (c : Nat) (n : Int) : D := .dict [(.none, .tuple [.int c, .int n])]
def evAt : D → Rs D
  | .dict [(.none, .tuple [.int _, .int n])] => .ok (.int n)
  | _ => .bad
/-- what a for walks -/
def items : D → Rs (List D)
  | .list xs => .ok xs
  | .tuple xs => .ok xs
  | _ => .bad
mutual
def bindT : Tg → D → En → Rs En
  | .nm i, d => fun ρ => .ok (ρ.set i (.fz d))
  | .tup ts, .tuple ds => bindTs ts ds
  | .tup _, _ => fun _ => .bad
def bindTs : List Tg → List D → En → Rs En
  | [], [] => fun ρ => .ok ρ
  | t :: ts, d :: ds => fun ρ => (bindT t d ρ).bind (bindTs ts ds)
  | _, _ => fun _ => .bad
end
/-- a list that is made item by item -/
def lcGo (f : D → Rs (Option D)) : List D → Rs (List D)
  | [] => .ok []
  | d :: ds => match f d with
    | .ok (some x) => (lcGo f ds).bind fun r => .ok (x :: r)
    | .ok none => lcGo f ds
    | _ => .bad

/-! ### expressions; cf: the calls; gs: the module's constants -/
mutual
def evE (cf : Nat → List D → Rs D) (gs : List Int) : E → En → Rs D
  | .var i => fun ρ => match ρ.at i with
    | .fz d => .ok d
    | _ => .bad
  | .bv i => fun ρ => match ρ.at i with
    | .fz d => .ok d
    | .ow d => .ok d
    | _ => .bad
  | .c d => fun _ => .ok d
  | .gl i => fun _ => match gs[i]? with
    | some n => .ok (.int n)
    | none => .bad
  | .bin op a b => fun ρ => (evE cf gs a ρ).bind fun x => (evE cf gs b ρ).bind fun y => evBin op x y
  | .cat a b => fun ρ => (evE cf gs a ρ).bind fun x => (evE cf gs b ρ).bind fun y => evCat x y
  | .rep a b => fun ρ => (evE cf gs a ρ).bind fun x => (evE cf gs b ρ).bind fun y => evRep x y
  | .neg a => fun ρ => (evE cf gs a ρ).bind evNeg
  | .not a => fun ρ => (evE cf gs a ρ).bind fun x => (tr x).bind fun t => .ok (.bool (!t))
  | .ands es => evA cf gs es
  | .ors es => evR cf gs es
  | .cmp op a b => fun ρ => (evE cf gs a ρ).bind fun x => (evE cf gs b ρ).bind fun y => evCmp op x y
  | .chain o1 o2 a b c => fun ρ => (evE cf gs a ρ).bind fun x => (evE cf gs b ρ).bind fun y => (evCmp o1 x y).bind fun r =>
      match r with
      | .bool true => (evE cf gs c ρ).bind fun z => evCmp o2 y z
      | .bool false => .ok (.bool false)
      | _ => .bad
  | .ite c a b => fun ρ => (evE cf gs c ρ).bind fun x => (tr x).bind fun t => if t then evE cf gs a ρ else evE cf gs b ρ
  | .lst es => fun ρ => (evEs cf gs es ρ).bind fun ds => if ds.length ≤ LIM then .ok (.list ds) else .bad
  | .tup es => fun ρ => (evEs cf gs es ρ).bind fun ds => if ds.length ≤ LIM then .ok (.tuple ds) else .bad
  | .ix a i => fun ρ => (evE cf gs a ρ).bind fun x => (evE cf gs i ρ).bind fun y => evIx x y
  | .sl a lo hi => fun ρ => (evE cf gs a ρ).bind fun x => (evO cf gs lo ρ).bind fun l => (evO cf gs hi ρ).bind fun h => evSl x l h
  | .call f es => fun ρ => (evEs cf gs es ρ).bind fun ds => cf f ds
  | .sel fs i es => fun ρ => (evE cf gs i ρ).bind fun x => match x with
    | .int n => (match (place fs.length n).bind fun j => fs[j]? with
      | some f => (evEs cf gs es ρ).bind fun ds => cf f ds
      | none => .bad)
    | _ => .bad
  | .bi f es => fun ρ => (evEs cf gs es ρ).bind fun ds => evBi f ds
  | .eat a => fun ρ => (evE cf gs a ρ).bind evAt
  | .lr1 a => fun ρ => (evE cf gs a ρ).bind fun x => match x with
    | .int n => evRng 0 n
    | _ => .bad
  | .lr2 a b => fun ρ => (evE cf gs a ρ).bind fun x => (evE cf gs b ρ).bind fun y => match x, y with
    | .int m, .int n => evRng m n
    | _, _ => .bad
  | .rng1 a => fun ρ => (evE cf gs a ρ).bind fun x => match x with
    | .int n => evRng 0 n
    | _ => .bad
  | .rng2 a b => fun ρ => (evE cf gs a ρ).bind fun x => (evE cf gs b ρ).bind fun y => match x, y with
    | .int m, .int n => evRng m n
    | _, _ => .bad
  | .enum a => fun ρ => (evE cf gs a ρ).bind fun x => match x with
    | .list xs => .ok (.list (enumL 0 xs))
    | _ => .bad
  | .zip a b => fun ρ => (evE cf gs a ρ).bind fun x => (evE cf gs b ρ).bind fun y => match x, y with
    | .list xs, .list ys => .ok (.list (zipL xs ys))
    | _, _ => .bad
  | .lc tg own it cs e => fun ρ => (evE cf gs it ρ).bind fun x => (items x).bind fun ds =>
      (lcGo (fun d => (bindT tg d (ρ.wipe own)).bind fun ρ1 => (evTs cf gs cs ρ1).bind fun t =>
        if t then (evE cf gs e ρ1).bind fun y => .ok (some y) else .ok none) ds).bind fun r => .ok (.list r)
def evEs (cf : Nat → List D → Rs D) (gs : List Int) : List E → En → Rs (List D)
  | [] => fun _ => .ok []
  | e :: es => fun ρ => (evE cf gs e ρ).bind fun x => (evEs cf gs es ρ).bind fun r => .ok (x :: r)
def evA (cf : Nat → List D → Rs D) (gs : List Int) : List E → En → Rs D
  | [] => fun _ => .bad
  | e :: es => fun ρ => (evE cf gs e ρ).bind fun x => if es.isEmpty then .ok x else (tr x).bind fun t => if t then evA cf gs es ρ else .ok x
def evR (cf : Nat → List D → Rs D) (gs : List Int) : List E → En → Rs D
  | [] => fun _ => .bad
  | e :: es => fun ρ => (evE cf gs e ρ).bind fun x => if es.isEmpty then .ok x else (tr x).bind fun t => if t then .ok x else evR cf gs es ρ
/-- tests of a comprehension, all -/
def evTs (cf : Nat → List D → Rs D) (gs : List Int) : List E → En → Rs Bool
  | [] => fun _ => .ok true
  | e :: es => fun ρ => (evE cf gs e ρ).bind fun x => (tr x).bind fun t => if t then evTs cf gs es ρ else .ok false
def evO (cf : Nat → List D → Rs D) (gs : List Int) : Option E → En → Rs (Option Int)
  | none => fun _ => .ok none
  | some e => fun ρ => (evE cf gs e ρ).bind fun x => match x with
    | .int i => .ok (some i)
    | _ => .bad
end

/-! ### statements -/
inductive Out where
  | nx (ρ : En) | rt (d : D)
def seqO (r : Rs Out) (k : En → Rs Out) : Rs Out := match r with
  | .ok (.nx ρ) => k ρ
  | .ok (.rt d) => .ok (.rt d)
  | .er c n => .er c n
  | .bad => .bad
@[simp] theorem seqO_nx (ρ : En) (k : En → Rs Out) : seqO (.ok (.nx ρ)) k = k ρ := Eq.trans rfl rfl
@[simp] theorem seqO_rt (d : D) (k : En → Rs Out) : seqO (.ok (.rt d)) k = .ok (.rt d) := Eq.trans rfl rfl
@[simp] theorem seqO_er (c : Nat) (n : Int) (k : En → Rs Out) : seqO (.er c n) k = .er c n := Eq.trans rfl rfl
@[simp] theorem seqO_bad (k : En → Rs Out) : seqO .bad k = .bad := Eq.trans rfl rfl
def forGo (f : D → En → Rs Out) : List D → En → Rs Out
  | [], ρ => .ok (.nx ρ)
  | d :: ds, ρ => seqO (f d ρ) (forGo f ds)
def whlGo (c : En → Rs Bool) (b : En → Rs Out) : Nat → En → Rs Out
  | 0, _ => .bad
  | n + 1, ρ => (c ρ).bind fun t => if t then seqO (b ρ) (whlGo c b n) else .ok (.nx ρ)
/-- a list of the slot's own, changed -/
def onOw (ρ : En) (i : Nat) (f : List D → Rs (List D)) : Rs Out := match ρ.at i with
  | .ow (.list xs) => (f xs).bind fun ys => .ok (.nx (ρ.set i (.ow (.list ys))))
  | _ => .bad
/-- the clauses 'except k as i: return (text, i.at)'; sub: which class lies below which -/
def evH (sub : Nat → Nat → Bool) (c : Nat) (n : Int) : List (Nat × Nat × Str) → Rs Out
  | [] => .er c n
  | (k, _, x) :: r => if sub c k then .ok (.rt (.tuple [.str x, .int n])) else evH sub c n r
mutual
def evS (cf : Nat → List D → Rs D) (gs : List Int) (sub : Nat → Nat → Bool) : S → En → Rs Out
  | .expr e => fun ρ => (evE cf gs e ρ).bind fun _ => .ok (.nx ρ)
  | .set i e => fun ρ => (evE cf gs e ρ).bind fun x => .ok (.nx (ρ.set i (.fz x)))
  | .new i e => fun ρ => (evE cf gs e ρ).bind fun x => .ok (.nx (ρ.set i (.ow x)))
  | .unp tg e => fun ρ => (evE cf gs e ρ).bind fun x => (bindT tg x ρ).bind fun ρ' => .ok (.nx ρ')
  | .fz i => fun ρ => match ρ.at i with
    | .ow d => .ok (.nx (ρ.set i (.fz d)))
    | _ => .ok (.nx ρ)
  | .wp is => fun ρ => .ok (.nx (ρ.wipe is))
  | .app i e => fun ρ => onOw ρ i fun xs => (evE cf gs e ρ).bind fun x => if xs.length < LIM then .ok (xs ++ [x]) else .bad
  | .seti i k e => fun ρ => (evE cf gs e ρ).bind fun x => onOw ρ i fun xs => (evE cf gs k ρ).bind fun y => match y with
    | .int n => (match place xs.length n with
      | some j => .ok (xs.set j x)
      | none => .bad)
    | _ => .bad
  | .ext i e => fun ρ => onOw ρ i fun xs => (evE cf gs e ρ).bind fun x => match x with
    | .list ys => if xs.length + ys.length ≤ LIM then .ok (xs ++ ys) else .bad
    | _ => .bad
  | .pop j i => fun ρ => match ρ.at i with
    | .ow (.list xs) => (match xs.getLast? with
      | some d => .ok (.nx ((ρ.set i (.ow (.list xs.dropLast))).set j (.fz d)))
      | none => .bad)
    | _ => .bad
  | .clr i => fun ρ => onOw ρ i fun _ => .ok []
  | .ret e => fun ρ => (evE cf gs e ρ).bind fun x => .ok (.rt x)
  | .rto i => fun ρ => match ρ.at i with
    | .ow d => .ok (.rt d)
    | _ => .bad
  | .rtn => fun _ => .ok (.rt .none)
  | .ife c a b => fun ρ => (evE cf gs c ρ).bind fun x => (tr x).bind fun t => if t then evSs cf gs sub a ρ else evSs cf gs sub b ρ
  | .whl n c b => fun ρ => whlGo (fun ρ => (evE cf gs c ρ).bind tr) (evSs cf gs sub b) n ρ
  | .fr tg it b => fun ρ => (evE cf gs it ρ).bind fun x => (items x).bind fun ds => forGo (fun d ρ => (bindT tg d ρ).bind (evSs cf gs sub b)) ds ρ
  | .rse c e => fun ρ => (evE cf gs e ρ).bind fun x => match x with
    | .int n => .er c n
    | _ => .bad
  | .try_ b hs => fun ρ => match evSs cf gs sub b ρ with
    | .er c n => evH sub c n hs
    | r => r
def evSs (cf : Nat → List D → Rs D) (gs : List Int) (sub : Nat → Nat → Bool) : List S → En → Rs Out
  | [] => fun ρ => .ok (.nx ρ)
  | s :: ss => fun ρ => seqO (evS cf gs sub s ρ) (evSs cf gs sub ss)
end

/-! ### defs -/
structure Fn where
  name : Str
  np : Nat
  N : List Str
  fresh : Bool
  body : List S
structure Tab where
  fns : List Fn
  cls : List (Str × List Nat)
  gls : List (Str × Int)
def Tab.sub (T : Tab) (c k : Nat) : Bool := (T.cls.getD c (T.cls.headD (Str.empty, []))).2.contains k
def runFn (T : Tab) (cf : Nat → List D → Rs D) (f : Fn) (ds : List D) : Rs D :=
  if ds.length = f.np then
    match evSs cf (T.gls.map (·.2)) T.sub f.body (ds.map .fz ++ List.replicate (f.N.length - ds.length) .un) with
    | .ok (.nx _) => if f.fresh then .bad else .ok .none
    | .ok (.rt d) => .ok d
    | .er c n => .er c n
    | .bad => .bad
  else .bad
def callF (T : Tab) : Nat → Nat → List D → Rs D
  | 0, _, _ => .bad
  | n + 1, j, ds => if n < 3 then .bad else match T.fns[j]? with
    | some f => runFn T (callF T n) f ds
    | none => .bad
end Z

/-! Z2: how values stand in the heap. -/
namespace Z
open PySem PySem.Spec PyProof.Rows L2

def Le (F H : Hp) : Prop := ∀ a o, F a = some o → H a = some o
theorem Le.rfl' (H : Hp) : Le H H := fun _ _ h => h
theorem Le.trans {F G H : Hp} (a : Le F G) (b : Le G H) : Le F H := fun x o h => b x o (a x o h)
theorem Le.rd {F H : Hp} {a : Addr} {u : HO} (l : Le F H) (h : Rd F a u) : Rd H a u := h.elim (fun h => .inl (l _ _ h)) fun ⟨o, h⟩ => .inr ⟨o, l _ _ h⟩
theorem Le.sqL {K : PySem.W.Frag} {F H : Hp} {a : Addr} {xs : List V} (l : Le F H) (h : SqL K F a xs) : SqL K H a xs := h.elim (fun h => .inl (l.rd h)) .inr
theorem Le.sqT {K : PySem.W.Frag} {F H : Hp} {a : Addr} {xs : List V} (l : Le F H) (h : SqT K F a xs) : SqT K H a xs := h.elim (fun h => .inl (l.rd h)) .inr

/-- an own error's object at a, its own dict at dx -/
def exO (a C dx : Addr) : HO := .ext fun h => ∃ oe vs, h.get? a = some oe ∧ oe.cls = Value.ref C ∧ oe.dict = some dx ∧ oe.data = .fields vs
def exF (n : Int) : HO := .xd [(("at" : Str), V.int n)]

mutual
/-- the value v is the data d, by the objects of F -/
inductive Rep (K : PySem.W.Frag) (cl : Nat → Addr) (F : Hp) : V → D → Prop
  | non : Rep K cl F .non .none
  | bl (b : Bool) : Rep K cl F (.bl b) (.bool b)
  | int (i : Int) : Rep K cl F (.int i) (.int i)
  | str (x : Str) : Rep K cl F (.str x) (.str x)
  | scr {a : Addr} {vs : List V} {ds : List D} : SqL K F a vs → vs.length ≤ LIM → Reps K cl F vs ds → Rep K cl F (.ref a) (scD ds)
  | lst {a : Addr} {vs : List V} {ds : List D} : Rd F a (.lst vs) → vs.length ≤ LIM → Reps K cl F vs ds → Rep K cl F (.ref a) (.list ds)
  | tup {a : Addr} {vs : List V} {ds : List D} : SqT K F a vs → vs.length ≤ LIM → Reps K cl F vs ds → Rep K cl F (.ref a) (.tuple ds)
  | exc {a dx : Addr} {c : Nat} {n : Int} : F a = some (exO a (cl c) dx) → F dx = some (exF n) → Rep K cl F (.ref a) (exD c n)
inductive Reps (K : PySem.W.Frag) (cl : Nat → Addr) (F : Hp) : List V → List D → Prop
  | nil : Reps K cl F [] []
  | cons {v : V} {d : D} {vs : List V} {ds : List D} : Rep K cl F v d → Reps K cl F vs ds → Reps K cl F (v :: vs) (d :: ds)
end
section
variable {K : PySem.W.Frag} {cl : Nat → Addr} {F F' H H' : Hp}
mutual
theorem Rep.mono (l : Le F F') : ∀ {v : V} {d : D}, Rep K cl F v d → Rep K cl F' v d
  | _, _, .non => .non
  | _, _, .bl b => .bl b
  | _, _, .int i => .int i
  | _, _, .str x => .str x
  | _, _, .lst h z r => .lst (l.rd h) z (Reps.mono l r)
  | _, _, .scr h z r => .scr (l.sqL h) z (Reps.mono l r)
  | _, _, .tup h z r => .tup (l.sqT h) z (Reps.mono l r)
  | _, _, .exc h g => .exc (l _ _ h) (l _ _ g)
theorem Reps.mono (l : Le F F') : ∀ {vs : List V} {ds : List D}, Reps K cl F vs ds → Reps K cl F' vs ds
  | _, _, .nil => .nil
  | _, _, .cons h r => .cons (Rep.mono l h) (Reps.mono l r)
end
theorem Reps.length : ∀ {vs : List V} {ds : List D}, Reps K cl F vs ds → vs.length = ds.length
  | _, _, .nil => rfl
  | _, _, .cons _ r => by simp [Reps.length r]
theorem Reps.get : ∀ {vs : List V} {ds : List D} {i : Nat} {d : D}, Reps K cl F vs ds → ds[i]? = some d → ∃ v, vs[i]? = some v ∧ Rep K cl F v d
  | _, _, i, d, .nil, h => by simp at h
  | _, _, 0, d, .cons r _, h => ⟨_, rfl, by
    have e : _ = d := Option.some.inj h
    exact e ▸ r⟩
  | _, _, i + 1, d, .cons _ t, h => Reps.get (i := i) (d := d) t h
theorem Reps.append : ∀ {vs ws : List V} {ds es : List D}, Reps K cl F vs ds → Reps K cl F ws es → Reps K cl F (vs ++ ws) (ds ++ es)
  | _, _, _, _, .nil, s => s
  | _, _, _, _, .cons h r, s => .cons h (Reps.append r s)
theorem Reps.take : ∀ {vs : List V} {ds : List D} (n : Nat), Reps K cl F vs ds → Reps K cl F (vs.take n) (ds.take n)
  | _, _, 0, _ => .nil
  | _, _, _ + 1, .nil => .nil
  | _, _, n + 1, .cons h r => .cons h (Reps.take n r)
theorem Reps.drop : ∀ {vs : List V} {ds : List D} (n : Nat), Reps K cl F vs ds → Reps K cl F (vs.drop n) (ds.drop n)
  | _, _, 0, r => r
  | _, _, _ + 1, .nil => .nil
  | _, _, n + 1, .cons _ r => Reps.drop n r
theorem Reps.set {v : V} {d : D} (q : Rep K cl F v d) : ∀ {vs : List V} {ds : List D} (i : Nat), Reps K cl F vs ds → Reps K cl F (vs.set i v) (ds.set i d)
  | _, _, _, .nil => .nil
  | _, _, 0, .cons _ r => .cons q r
  | _, _, i + 1, .cons h r => .cons h (Reps.set q i r)
theorem Reps.repl {vs : List V} {ds : List D} (r : Reps K cl F vs ds) : ∀ k : Nat, Reps K cl F (List.replicate k vs).flatten (List.replicate k ds).flatten
  | 0 => .nil
  | k + 1 => by
    rw [List.replicate_succ, List.replicate_succ, List.flatten_cons, List.flatten_cons]
    exact r.append (Reps.repl r k)
theorem Reps.dropLast : ∀ {vs : List V} {ds : List D}, Reps K cl F vs ds → Reps K cl F vs.dropLast ds.dropLast
  | _, _, .nil => .nil
  | _, _, .cons _ .nil => .nil
  | _, _, .cons h (.cons g r) => .cons h (Reps.dropLast (.cons g r))
theorem Reps.ints : ∀ {ns : List Int}, Reps K cl F (ns.map V.int) (ns.map PyData.int)
  | [] => .nil
  | n :: ns => .cons (.int n) Reps.ints
theorem Reps.of_ints : ∀ {vs : List V} {ds : List D} {ns : List Int}, Reps K cl F vs ds → Z.intsOf ds = some ns → vs = ns.map V.int ∧ ds = ns.map PyData.int
  | _, _, ns, .nil, h => by
    have e : [] = ns := Option.some.inj h
    subst e
    exact ⟨rfl, rfl⟩
  | _, _, ns, @Reps.cons _ _ _ v d vs ds q r, h => by
    cases q with
    | int i =>
      obtain ⟨ms, h1, h2⟩ := Option.map_eq_some_iff.mp (show (Z.intsOf ds).map (i :: ·) = some ns from h)
      obtain ⟨e1, e2⟩ := Reps.of_ints r h1
      subst h2
      rw [e1, e2]
      exact ⟨rfl, rfl⟩
    | _ => cases (show (none : Option (List Int)) = some ns from h)
theorem Reps.of_bools : ∀ {vs : List V} {ds : List D} {ns : List Bool}, Reps K cl F vs ds → Z.boolsOf ds = some ns → vs = ns.map V.bl
  | _, _, ns, .nil, h => by
    have e : [] = ns := Option.some.inj h
    subst e
    rfl
  | _, _, ns, @Reps.cons _ _ _ v d vs ds q r, h => by
    cases q with
    | bl i =>
      obtain ⟨ms, h1, h2⟩ := Option.map_eq_some_iff.mp (show (Z.boolsOf ds).map (i :: ·) = some ns from h)
      have e1 := Reps.of_bools r h1
      subst h2
      rw [e1]
      rfl
    | _ => cases (show (none : Option (List Bool)) = some ns from h)

/-- data by its outermost object in H, its items by F -/
def Sh (K : PySem.W.Frag) (cl : Nat → Addr) (F H : Hp) (v : V) : D → Prop
  | .list ds => ∃ a vs, v = .ref a ∧ Rd H a (.lst vs) ∧ vs.length ≤ LIM ∧ Reps K cl F vs ds
  | .tuple ds => ∃ a vs, v = .ref a ∧ SqT K H a vs ∧ vs.length ≤ LIM ∧ Reps K cl F vs ds
  | d => Rep K cl F v d
theorem Rep.sh (l : Le F H) {v : V} {d : D} (r : Rep K cl F v d) : Sh K cl F H v d := by
  cases r with
  | lst h z r => exact ⟨_, _, rfl, l.rd h, z, r⟩
  | scr h z r => exact .scr h z r
  | tup h z r => exact ⟨_, _, rfl, l.sqT h, z, r⟩
  | non => exact .non
  | bl b => exact .bl b
  | int i => exact .int i
  | str x => exact .str x
  | exc h g => exact .exc h g
theorem Sh.rep (l : Le F H) {v : V} {d : D} (r : Sh K cl F H v d) : Rep K cl H v d := by
  cases d with
  | list ds =>
    obtain ⟨a, vs, rfl, h, z, r⟩ := r
    exact .lst h z (r.mono l)
  | tuple ds =>
    obtain ⟨a, vs, rfl, h, z, r⟩ := r
    exact .tup h z (r.mono l)
  | none => exact Rep.mono l r
  | bool b => exact Rep.mono l r
  | int b => exact Rep.mono l r
  | str b => exact Rep.mono l r
  | dict b => exact Rep.mono l r

/-- the heap grows: what is tracked stays, F grows by new objects alone -/
structure Ext (F H F' H' : Hp) : Prop where
  same : Le H H'
  up : Le F F'
  le : Le F' H'
  old : ∀ a, H a ≠ none → F' a = F a
theorem Ext.refl (l : Le F H) : Ext F H F H := ⟨Le.rfl' _, Le.rfl' _, l, fun _ _ => rfl⟩
theorem Le.ne {F H : Hp} (l : Le F H) {a : Addr} (h : F a ≠ none) : H a ≠ none := fun e => by
  cases q : F a with
  | none => exact h q
  | some o => rw [l a o q] at e; cases e
theorem Ext.trans {F1 H1 F2 H2 : Hp} (x : Ext F H F1 H1) (y : Ext F1 H1 F2 H2) : Ext F H F2 H2 :=
  ⟨x.same.trans y.same, x.up.trans y.up, y.le, fun a h => (y.old a (x.same.ne h)).trans (x.old a h)⟩
theorem le_upd {F : Hp} {p : Addr} {o : HO} (h : F p = none) : Le F (upd F p o) := fun a u e => by
  rw [upd_ne (fun z => by rw [z, h] at e; cases e)]
  exact e
theorem Le.none {F H : Hp} (l : Le F H) {a : Addr} (h : H a = none) : F a = none := by
  cases q : F a with
  | none => rfl
  | some o => rw [l a o q] at h; cases h
theorem le_upd2 {F H : Hp} {p : Addr} {o : HO} (l : Le F H) : Le (upd F p o) (upd H p o) := fun a u e => by
  by_cases h : a = p
  · subst h
    rw [upd_same] at e ⊢
    exact e
  · rw [upd_ne h] at e ⊢
    exact l a u e
/-- a new object that may be shared -/
theorem Ext.new {p : Addr} {o : HO} (l : Le F H) (n : H p = none) : Ext F H (upd F p o) (upd H p o) :=
  ⟨le_upd n, le_upd (l.none n), le_upd2 l, fun a h => upd_ne fun z => h (by rw [z, n])⟩
/-- a new object that is held alone -/
theorem Ext.own {p : Addr} {o : HO} (l : Le F H) (n : H p = none) : Ext F H F (upd H p o) :=
  ⟨le_upd n, Le.rfl' _, l.trans (le_upd n), fun _ _ => rfl⟩
/-- what was held alone is shared -/
theorem Ext.share {F1 H1 : Hp} {a : Addr} {o : HO} (x : Ext F H F1 H1) (n : H a = none) (h : H1 a = some o) (f : F1 a = none) : Ext F H (upd F1 a o) H1 :=
  ⟨x.same, x.up.trans (le_upd f), fun b u e => by
    by_cases z : b = a
    · subst z
      rw [upd_same] at e
      cases e
      exact h
    · rw [upd_ne z] at e
      exact x.le b u e, fun b hb => by
    have z : b ≠ a := fun z => hb (by rw [z, n])
    rw [upd_ne z]
    exact x.old b hb⟩

/-- a list of its own at a -/
def Own (K : PySem.W.Frag) (cl : Nat → Addr) (F H : Hp) (a : Addr) : D → Prop
  | .list ds => ∃ vs, H a = some (.lst vs) ∧ vs.length ≤ LIM ∧ Reps K cl F vs ds ∧ F a = none
  | _ => False
theorem Own.ext {F' H' : Hp} {a : Addr} {d : D} (x : Ext F H F' H') (h : Own K cl F H a d) : Own K cl F' H' a d := by
  cases d with
  | list ds =>
    obtain ⟨vs, h1, h2, h3, h4⟩ := h
    exact ⟨vs, x.same _ _ h1, h2, h3.mono x.up, by rw [x.old a (by rw [h1]; simp)]; exact h4⟩
  | _ => exact h.elim
theorem Own.some {a : Addr} {d : D} (h : Own K cl F H a d) : H a ≠ none := by
  cases d with
  | list ds =>
    obtain ⟨vs, h1, _⟩ := h
    rw [h1]
    simp
  | _ => exact h.elim
theorem Own.sh {a : Addr} {d : D} (h : Own K cl F H a d) : Sh K cl F H (.ref a) d := by
  cases d with
  | list ds =>
    obtain ⟨vs, h1, h2, h3, _⟩ := h
    exact ⟨a, vs, rfl, .inl h1, h2, h3⟩
  | _ => exact h.elim
/-- shared from now on -/
theorem Own.share {a : Addr} {d : D} (h : Own K cl F H a d) (l : Le F H) : ∃ o, H a = .some o ∧ F a = none ∧ Rep K cl (upd F a o) (.ref a) d := by
  cases d with
  | list ds =>
    obtain ⟨vs, h1, h2, h3, h4⟩ := h
    exact ⟨_, h1, h4, .lst (.inl upd_same) h2 (h3.mono (le_upd h4))⟩
  | _ => exact h.elim

/-- the slots -/
structure Stt (K : PySem.W.Frag) (cl : Nat → Addr) (B : Addr → Prop) (F H : Hp) (ρ : En) (σ : L2.St) : Prop where
  le : Le F H
  bd : ∀ a, B a → H a ≠ none
  len : ρ.length ≤ σ.length
  fz : ∀ i d, ρ.at i = .fz d → ∃ v, σ[i]? = some (some v) ∧ Rep K cl F v d
  ow : ∀ i d, ρ.at i = .ow d → ∃ a, σ[i]? = some (some (.ref a)) ∧ Own K cl F H a d ∧ ¬ B a
  inj : ∀ i j d e a, ρ.at i = .ow d → ρ.at j = .ow e → σ[i]? = some (some (.ref a)) → σ[j]? = some (some (.ref a)) → i = j
variable {B : Addr → Prop} {ρ : En} {σ : L2.St}
theorem Stt.ext (S : Stt K cl B F H ρ σ) (x : Ext F H F' H') : Stt K cl B F' H' ρ σ where
  le := x.le
  bd := fun a b => x.same.ne (S.bd a b)
  len := S.len
  fz := fun i d h => let ⟨v, h1, h2⟩ := S.fz i d h; ⟨v, h1, h2.mono x.up⟩
  ow := fun i d h => let ⟨a, h1, h2, h3⟩ := S.ow i d h; ⟨a, h1, h2.ext x, h3⟩
  inj := S.inj
theorem En.at_set (ρ : En) (i j : Nat) (s : Sl) : En.at (ρ.set i s) j = if j = i ∧ i < ρ.length then s else ρ.at j := by
  unfold En.at
  rw [List.getD_eq_getElem?_getD, List.getD_eq_getElem?_getD, List.getElem?_set]
  by_cases h : i = j
  · subst h
    by_cases hl : i < ρ.length
    · simp [hl]
    · rw [if_pos rfl, if_neg hl, if_neg (fun z => hl z.2), List.getElem?_eq_none (by omega)]
  · rw [if_neg h, if_neg (fun z => h z.1.symm)]
/-- a slot gets a value -/
theorem Stt.set (S : Stt K cl B F H ρ σ) {i : Nat} {v : V} {d : D} (r : Rep K cl F v d) : Stt K cl B F H (ρ.set i (.fz d)) (σ.set i (some v)) where
  le := S.le
  bd := S.bd
  len := by rw [List.length_set, List.length_set]; exact S.len
  fz := fun j e h => by
    rw [En.at_set] at h
    split at h
    · rename_i z
      obtain ⟨rfl, z⟩ := z
      cases h
      exact ⟨v, List.getElem?_set_self (Nat.lt_of_lt_of_le z S.len), r⟩
    · rename_i z
      obtain ⟨w, h1, h2⟩ := S.fz j e h
      by_cases hj : j = i
      · subst hj
        have : ρ.length ≤ j := Nat.le_of_not_lt fun q => z ⟨rfl, q⟩
        unfold En.at at h
        rw [List.getD_eq_getElem?_getD, List.getElem?_eq_none this] at h
        cases h
      · exact ⟨w, by rw [List.getElem?_set_ne (Ne.symm hj)]; exact h1, h2⟩
  ow := fun j e h => by
    rw [En.at_set] at h
    split at h
    · cases h
    · rename_i z
      obtain ⟨w, h1, h2, h3⟩ := S.ow j e h
      by_cases hj : j = i
      · subst hj
        have : ρ.length ≤ j := Nat.le_of_not_lt fun q => z ⟨rfl, q⟩
        unfold En.at at h
        rw [List.getD_eq_getElem?_getD, List.getElem?_eq_none this] at h
        cases h
      · exact ⟨w, by rw [List.getElem?_set_ne (Ne.symm hj)]; exact h1, h2, h3⟩
  inj := fun j k d' e a h1 h2 h3 h4 => by
    rw [En.at_set] at h1 h2
    split at h1
    · cases h1
    split at h2
    · cases h2
    rename_i z1 z2
    have ne : ∀ {j : Nat} {d : D}, ρ.at j = .ow d → ¬ (j = i ∧ i < ρ.length) → j ≠ i := fun {j d} h z hj => by
      subst hj
      have : ρ.length ≤ j := Nat.le_of_not_lt fun q => z ⟨rfl, q⟩
      unfold En.at at h
      rw [List.getD_eq_getElem?_getD, List.getElem?_eq_none this] at h
      cases h
    rw [List.getElem?_set_ne (Ne.symm (ne h1 z1))] at h3
    rw [List.getElem?_set_ne (Ne.symm (ne h2 z2))] at h4
    exact S.inj j k d' e a h1 h2 h3 h4
/-- a slot is forgotten -/
theorem Stt.drop (S : Stt K cl B F H ρ σ) {i : Nat} : Stt K cl B F H (ρ.set i .un) σ where
  le := S.le
  bd := S.bd
  len := by rw [List.length_set]; exact S.len
  fz := fun j e h => by
    rw [En.at_set] at h
    split at h
    · cases h
    · exact S.fz j e h
  ow := fun j e h => by
    rw [En.at_set] at h
    split at h
    · cases h
    · exact S.ow j e h
  inj := fun j k d' e a h1 h2 h3 h4 => by
    rw [En.at_set] at h1 h2
    split at h1
    · cases h1
    split at h2
    · cases h2
    exact S.inj j k d' e a h1 h2 h3 h4
theorem Stt.wipe (S : Stt K cl B F H ρ σ) : ∀ is : List Nat, Stt K cl B F H (ρ.wipe is) σ
  | [] => S
  | i :: is => (Stt.wipe S is).drop
/-- both sides forget a slot -/
theorem Stt.lose (S : Stt K cl B F H ρ σ) {i : Nat} : Stt K cl B F H (ρ.set i .un) (σ.set i none) where
  le := S.le
  bd := S.bd
  len := by rw [List.length_set, List.length_set]; exact S.len
  fz := fun j e h => by
    rw [En.at_set] at h
    split at h
    · cases h
    · rename_i z
      obtain ⟨w, h1, h2⟩ := S.fz j e h
      by_cases hj : j = i
      · subst hj
        have : ρ.length ≤ j := Nat.le_of_not_lt fun q => z ⟨rfl, q⟩
        unfold En.at at h
        rw [List.getD_eq_getElem?_getD, List.getElem?_eq_none this] at h
        cases h
      · exact ⟨w, by rw [List.getElem?_set_ne (Ne.symm hj)]; exact h1, h2⟩
  ow := fun j e h => by
    rw [En.at_set] at h
    split at h
    · cases h
    · rename_i z
      obtain ⟨w, h1, h2, h3⟩ := S.ow j e h
      by_cases hj : j = i
      · subst hj
        have : ρ.length ≤ j := Nat.le_of_not_lt fun q => z ⟨rfl, q⟩
        unfold En.at at h
        rw [List.getD_eq_getElem?_getD, List.getElem?_eq_none this] at h
        cases h
      · exact ⟨w, by rw [List.getElem?_set_ne (Ne.symm hj)]; exact h1, h2, h3⟩
  inj := fun j k d' e a h1 h2 h3 h4 => by
    rw [En.at_set] at h1 h2
    split at h1
    · cases h1
    split at h2
    · cases h2
    rename_i z1 z2
    have ne : ∀ {j : Nat} {d : D}, ρ.at j = .ow d → ¬ (j = i ∧ i < ρ.length) → j ≠ i := fun {j d} h z hj => by
      subst hj
      have : ρ.length ≤ j := Nat.le_of_not_lt fun q => z ⟨rfl, q⟩
      unfold En.at at h
      rw [List.getD_eq_getElem?_getD, List.getElem?_eq_none this] at h
      cases h
    rw [List.getElem?_set_ne (Ne.symm (ne h1 z1))] at h3
    rw [List.getElem?_set_ne (Ne.symm (ne h2 z2))] at h4
    exact S.inj j k d' e a h1 h2 h3 h4
theorem Stt.wipes (S : Stt K cl B F H ρ σ) : ∀ is : List Nat, Stt K cl B F H (ρ.wipe is) (L2.wipe σ is)
  | [] => S
  | i :: is => (Stt.wipes S is).lose
theorem Own.of_ne {a b : Addr} {d : D} {o : HO} (h : Own K cl F H a d) (ne : a ≠ b) : Own K cl F (upd H b o) a d := by
  cases d with
  | list ds =>
    obtain ⟨vs, h1, h2, h3, h4⟩ := h
    exact ⟨vs, by rw [upd_ne ne]; exact h1, h2, h3, h4⟩
  | _ => exact h.elim
theorem Own.none {a : Addr} {d : D} (h : Own K cl F H a d) : F a = none := by
  cases d with
  | list ds =>
    obtain ⟨vs, h1, h2, h3, h4⟩ := h
    exact h4
  | _ => exact h.elim
theorem le_updH {a : Addr} {o : HO} (l : Le F H) (f : F a = none) : Le F (upd H a o) := fun b u e => by
  rw [upd_ne (fun z => by rw [z, f] at e; cases e)]
  exact l b u e
/-- the object of an own slot is changed -/
theorem Stt.chg (S : Stt K cl B F H ρ σ) {i : Nat} {d : D} {a : Addr} {o : HO} {d' : D} (h : ρ.at i = .ow d) (hσ : σ[i]? = some (some (.ref a))) (n : Own K cl F (upd H a o) a d') :
    Stt K cl B F (upd H a o) (ρ.set i (.ow d')) σ := by
  obtain ⟨a', q1, q2, q3⟩ := S.ow i d h
  rw [hσ] at q1
  cases q1
  have ne : ∀ j e b, ρ.at j = .ow e → σ[j]? = some (some (.ref b)) → j ≠ i → b ≠ a := fun j e b h1 h2 hj hb => by
    subst hb
    exact hj (S.inj j i e d b h1 h h2 hσ)
  refine ⟨le_updH S.le q2.none, fun b hb => ?_, by rw [List.length_set]; exact S.len, fun j e hj => ?_, fun j e hj => ?_, fun j k d1 d2 b h1 h2 h3 h4 => ?_⟩
  · by_cases z : b = a
    · rw [z, upd_same]
      simp
    · rw [upd_ne z]
      exact S.bd b hb
  · rw [En.at_set] at hj
    split at hj
    · cases hj
    · exact S.fz j e hj
  · rw [En.at_set] at hj
    split at hj
    · rename_i z
      obtain ⟨rfl, z⟩ := z
      cases hj
      exact ⟨a, hσ, n, q3⟩
    · rename_i z
      obtain ⟨b, h1, h2, h3⟩ := S.ow j e hj
      by_cases hji : j = i
      · subst hji
        have : ρ.length ≤ j := Nat.le_of_not_lt fun q => z ⟨rfl, q⟩
        unfold En.at at h
        rw [List.getD_eq_getElem?_getD, List.getElem?_eq_none this] at h
        cases h
      · exact ⟨b, h1, h2.of_ne (ne j e b hj h1 hji), h3⟩
  · have at' : ∀ {j : Nat} {d1 : D}, En.at (ρ.set i (.ow d')) j = .ow d1 → ∃ d2, ρ.at j = .ow d2 := fun {j d1} h1 => by
      rw [En.at_set] at h1
      split at h1
      · rename_i z
        rw [z.1]
        exact ⟨d, h⟩
      · exact ⟨d1, h1⟩
    obtain ⟨e1, g1⟩ := at' h1
    obtain ⟨e2, g2⟩ := at' h2
    exact S.inj j k e1 e2 b g1 g2 h3 h4
/-- an own slot is shared from now on -/
theorem Stt.frz (S : Stt K cl B F H ρ σ) {i : Nat} {d : D} (h : ρ.at i = .ow d) : ∃ F', Stt K cl B F' H (ρ.set i (.fz d)) σ ∧ Le F F' ∧ ∀ a, B a → F' a = F a := by
  obtain ⟨a, q1, q2, q3⟩ := S.ow i d h
  obtain ⟨o, h1, h2, h3⟩ := q2.share S.le
  refine ⟨upd F a o, ⟨fun b u e => ?_, S.bd, by rw [List.length_set]; exact S.len, fun j e hj => ?_, fun j e hj => ?_, fun j k d1 d2 b g1 g2 g3 g4 => ?_⟩, le_upd h2, fun b hb => upd_ne fun z => q3 (z ▸ hb)⟩
  · by_cases z : b = a
    · subst z
      rw [upd_same] at e
      cases e
      exact h1
    · rw [upd_ne z] at e
      exact S.le b u e
  · rw [En.at_set] at hj
    split at hj
    · rename_i z
      obtain ⟨rfl, z⟩ := z
      cases hj
      exact ⟨_, q1, h3⟩
    · obtain ⟨v, g1, g2⟩ := S.fz j e hj
      exact ⟨v, g1, g2.mono (le_upd h2)⟩
  · rw [En.at_set] at hj
    split at hj
    · cases hj
    · rename_i z
      obtain ⟨b, g1, g2, g3⟩ := S.ow j e hj
      by_cases hji : j = i
      · subst hji
        have : ρ.length ≤ j := Nat.le_of_not_lt fun q => z ⟨rfl, q⟩
        unfold En.at at h
        rw [List.getD_eq_getElem?_getD, List.getElem?_eq_none this] at h
        cases h
      · have nb : b ≠ a := fun q => by
          subst q
          exact hji (S.inj j i e d b hj h g1 q1)
        refine ⟨b, g1, ?_, g3⟩
        cases e with
        | list ds =>
          obtain ⟨vs, k1, k2, k3, k4⟩ := g2
          exact ⟨vs, k1, k2, k3.mono (le_upd h2), by rw [upd_ne nb]; exact k4⟩
        | _ => exact g2.elim
  · rw [En.at_set] at g1 g2
    split at g1
    · cases g1
    split at g2
    · cases g2
    exact S.inj j k d1 d2 b g1 g2 g3 g4
/-- a slot gets a new list of its own -/
theorem Stt.setow (S : Stt K cl B F H ρ σ) {i : Nat} {a : Addr} {d : D} (n : Own K cl F H a d) (nb : ¬ B a) (fr : ∀ j e, ρ.at j = .ow e → σ[j]? ≠ some (some (.ref a))) :
    Stt K cl B F H (ρ.set i (.ow d)) (σ.set i (some (.ref a))) := by
  have old : ∀ {j : Nat} {s : Sl}, s ≠ .un → ¬ (j = i ∧ i < ρ.length) → ρ.at j = s → j ≠ i := fun {j s} hs z hj q => by
    subst q
    have : ρ.length ≤ j := Nat.le_of_not_lt fun q => z ⟨rfl, q⟩
    unfold En.at at hj
    rw [List.getD_eq_getElem?_getD, List.getElem?_eq_none this] at hj
    exact hs hj.symm
  refine ⟨S.le, S.bd, by rw [List.length_set, List.length_set]; exact S.len, fun j e hj => ?_, fun j e hj => ?_, fun j k d1 d2 b g1 g2 g3 g4 => ?_⟩
  · rw [En.at_set] at hj
    split at hj
    · cases hj
    · rename_i z
      obtain ⟨v, g1, g2⟩ := S.fz j e hj
      exact ⟨v, by rw [List.getElem?_set_ne (Ne.symm (old (by simp) z hj))]; exact g1, g2⟩
  · rw [En.at_set] at hj
    split at hj
    · rename_i z
      obtain ⟨rfl, z⟩ := z
      cases hj
      exact ⟨a, List.getElem?_set_self (Nat.lt_of_lt_of_le z S.len), n, nb⟩
    · rename_i z
      obtain ⟨b, g1, g2, g3⟩ := S.ow j e hj
      exact ⟨b, by rw [List.getElem?_set_ne (Ne.symm (old (by simp) z hj))]; exact g1, g2, g3⟩
  · rw [En.at_set] at g1 g2
    by_cases z1 : j = i ∧ i < ρ.length
    · by_cases z2 : k = i ∧ i < ρ.length
      · rw [z1.1, z2.1]
      · rw [if_neg z2] at g2
        rw [List.getElem?_set_ne (Ne.symm (old (by simp) z2 g2))] at g4
        rw [z1.1, List.getElem?_set_self (Nat.lt_of_lt_of_le z1.2 S.len)] at g3
        cases g3
        exact absurd g4 (fr k d2 g2)
    · rw [if_neg z1] at g1
      rw [List.getElem?_set_ne (Ne.symm (old (by simp) z1 g1))] at g3
      by_cases z2 : k = i ∧ i < ρ.length
      · rw [z2.1, List.getElem?_set_self (Nat.lt_of_lt_of_le z2.2 S.len)] at g4
        cases g4
        exact absurd g3 (fr j d1 g1)
      · rw [if_neg z2] at g2
        rw [List.getElem?_set_ne (Ne.symm (old (by simp) z2 g2))] at g4
        exact S.inj j k d1 d2 b g1 g2 g3 g4
end
end Z

/-! Z3: the readings that the language's texts have, and when a text of the program is one of the language. -/
namespace Z
open PySem PySem.Spec PyProof.Rows L2

theorem LIM_eq : LIM = sizeLine := by rw [sizeLine_eq]; rfl
theorem _root_.L2.PE.zimp {X : Cx} {e : Expr} {t t' : TE} (h : PE X e t) (i : ∀ σ H Q, t' σ H Q → t σ H Q) : PE X e t' := ⟨fun pins s σ H Q I q => h.run pins s σ H Q I (i σ H Q q)⟩
theorem _root_.L2.PT.zimp {X : Cx} {e : Expr} {t t' : TT} (h : PT X e t) (i : ∀ σ H Q, t' σ H Q → t σ H Q) : PT X e t' := ⟨fun pins s σ H Q I q => h.run pins s σ H Q I (i σ H Q q)⟩
theorem _root_.L2.PW.zimp {X : Cx} {e : Expr} {t t' : TT} (h : PW X e t) (i : ∀ σ H Q, t' σ H Q → t σ H Q) : PW X e t' := ⟨fun w pins s σ H Q I q => h.run w pins s σ H Q I (i σ H Q q)⟩
theorem _root_.L2.PA.zimp {X : Cx} {es : List Expr} {t t' : TA} (h : PA X es t) (i : ∀ σ H Q, t' σ H Q → t σ H Q) : PA X es t' := ⟨fun pos pins s σ H Q I q => h.run pos pins s σ H Q I (i σ H Q q)⟩
theorem _root_.L2.PS.zimp {X : Cx} {e : Stmt} {t t' : TS} (h : PS X e t) (i : ∀ D σ H, t' D σ H → t D σ H) : PS X e t' := ⟨fun pins s σ H D I q => h.run pins s σ H D I (i D σ H q)⟩
theorem _root_.L2.PSs.zimp {X : Cx} {e : List Stmt} {t t' : TS} (h : PSs X e t) (i : ∀ D σ H, t' D σ H → t D σ H) : PSs X e t' := ⟨fun pins s σ H D I q => h.run pins s σ H D I (i D σ H q)⟩
theorem _root_.L2.PI.zimp {X : Cx} {g e : Expr} {t t' : TI} (h : PI X g e t) (i : ∀ σ H R, t' σ H R → t σ H R) : PI X g e t' := ⟨fun pins s σ H R I q => h.run pins s σ H R I (i σ H R q)⟩
theorem _root_.L2.PG.zimp {X : Cx} {g : Expr} {t t' : TG} (h : PG X g t) (i : ∀ v σ H Q, t' v σ H Q → t v σ H Q) : PG X g t' := ⟨fun pins s σ H v u Q I r q => h.run pins s σ H v u Q I r (i v σ H Q q)⟩

/-- what is known of the program's parts -/
structure Gm where
  T : Tab
  cl : Nat → Addr
  fa : Nat → Addr
  fd : Nat → FuncData
abbrev Gm.gs (G : Gm) : List Int := G.T.gls.map (·.2)
abbrev Gm.ev (G : Gm) (n : Nat) : E → En → Rs D := evE (callF G.T n) G.gs

mutual
def slotsT : Tg → List Nat
  | .nm i => [i]
  | .tup ts => slotsTs ts
def slotsTs : List Tg → List Nat
  | [] => []
  | t :: ts => slotsT t ++ slotsTs ts
end
section
variable (K : PySem.W.Frag) (G : Gm) (n : Nat) (W : WX)
/-- an error is what is wished for -/
def XC (c : Nat) (k : Int) (σ : L2.St) (F H : Hp) : Prop := ∀ F' H' dx, Ext F H F' H' → F' dx = some (exF k) → W (.ref (G.cl c)) (some dx) σ H'
inductive Md where
  | b | x | n
  deriving DecidableEq
end
section
variable (K : PySem.W.Frag) (cl : Nat → Addr)
/-- a value in one of the modes: b (looked at), x (may be shared) -/
def Val : Md → Hp → Hp → V → D → Prop
  | .b, F, H, v, d => Sh K cl F H v d
  | _, F, _, v, d => Rep K cl F v d
/-- what is wanted of a value d -/
def Post : Md → Hp → Hp → D → VK → Prop
  | .b, F, H, d, Q => ∀ v F' H', Ext F H F' H' → Sh K cl F' H' v d → Q v H'
  | .x, F, H, d, Q => ∀ v F' H', Ext F H F' H' → Rep K cl F' v d → Q v H'
  | .n, F, H, d, Q => ∀ a F' H', Ext F H F' H' → H a = none → Own K cl F' H' a d → Q (.ref a) H'
def Vals' : Md → Hp → Hp → List V → List D → Prop
  | _, _, _, [], [] => True
  | m, F, H, v :: vs, d :: ds => Val K cl m F H v d ∧ Vals' m F H vs ds
  | _, _, _, _, _ => False
end
section
variable (K : PySem.W.Frag) (G : Gm) (n : Nat) (W : WX)
def tM (m : Md) (e : E) : TE := fun σ H Q => ∃ B F ρ, Stt K G.cl B F H ρ σ ∧ match G.ev n e ρ with
  | .ok d => Post K G.cl m F H d Q
  | .er c k => XC G W c k σ F H
  | .bad => False
def tTs (e : E) : TT := fun σ H Q => ∃ B F ρ, Stt K G.cl B F H ρ σ ∧ match (G.ev n e ρ).bind tr with
  | .ok b => ∀ F' H', Ext F H F' H' → Q b H'
  | .er c k => XC G W c k σ F H
  | .bad => False
def tAs (m : Md) (es : List E) : TA := fun σ H Q => ∃ B F ρ, Stt K G.cl B F H ρ σ ∧ match evEs (callF G.T n) G.gs es ρ with
  | .ok ds => ∀ vs F' H', Ext F H F' H' → Vals' K G.cl m F' H' vs ds → Q vs H'
  | .er c k => XC G W c k σ F H
  | .bad => False
/-- what J walks: ds, while G0 stands -/
structure Wk (cl : Nat → Addr) (J : It) (G0 F : Hp) (ds : List D) : Prop where
  go : ∀ F' H' i, Le G0 H' → Le F F' → Le F' H' → i < ds.length → J.go i H' ∧ ∀ x H'', J.yld i H' x H'' → ∃ F'', Ext F' H' F'' H'' ∧ ∀ d, ds[i]? = some d → Rep K cl F'' x d
  stop : ∀ H' i, Le G0 H' → ds.length ≤ i → J.stop i H'
  len : ds.length ≤ LIM
def tIt (m : Md) (e : E) : TI := fun σ H R => ∃ B F ρ, Stt K G.cl B F H ρ σ ∧ match (G.ev n e ρ).bind items with
  | .ok ds => ∀ J F' H', Ext F H F' H' → Wk K G.cl J (match m with | .x => F' | _ => H') F' ds → R J H'
  | .er c k => XC G W c k σ F H
  | .bad => False
/-- a target -/
def tTg (tg : Tg) : TG := fun v σ H Q => ∃ B F ρ d, Stt K G.cl B F H ρ σ ∧ Rep K G.cl F v d ∧ ∃ ρ', bindT tg d ρ = .ok ρ' ∧ ∀ σ', Stt K G.cl B F H ρ' σ' → (∀ own : List Nat, (∀ i ∈ slotsT tg, i ∈ own) → L2.wipe σ' own = L2.wipe σ own) → Q σ' H
def tTgs (ts : List Tg) : TGs := fun vs σ H Q => ∃ B F ρ ds, Stt K G.cl B F H ρ σ ∧ Reps K G.cl F vs ds ∧ ∃ ρ', bindTs ts ds ρ = .ok ρ' ∧ ∀ σ', Stt K G.cl B F H ρ' σ' → (∀ own : List Nat, (∀ i ∈ slotsTs ts, i ∈ own) → L2.wipe σ' own = L2.wipe σ own) → Q σ' H
end

/-! ### which text is which -/
def visB (sc : Scope) (x : Str) : Bool := match sc.names.lookup x with
  | some .local => true
  | some .cell => true
  | some .free => true
  | _ => false
def locB (sc : Scope) (x : Str) : Bool := match sc.names.lookup x with
  | some .local => true
  | some .cell => true
  | _ => false
def glB (sc : Scope) (x : Str) : Bool := match sc.names.lookup x with
  | some .globalImplicit => true
  | _ => false
def nmOk (x : Str) : Bool := !(x == ("__debug__" : Str)) && !(x == ("__classdict__" : Str))
def bopIs : Bop → Operator → Bool
  | .add, .Add => true
  | .sub, .Sub => true
  | .mul, .Mult => true
  | .fdiv, .FloorDiv => true
  | .mod, .Mod => true
  | .pow, .Pow => true
  | _, _ => false
def copIs : Cop → CmpOp → Bool
  | .eq, .Eq => true
  | .ne, .NotEq => true
  | .lt, .Lt => true
  | .le, .LtE => true
  | .gt, .Gt => true
  | .ge, .GtE => true
  | .mem, .In => true
  | .nmem, .NotIn => true
  | _, _ => false
def copNum : Cop → Bool
  | .eq => true | .ne => true | .lt => true | .le => true | .gt => true | .ge => true
  | _ => false
def cstIs : D → Const → Bool
  | .int i, .int j => i == j
  | .none, .none => true
  | .bool a, .bool b => a == b
  | .str x, .str y => x == y
  | _, _ => false
def noSet : Expr → Bool
  | .Set .. => false
  | _ => true
def noSlice : Expr → Bool
  | .Slice .. => false
  | _ => true
/-- not an x if c else y, whose test is another -/
def noIte : E → Bool
  | .ite .. => false
  | _ => true
/-- it never ends with an own error -/
def noEr : E → Bool
  | .var _ => true
  | .bv _ => true
  | .c _ => true
  | _ => false
def idxB : List E → Bool
  | [_, b] => noEr b
  | _ => false
/-- the built-ins: name, is it a class -/
def biName : Bi → String
  | .len => "len" | .abs => "abs" | .min2 => "min" | .max2 => "max" | .minl => "min" | .maxl => "max" | .sum => "sum" | .int => "int" | .repr => "repr"
  | .all => "all" | .any => "any" | .list => "list" | .tuple => "tuple" | .sorted => "sorted" | .gcd => "gcd"
  | _ => ""
/-! ### targets; raw: the scope of a comprehension's block as it is written (none: a def's body) -/
def storeB (raw : Option Scope) (sc : Scope) (x : Str) : Bool := match raw with
  | none => locB sc x
  | some s => match s.names.lookup x with
    | some .local => true
    | some .cell => true
    | _ => false
mutual
def okTg (N : List Str) (sc : Scope) (raw : Option Scope) : Tg → Expr → Bool
  | .nm i, ast => match ast with
    | .Name x _ => decide (N[i]? = some x) && storeB raw sc x
    | _ => false
  | .tup ts, ast => match ast with
    | .Tuple ls _ _ => okTgs N sc raw ts ls
    | _ => false
def okTgs (N : List Str) (sc : Scope) (raw : Option Scope) : List Tg → List Expr → Bool
  | [], ls => ls.isEmpty
  | t :: ts, ls => match ls with
    | l :: ls => okTg N sc raw t l && okTgs N sc raw ts ls
    | [] => false
end
def isTup : Expr → Bool
  | .Tuple .. => true
  | _ => false
/-- the head of a comprehension: its own names, its target -/
def lcHd (N : List Str) (sc scope : Scope) (tg : Tg) (own : List Nat) (tgE itE : Expr) : Bool :=
  blkC N sc scope (own.map fun i => (N.getD i Str.empty, i)) && okTg N (relS scope sc) (some scope) tg tgE && (slotsT tg).all (fun i => decide (i ∈ own)) && noSet itE
/-- a written list of defs -/
def selB (T : Tab) (sc : Scope) : List Nat → List Expr → Bool
  | [], [] => true
  | f :: fs, .Name x _ :: ns => (match T.fns[f]? with
    | some fn => decide (fn.name = x) && !fn.fresh && glB sc x && nmOk x
    | none => false) && selB T sc fs ns
  | _, _ => false
def biOk (m : Md) : Bi → Bool
  | .list => true
  | .sorted => true
  | .len => decide (m ≠ .n) | .abs => decide (m ≠ .n) | .min2 => decide (m ≠ .n) | .max2 => decide (m ≠ .n) | .minl => decide (m ≠ .n) | .maxl => decide (m ≠ .n)
  | .sum => decide (m ≠ .n) | .int => decide (m ≠ .n) | .all => decide (m ≠ .n) | .any => decide (m ≠ .n) | .repr => decide (m ≠ .n) | .gcd => decide (m ≠ .n)
  | _ => false
mutual
def okE (T : Tab) (bl : List Str) (N : List Str) (sc : Scope) : Md → E → Expr → Bool
  | m, .var i, ast => match ast with
    | .Name x _ => decide (m ≠ .n) && decide (N[i]? = some x) && visB sc x && nmOk x
    | _ => false
  | m, .bv i, ast => match ast with
    | .Name x _ => decide (m = .b) && decide (N[i]? = some x) && visB sc x && nmOk x
    | _ => false
  | m, .c d, ast => match ast with
    | .Constant k _ _ => decide (m ≠ .n) && cstIs d k
    | _ => false
  | m, .gl i, ast => match ast with
    | .Name x _ => decide (m ≠ .n) && decide ((T.gls[i]?.map (·.1)) = some x) && glB sc x && nmOk x
    | _ => false
  | m, .bin op a b, ast => match ast with
    | .BinOp l o r _ => decide (m ≠ .n) && bopIs op o && okE T bl N sc .x a l && okE T bl N sc .x b r
    | _ => false
  | _, .cat a b, ast => match ast with
    | .BinOp l .Add r _ => okE T bl N sc .b a l && okE T bl N sc .b b r
    | _ => false
  | _, .rep a b, ast => match ast with
    | .BinOp l .Mult r _ => okE T bl N sc .n a l && okE T bl N sc .x b r
    | _ => false
  | m, .neg a, ast => match ast with
    | .UnaryOp .USub l _ => decide (m ≠ .n) && okE T bl N sc .x a l
    | _ => false
  | m, .not a, ast => match ast with
    | .UnaryOp .Not l _ => decide (m ≠ .n) && noIte a && okE T bl N sc .b a l
    | _ => false
  | m, .ands es, ast => match ast with
    | .BoolOp .And ls _ => decide (m ≠ .n) && !es.isEmpty && es.all noIte && okEs T bl N sc .x es ls
    | _ => false
  | m, .ors es, ast => match ast with
    | .BoolOp .Or ls _ => decide (m ≠ .n) && !es.isEmpty && es.all noIte && okEs T bl N sc .x es ls
    | _ => false
  | m, .cmp op a b, ast => match op with
    | .isN => match ast with
      | .Compare l [.Is] [.Constant .none _ _] _ => decide (m ≠ .n) && okE T bl N sc .b a l && (match b with | .c .none => true | _ => false)
      | _ => false
    | .notN => match ast with
      | .Compare l [.IsNot] [.Constant .none _ _] _ => decide (m ≠ .n) && okE T bl N sc .b a l && (match b with | .c .none => true | _ => false)
      | _ => false
    | op => match ast with
      | .Compare l [o] [r] _ => decide (m ≠ .n) && copIs op o && noSet r && okE T bl N sc .b a l && okE T bl N sc .b b r
      | _ => false
  | m, .chain o1 o2 a b c, ast => match ast with
    | .Compare l [p1, p2] [r1, r2] _ => decide (m ≠ .n) && copIs o1 p1 && copIs o2 p2 && copNum o1 && copNum o2 && noSet r2 && okE T bl N sc .b a l && okE T bl N sc .b b r1 && okE T bl N sc .b c r2
    | _ => false
  | m, .ite c a b, ast => match ast with
    | .IfExp t l r _ => decide (m ≠ .n) && noIte c && okE T bl N sc .b c t && okE T bl N sc .x a l && okE T bl N sc .x b r
    | _ => false
  | _, .lst es, ast => match ast with
    | .List ls _ => okEs T bl N sc .x es ls
    | _ => false
  | m, .tup es, ast => match ast with
    | .Tuple ls _ _ => decide (m ≠ .n) && okEs T bl N sc .x es ls
    | _ => false
  | m, .ix a i, ast => match ast with
    | .Subscript l r _ => decide (m ≠ .n) && noSlice r && okE T bl N sc .b a l && okE T bl N sc .x i r
    | _ => false
  | _, .sl a lo hi, ast => match ast with
    | .Subscript l (.Slice x y none _) _ => okE T bl N sc .b a l && okO T bl N sc lo x && okO T bl N sc hi y
    | _ => false
  | m, .call f es, ast => match ast with
    | .Call (.Name x _) (l :: ls) [] _ => (match T.fns[f]? with
      | some fn => decide (fn.name = x) && (decide (m ≠ .n) || fn.fresh) && glB sc x && nmOk x && okEs T bl N sc .x es (l :: ls)
      | none => false)
    | _ => false
  | m, .sel fs i es, ast => match ast with
    | .Call (.Subscript (.List ns _) ix _) (l :: ls) [] _ => decide (m ≠ .n) && decide (fs.length ≤ LIM) && selB T sc fs ns && noSlice ix && okE T bl N sc .x i ix && okEs T bl N sc .x es (l :: ls)
    | _ => false
  | m, .bi f es, ast => match ast with
    | .Call (.Name x _) (l :: ls) [] _ => decide (x ∈ bl) && decide (x = Str.ofString (biName f)) && glB sc x && nmOk x && biOk m f && okEs T bl N sc .b es (l :: ls)
    | .Call (.Attribute (.Name x q) y p) [r] [] c => decide (m ≠ .n) && decide (f = .index) && decide (y = ("index" : Str)) && (p.endLine == c.line) && idxB es && okEs T bl N sc .b es [.Name x q, r]
    | _ => false
  | m, .eat a, ast => match ast with
    | .Attribute (.Name x p) f _ => decide (m ≠ .n) && decide (f = ("at" : Str)) && okE T bl N sc .x a (.Name x p)
    | _ => false
  | _, .lr1 a, ast => match ast with
    | .Call (.Name x _) [.Call (.Name y _) [l] [] _] [] _ => decide (x = ("list" : Str)) && decide (y = ("range" : Str)) && decide (x ∈ bl) && decide (y ∈ bl) && glB sc x && glB sc y && okE T bl N sc .x a l
    | _ => false
  | _, .lr2 a b, ast => match ast with
    | .Call (.Name x _) [.Call (.Name y _) [l, r] [] _] [] _ => decide (x = ("list" : Str)) && decide (y = ("range" : Str)) && decide (x ∈ bl) && decide (y ∈ bl) && glB sc x && glB sc y && okE T bl N sc .x a l && okE T bl N sc .x b r
    | _ => false
  | _, .rng1 _, _ => false
  | _, .rng2 _ _, _ => false
  | _, .enum _, _ => false
  | _, .zip _ _, _ => false
  | _, .lc tg own it cs e, ast => match ast with
    | .ListComp el [⟨tgE, itE, ifs, k⟩] scope _ => decide (k = 0) && lcHd N sc scope tg own tgE itE && okTs T bl N (relS scope sc) cs ifs && okE T bl N (relS scope sc) .x e el &&
      (match it with
       | .rng1 a => (match itE with
         | .Call (.Name x _) [l] [] _ => decide (x = ("range" : Str)) && decide (x ∈ bl) && glB sc x && okE T bl N sc .x a l
         | _ => false)
       | .rng2 a b => (match itE with
         | .Call (.Name x _) [l, r] [] _ => decide (x = ("range" : Str)) && decide (x ∈ bl) && glB sc x && okE T bl N sc .x a l && okE T bl N sc .x b r
         | _ => false)
       | .enum a => (match itE with
         | .Call (.Name x _) [l] [] _ => decide (x = ("enumerate" : Str)) && decide (x ∈ bl) && glB sc x && isTup tgE && okE T bl N sc .x a l
         | _ => false)
       | .zip a b => (match itE with
         | .Call (.Name x _) [l, r] [] _ => decide (x = ("zip" : Str)) && decide (x ∈ bl) && glB sc x && isTup tgE && okE T bl N sc .x a l && okE T bl N sc .x b r
         | _ => false)
       | it => okE T bl N sc .b it itE)
    | _ => false
def okEs (T : Tab) (bl : List Str) (N : List Str) (sc : Scope) : Md → List E → List Expr → Bool
  | _, [], ls => ls.isEmpty
  | m, e :: es, ls => match ls with
    | l :: ls => okE T bl N sc m e l && okEs T bl N sc m es ls
    | [] => false
/-- a clause's tests: none or one -/
def okTs (T : Tab) (bl : List Str) (N : List Str) (sc : Scope) : List E → List Expr → Bool
  | [], ls => ls.isEmpty
  | e :: es, ls => match ls with
    | [l] => es.isEmpty && noIte e && okE T bl N sc .b e l
    | _ => false
def okO (T : Tab) (bl : List Str) (N : List Str) (sc : Scope) : Option E → Option Expr → Bool
  | none, l => l.isNone
  | some e, l => match l with
    | some l => okE T bl N sc .x e l
    | none => false
end
/-- what a for walks -/
def okIt (T : Tab) (bl : List Str) (N : List Str) (sc : Scope) (m : Md) (it : E) (tgE itE : Expr) : Bool := match it with
  | .rng1 a => (match itE with
    | .Call (.Name x _) [l] [] _ => decide (x = ("range" : Str)) && decide (x ∈ bl) && glB sc x && okE T bl N sc .x a l
    | _ => false)
  | .rng2 a b => (match itE with
    | .Call (.Name x _) [l, r] [] _ => decide (x = ("range" : Str)) && decide (x ∈ bl) && glB sc x && okE T bl N sc .x a l && okE T bl N sc .x b r
    | _ => false)
  | .enum a => (match itE with
    | .Call (.Name x _) [l] [] _ => decide (x = ("enumerate" : Str)) && decide (x ∈ bl) && glB sc x && isTup tgE && okE T bl N sc .x a l
    | _ => false)
  | .zip a b => (match itE with
    | .Call (.Name x _) [l, r] [] _ => decide (x = ("zip" : Str)) && decide (x ∈ bl) && glB sc x && isTup tgE && okE T bl N sc .x a l && okE T bl N sc .x b r
    | _ => false)
  | it => okE T bl N sc m it itE
theorem okE_lc (T : Tab) (bl : List Str) (N : List Str) (sc : Scope) (m : Md) (tg : Tg) (own : List Nat) (it : E) (cs : List E) (e : E) (el tgE itE : Expr) (ifs : List Expr) (k : Int) (scope : Scope) (p : Pos) :
    okE T bl N sc m (.lc tg own it cs e) (.ListComp el [⟨tgE, itE, ifs, k⟩] scope p) = (decide (k = 0) && lcHd N sc scope tg own tgE itE && okTs T bl N (relS scope sc) cs ifs && okE T bl N (relS scope sc) .x e el && okIt T bl N sc .b it tgE itE) := by
  cases it <;> rfl
end Z

/-! Zg: promises of defs that may ask for repr (nothing is being shown around them). -/
namespace Z
open PySem PySem.Spec PyProof.Rows L2

structure FnG (P : Program) (w : World) (K : PySem.W.Frag) (mg : Str → Option Value) (base : Heap) (cx : CXT) (k : Nat) (f : Addr) (fd : FuncData) (ps : List Str) (sp : Sp) : Prop where
  len : ∀ {vs : List V} {H : Hp} {Q : VK} {E : XK}, sp vs H Q E → vs.length = ps.length
  run : ∀ {A : Around} {out : List Env} {s : Shared} {H : Hp} {args : Args} {us : List Value} {vs : List V} {Q : VK} {E : XK}, Room k A → A.guards = some [] → Env0 P w K mg base A out s H →
    BindsTo s fd args (ps.zip us) → Vals vs us → sp vs H Q E → codeAny (model P w) A (.call (.ref f) args) (CR cx out P w H s Q E) s
section
variable {X : Cx} {cx : CXT} {k : Nat} {f : Addr} {fd : FuncData} {ps : List Str} {sp : Sp} {E : L2.St → XK} {x : Str} {p pos : Pos} {e : Expr} {es : List Expr} {t : TA}
theorem runG {pins : List (Addr × Obj)} {σ : L2.St} {H : Hp} {s : Shared} {Q : VK} {us : List Value} {vs : List V} (F : FnG X.prog X.w X.K X.mg X.base cx k f fd ps sp) (hr : Room k X.A) (hg : X.A.guards = some [])
    (hb : Binds X.K fd ps []) (hx : PassesAt cx X σ (E σ)) (I : Inv X pins σ H s) (r : Vals vs us) (h : sp vs H Q (E σ)) : wpAny (model X.prog X.w) X.A (call (.ref f) us) (EP X pins σ Q) X.xe s := by
  have bd : BindsTo s fd ⟨us, []⟩ (ps.zip us) := by
    have z := hb s us I.kIn (by rw [List.append_nil, ← r.length]; exact F.len h)
    rwa [List.append_nil] at z
  refine wpAny_call (codeAny_mono (F.run hr hg I.env0 bd r h) fun res s' q => ?_)
  cases res with
  | error er => exact hx pins H s er s' I q
  | ok fl => cases fl <;> first | exact I.after q | exact False.elim q
theorem pe_callG (F : FnG X.prog X.w X.K X.mg X.base cx k f fd ps sp) (hr : Room k X.A) (hgd : X.A.guards = some []) (hg : Gl X x) (hm : X.mg x = some (.ref f)) (hk : PySem.W.keepIn X.K (.ref f) = true) (hb : Binds X.K fd ps [])
    (hx : ∀ σ, PassesAt cx X σ (E σ)) (ha : PA X (e :: es) t) (hdb : (x == ("__debug__" : Str)) = false) (he : starEach (e :: es) X.env = (false, eval e X.env) :: starEach es X.env)
    (hpl : (backTo pos (starEach es X.env)).any (·.1) = false) : PE X (.Call (.Name x p) (e :: es) [] pos) (tCallS sp E t) :=
  ⟨fun pins s σ H Q I h => wpAny_Call_Name_kw (ld_glob I hg hm (PySem.W.callWith_K (h₀ := X.base) I.ok.mod.kin hk
    (thn (ha.run pos pins s σ H _ I h) fun us s1 ⟨vs, H1, I1, r, q⟩ => ⟨I1.kIn, runG F hr hgd hb (hx σ) I1 r q⟩) he hpl) hdb)⟩
end
/-- a def of the text by its body -/
theorem fnG_of {cx : CXT} {P : Program} {w : World} {K : PySem.W.Frag} {mg : Str → Option Value} {base : Heap} {k : Nat} {f : Addr} {name qual : Str} {params : Arguments} {body : List Stmt} {sc : Scope} {dV kV doc pm cdv ct oc : Value} {an od : Option Addr}
    {osl : Array (Option Value)} {N ps : List Str} {sp : Sp} (lk : K.lookup f = some ⟨oc, od, .func (PySem.W.fnOf name qual params body sc dV kV doc pm an cdv ct), osl⟩) (hcd : PySem.W.codeIn K cdv qual = true) (S : FnScope N ps sc)
    (len : ∀ {vs : List V} {H : Hp} {Q : VK} {E : XK}, sp vs H Q E → vs.length = ps.length)
    (hbody : ∀ (A : Around) (out : List Env) (s : Shared) (H : Hp) (vs : List V) (Q : VK) (E : XK), Room k (A.deeper (envOfC qual sc s.heap.objs.size f cdv)) → A.guards = some [] → sp vs H Q E →
      ∃ t, PSs (cxOf cx P w K mg base N qual sc f cdv A out s H E) body t ∧ t { nx := fun _ H' => Q .non H', rt := Q } (start N vs) H) :
    FnG P w K mg base cx (k + 1) f (PySem.W.fnOf name qual params body sc dV kV doc pm an cdv ct) ps sp := by
  refine ⟨len, fun {A out s H args us vs Q E} hr hg e0 hb r hsp => ?_⟩
  have room := hr
  have want := hsp
  have KX : K.In s.heap := e0.mod.kin.keeps fun b o q => (e0.bs b o q).1
  have lim : s.heap.NoLimit := e0.mod.nolimit.keeps fun b o q => (e0.bs b o q).1
  have kinds : ∀ y ∈ ps.zip us, sc.names.lookup y.1 = some .local ∨ (sc.names.lookup y.1 = some .cell ∧ ((cellsFrom (s.heap.objs.size + 1) sc.names []).lookup y.1).isSome = true) := by
    intro y hy
    have hp : y.1 ∈ ps := (List.of_mem_zip (a := y.1) (b := y.2) hy).1
    cases S.par y.1 hp with
    | inl q => exact .inl q
    | inr q => exact .inr ⟨q, PySem.W.cellsFrom_some _ _ _ (.inl q)⟩
  refine codeAny_call_function room.depth (KX f _ lk) rfl S.co S.gen rfl (PySem.W.codeRec_of KX hcd) (hb _ _ _ _ (wpAny_newFunctionEnv_cells S.kind kinds ?_))
  intro env he s1 x
  cases he
  refine ⟨lim.keeps x.toInCall.keep, codeAny_func ?_⟩
  obtain ⟨t, ht, hq⟩ := hbody A out s H vs Q E (room.deeper _) hg want
  have I := inv_start (CX := cx) (E := E) S room.hd e0 (len want) r x
  refine wpAny_mono (ht.run [] s1 (start N vs) H _ I hq) (fun fl s' hs => ?_) fun _ _ z => z
  cases fl with
  | ret u =>
    obtain ⟨v, _, H', J, rv, q⟩ := hs
    exact ⟨v, H', J.os, J.bare, J.base, J.hok, rv, q⟩
  | next =>
    obtain ⟨_, H', J, q⟩ := hs
    exact ⟨V.non, H', J.os, J.bare, J.base, J.hok, rfl, q⟩
  | brk => exact hs.elim fun _ z => z.elim fun _ z => z.2.elim
  | cont => exact hs.elim fun _ z => z.elim fun _ z => z.2.elim
end Z

/-! Z4: each form of expression keeps its reading. -/
namespace Z
open PySem PySem.Spec PyProof.Rows L2

section
variable {K : PySem.W.Frag} {cl : Nat → Addr} {F F' H H' : Hp} {m : Md} {v : V} {d : D} {Q : VK}
theorem Sh.ext (x : Ext F H F' H') (r : Sh K cl F H v d) : Sh K cl F' H' v d := by
  cases d with
  | list ds =>
    obtain ⟨a, vs, e, h, z, r⟩ := r
    exact ⟨a, vs, e, x.same.rd h, z, r.mono x.up⟩
  | tuple ds =>
    obtain ⟨a, vs, e, h, z, r⟩ := r
    exact ⟨a, vs, e, x.same.sqT h, z, r.mono x.up⟩
  | none => exact Rep.mono x.up r
  | bool b => exact Rep.mono x.up r
  | int b => exact Rep.mono x.up r
  | str b => exact Rep.mono x.up r
  | dict b => exact Rep.mono x.up r
theorem Val.ext (x : Ext F H F' H') : ∀ {m : Md}, Val K cl m F H v d → Val K cl m F' H' v d
  | .b, r => Sh.ext x r
  | .x, r => Rep.mono x.up r
  | .n, r => Rep.mono x.up r
theorem Vals'.ext (x : Ext F H F' H') : ∀ {vs : List V} {ds : List D}, Vals' K cl m F H vs ds → Vals' K cl m F' H' vs ds
  | [], [], _ => trivial
  | v :: vs, d :: ds, h => ⟨Val.ext x h.1, Vals'.ext x h.2⟩
  | [], _ :: _, h => h.elim
  | _ :: _, [], h => h.elim
theorem Vals'.reps : ∀ {vs : List V} {ds : List D}, Vals' K cl .x F H vs ds → Reps K cl F vs ds
  | [], [], _ => .nil
  | v :: vs, d :: ds, h => .cons h.1 (Vals'.reps h.2)
  | [], _ :: _, h => h.elim
  | _ :: _, [], h => h.elim
theorem Post.step (x : Ext F H F' H') (p : Post K cl m F H d Q) : Post K cl m F' H' d Q := by
  cases m with
  | b => exact fun v F2 H2 y r => p v F2 H2 (x.trans y) r
  | x => exact fun v F2 H2 y r => p v F2 H2 (x.trans y) r
  | n => exact fun a F2 H2 y n r => p a F2 H2 (x.trans y) (by
      cases q : H a with
      | none => rfl
      | some o => rw [x.same a o q] at n; cases n) r
/-- a value that may be shared will do, but for a new list -/
theorem Post.val (hm : m ≠ .n) (l : Le F H) (p : Post K cl m F H d Q) (r : Rep K cl F v d) : Q v H := by
  cases m with
  | b => exact p v F H (.refl l) (r.sh l)
  | x => exact p v F H (.refl l) r
  | n => exact absurd rfl hm
/-- a new list will do, whatever is wanted -/
theorem Post.new {a : Addr} {vs : List V} {ds : List D} (l : Le F H) (p : Post K cl m F H (.list ds) Q) (n : H a = none) (z : vs.length ≤ LIM) (r : Reps K cl F vs ds) : Q (.ref a) (upd H a (.lst vs)) := by
  have s : Rd (upd F a (.lst vs)) a (.lst vs) := .inl upd_same
  cases m with
  | b => exact p _ _ _ (.new l n) ⟨a, vs, rfl, .inl upd_same, z, r.mono (le_upd (l.none n))⟩
  | x => exact p _ _ _ (.new l n) (.lst s z (r.mono (le_upd (l.none n))))
  | n => exact p a F _ (.own l n) n ⟨vs, upd_same, z, r, l.none n⟩
theorem Post.of_own {a : Addr} (hl : Le F H) (p : Post K cl m F H d Q) {F1 H1 : Hp} (x : Ext F H F1 H1) (n : H a = none) (o : Own K cl F1 H1 a d) : Q (.ref a) H1 := by
  cases m with
  | b => exact p _ _ _ x o.sh
  | x =>
    obtain ⟨ob, h1, h2, h3⟩ := o.share x.le
    exact p _ _ _ (x.share n h1 h2) h3
  | n => exact p a _ _ x n o
theorem Post.mk (hm : m ≠ .n) (h : ∀ v F' H', Ext F H F' H' → Val K cl m F' H' v d → Q v H') : Post K cl m F H d Q := by
  cases m with
  | b => exact h
  | x => exact h
  | n => exact absurd rfl hm
end

/-- the context in which the texts are read -/
structure Cn (G : Gm) (bl : List Str) (n : Nat) (W : WX) (X : Cx) : Prop where
  calm : X.calm = true
  nd : X.N.Nodup
  room : Room n X.A
  gd : X.A.guards = some []
  blt : ∀ x ∈ bl, x ≠ ("gcd" : Str) → X.mg x = none
  gcd : ("gcd" : Str) ∈ bl → X.mg "gcd" = some (.builtin "math.gcd")
  gl : ∀ (j : Nat) (p : Str × Int), G.T.gls[j]? = some p → ∃ t, X.mg p.1 = some (Value.int p.2 t)
  fn : ∀ (j : Nat) (f : Fn), G.T.fns[j]? = some f → X.mg f.name = some (.ref (G.fa j)) ∧ PySem.W.keepIn X.K (.ref (G.fa j)) = true ∧ Binds X.K (G.fd j) (f.N.take f.np) [] ∧ (f.N.take f.np).length = f.np
  ok : ∀ (j : Nat) (f : Fn), G.T.fns[j]? = some f → FnG X.prog X.w X.K X.mg X.base (CX X.prog X.w) n (G.fa j) (G.fd j) (f.N.take f.np) fun vs H Q E =>
    ∃ F ds, Le F H ∧ Reps X.K G.cl F vs ds ∧ vs.length = (f.N.take f.np).length ∧ match callF G.T n j ds with
      | .ok d => Post X.K G.cl (if f.fresh then .n else .x) F H d Q
      | .er c k => ∀ F' H' dx, Ext F H F' H' → F' dx = some (exF k) → E (.ref (G.cl c)) (some dx) H'
      | .bad => False
  xf : ∀ c, XfC X.K (G.cl c) ∧ PySem.W.findIn X.K (.ref (G.cl c)) "at" = some none
  pa : ∀ σ, PassesAt (CX X.prog X.w) X σ fun cls d H => W cls d σ H

section
variable {G : Gm} {bl : List Str} {n : Nat} {W : WX} {X : Cx} {a b : E} {m ma mb : Md}
/-- two parts, then an operation by values -/
theorem cmb2 {e : E} {r : R2} {f : D → D → Rs D} (ha : ma ≠ .n) (hb : mb ≠ .n) (he : ∀ ρ, G.ev n e ρ = (G.ev n a ρ).bind fun x => (G.ev n b ρ).bind fun y => f x y) (ne : ∀ x y c k, f x y ≠ .er c k)
    (hr : ∀ F H v u x y d Q, Le F H → Val X.K G.cl ma F H v x → Val X.K G.cl mb F H u y → f x y = .ok d → Post X.K G.cl m F H d Q → r v u H Q) :
    ∀ σ H Q, tM X.K G n W m e σ H Q → tOp r (tM X.K G n W ma a) (tM X.K G n W mb b) σ H Q := by
  intro σ H Q h
  obtain ⟨B, F, ρ, S, h⟩ := h
  rw [he] at h
  refine ⟨B, F, ρ, S, ?_⟩
  cases ea : G.ev n a ρ with
  | bad => rw [ea] at h; exact h
  | er c k => rw [ea] at h; exact h
  | ok x =>
    rw [ea] at h
    refine Post.mk ha fun v F1 H1 x1 r1 => ⟨B, F1, ρ, S.ext x1, ?_⟩
    cases eb : G.ev n b ρ with
    | bad => rw [eb] at h; exact h
    | er c k => rw [eb] at h; exact fun F2 H2 dx y => h F2 H2 dx (x1.trans y)
    | ok y =>
      rw [eb] at h
      refine Post.mk hb fun u F2 H2 x2 r2 => ?_
      cases ef : f x y with
      | bad => simp only [Rs.bind_ok, ef] at h
      | er c k => exact absurd ef (ne _ _ _ _)
      | ok d =>
        simp only [Rs.bind_ok, ef] at h
        exact hr F2 H2 v u x y d Q x2.le (r1.ext x2) r2 ef (h.step (x1.trans x2))
theorem cmb1 {e : E} {r : V → Hp → VK → Prop} {f : D → Rs D} (ha : ma ≠ .n) (he : ∀ ρ, G.ev n e ρ = (G.ev n a ρ).bind f) (ne : ∀ x c k, f x ≠ .er c k)
    (hr : ∀ F H v x d Q, Le F H → Val X.K G.cl ma F H v x → f x = .ok d → Post X.K G.cl m F H d Q → r v H Q) :
    ∀ σ H Q, tM X.K G n W m e σ H Q → tUn r (tM X.K G n W ma a) σ H Q := by
  intro σ H Q h
  obtain ⟨B, F, ρ, S, h⟩ := h
  rw [he] at h
  refine ⟨B, F, ρ, S, ?_⟩
  cases ea : G.ev n a ρ with
  | bad => rw [ea] at h; exact h
  | er c k => rw [ea] at h; exact h
  | ok x =>
    rw [ea] at h
    refine Post.mk ha fun v F1 H1 x1 r1 => ?_
    cases ef : f x with
    | bad => simp only [Rs.bind_ok, ef] at h
    | er c k => exact absurd ef (ne _ _ _)
    | ok d =>
      simp only [Rs.bind_ok, ef] at h
      exact hr F1 H1 v x d Q x1.le r1 ef (h.step x1)
/-- a list of parts -/
theorem cmbs {es : List E} {e : E} {r : List V → Hp → VK → Prop} {f : List D → Rs D} (he : ∀ ρ, G.ev n e ρ = (evEs (callF G.T n) G.gs es ρ).bind f) (ne : ∀ x c k, f x ≠ .er c k)
    (hr : ∀ F H vs ds d Q, Le F H → Vals' X.K G.cl ma F H vs ds → f ds = .ok d → Post X.K G.cl m F H d Q → r vs H Q) :
    ∀ σ H Q, tM X.K G n W m e σ H Q → tAs X.K G n W ma es σ H fun vs H1 => r vs H1 Q := by
  intro σ H Q h
  obtain ⟨B, F, ρ, S, h⟩ := h
  rw [he] at h
  refine ⟨B, F, ρ, S, ?_⟩
  cases ea : evEs (callF G.T n) G.gs es ρ with
  | bad => rw [ea] at h; exact h
  | er c k => rw [ea] at h; exact h
  | ok ds =>
    rw [ea] at h
    refine fun vs F1 H1 x1 r1 => ?_
    cases ef : f ds with
    | bad => simp only [Rs.bind_ok, ef] at h
    | er c k => exact absurd ef (ne _ _ _)
    | ok d =>
      simp only [Rs.bind_ok, ef] at h
      exact hr F1 H1 vs ds d Q x1.le r1 ef (h.step x1)

/-! ### what stands in the heap, by data -/
theorem Val.int {K : PySem.W.Frag} {cl : Nat → Addr} {F H : Hp} {v : V} {i : Int} : ∀ {m : Md}, Val K cl m F H v (.int i) → v = .int i
  | .b, h => by cases (show Rep K cl F v (.int i) from h) with | int => rfl
  | .x, h => by cases (show Rep K cl F v (.int i) from h) with | int => rfl
  | .n, h => by cases (show Rep K cl F v (.int i) from h) with | int => rfl
theorem Val.bool {K : PySem.W.Frag} {cl : Nat → Addr} {F H : Hp} {v : V} {i : Bool} : ∀ {m : Md}, Val K cl m F H v (.bool i) → v = .bl i
  | .b, h => by cases (show Rep K cl F v (.bool i) from h) with | bl => rfl
  | .x, h => by cases (show Rep K cl F v (.bool i) from h) with | bl => rfl
  | .n, h => by cases (show Rep K cl F v (.bool i) from h) with | bl => rfl
theorem Val.rep {K : PySem.W.Frag} {cl : Nat → Addr} {F H : Hp} {v : V} {d : D} (l : Le F H) : ∀ {m : Md}, Val K cl m F H v d → Rep K cl H v d
  | .b, h => Sh.rep l h
  | .x, h => Rep.mono l h
  | .n, h => Rep.mono l h
theorem Val.sh {K : PySem.W.Frag} {cl : Nat → Addr} {F H : Hp} {v : V} {d : D} (l : Le F H) : ∀ {m : Md}, Val K cl m F H v d → Sh K cl F H v d
  | .b, h => h
  | .x, h => Rep.sh l h
  | .n, h => Rep.sh l h
theorem Post.int {K : PySem.W.Frag} {cl : Nat → Addr} {F H : Hp} {i : Int} {Q : VK} (hm : m ≠ .n) (l : Le F H) (p : Post K cl m F H (.int i) Q) : Q (.int i) H := p.val hm l (.int i)
theorem Post.bool {K : PySem.W.Frag} {cl : Nat → Addr} {F H : Hp} {i : Bool} {Q : VK} (hm : m ≠ .n) (l : Le F H) (p : Post K cl m F H (.bool i) Q) : Q (.bl i) H := p.val hm l (.bl i)
mutual
theorem Rep.dp {K : PySem.W.Frag} {cl : Nat → Addr} {H : Hp} : ∀ {v : V} {d : D}, Rep K cl H v d → d.canLay0 = true → Dp K H v d
  | _, _, .non, _ => .non
  | _, _, .bl b, _ => .bl b
  | _, _, .int i, _ => .int i
  | _, _, .str x, _ => .str x
  | _, _, .lst h z r, e => .lst (.inl h) (Reps.dp r (by simpa [PyData.canLay0] using e))
  | _, _, .scr h z r, e => by simp [scD, PyData.canLay0] at e
  | _, _, .tup h z r, e => .tup h (Reps.dp r (by simpa [PyData.canLay0] using e))
  | _, _, .exc h g, e => by simp [exD, PyData.canLay0] at e
theorem Reps.dp {K : PySem.W.Frag} {cl : Nat → Addr} {H : Hp} : ∀ {vs : List V} {ds : List D}, Reps K cl H vs ds → PyData.canLayAll0 ds = true → DpAll K H vs ds
  | _, _, .nil, _ => .nil
  | _, _, .cons h r, e => by
    simp only [PyData.canLayAll0, Bool.and_eq_true] at e
    exact .cons (Rep.dp h e.1) (Reps.dp r e.2)
end
theorem eqOk_lay {d : D} (h : eqOk d = true) : d.canLay0 = true := SeqAt.canLay_of_shaped h

/-! ### operators -/
def rBin (op : Bop) : R2 := fun x y H Q => ∃ i j r, x = .int i ∧ y = .int j ∧ evBin op (.int i) (.int j) = .ok (.int r) ∧ Q (.int r) H
theorem binR {op : Bop} {o : Operator} (h : bopIs op o = true) : OpR X (binaryOp o) (rBin op) := by
  intro pins s σ H x y v u Q I rx ry q
  obtain ⟨i, j, r, rfl, rfl, e, q⟩ := q
  obtain ⟨t, rfl⟩ := rx
  obtain ⟨t', rfl⟩ := ry
  cases op with
  | add =>
    cases o <;> first | cases h | skip
    have e' : r = i + j := by simpa [evBin] using e.symm
    exact add_int ⟨.int _, H, I.tok _, ⟨_, rfl⟩, by rw [← e']; exact q⟩
  | sub =>
    cases o <;> first | cases h | skip
    have e' : r = i - j := by simpa [evBin] using e.symm
    exact sub_int ⟨.int _, H, I.tok _, ⟨_, rfl⟩, by rw [← e']; exact q⟩
  | mul =>
    cases o <;> first | cases h | skip
    simp only [evBin] at e
    split at e
    · rename_i hm
      have e' : i * j = r := by simpa using e
      exact mul_int ⟨.int _, H, I.tok _, ⟨_, rfl⟩, by rw [e']; exact q⟩ (CMulW.ok (show CMulW i j from of_decide_eq_true (p := i.natAbs.log2 + j.natAbs.log2 < 1000000) hm))
    · cases e
  | fdiv =>
    cases o <;> first | cases h | skip
    simp only [evBin] at e
    split at e
    · rename_i hm
      have hm' : j ≠ 0 ∧ j.natAbs.log2 < 9000 := of_decide_eq_true hm
      have e' : i.fdiv j = r := by simpa using e
      exact floordiv_int hm'.1 ⟨.int _, H, I.tok _, ⟨_, rfl⟩, by rw [e']; exact q⟩ (.inl (PyProof.noPylong_of_log2 hm'.2))
    · cases e
  | mod =>
    cases o <;> first | cases h | skip
    simp only [evBin] at e
    split at e
    · cases e
    · rename_i hm
      have e' : i.fmod j = r := by simpa using e
      exact mod_int' hm ⟨.int _, H, I.tok _, ⟨_, rfl⟩, by rw [e']; exact q⟩
  | pow =>
    cases o <;> first | cases h | skip
    simp only [evBin] at e
    split at e
    · rename_i hm
      have e' : i ^ j.toNat = r := by simpa using e
      exact pow_int_small hm.1 hm.2.1 hm.2.2 ⟨.int _, H, I.tok _, ⟨_, rfl⟩, by rw [e']; exact q⟩
    · cases e
  | _ => cases o <;> cases h
theorem evBin_int {op : Bop} {x y d : D} (h : evBin op x y = .ok d) : ∃ i j r, x = .int i ∧ y = .int j ∧ d = .int r := by
  cases op <;> cases x <;> cases y <;> simp only [evBin] at h <;> first
    | (cases h; done)
    | (cases h; exact ⟨_, _, _, rfl, rfl, rfl⟩)
    | (split at h <;> first | (cases h; done) | (cases h; exact ⟨_, _, _, rfl, rfl, rfl⟩))
theorem evBin_er {op : Bop} {x y : D} {c : Nat} {k : Int} : evBin op x y ≠ .er c k := by
  intro h
  cases op <;> cases x <;> cases y <;> simp only [evBin] at h <;> first | cases h | (split at h <;> cases h)
theorem pe_bin {op : Bop} {o : Operator} {l r : Expr} {pos : Pos} (hm : m ≠ .n) (h : bopIs op o = true) (ha : PE X l (tM X.K G n W .x a)) (hb : PE X r (tM X.K G n W .x b)) : PE X (.BinOp l o r pos) (tM X.K G n W m (.bin op a b)) :=
  (pe_op (binR h) ha hb).zimp (cmb2 (f := evBin op) (by decide) (by decide) (fun _ => rfl) (fun _ _ _ _ => evBin_er) fun F H v u x y d Q l hv hu e p => by
    obtain ⟨i, j, r, rfl, rfl, rfl⟩ := evBin_int e
    have e1 := hv.int
    have e2 := hu.int
    subst e1 e2
    exact ⟨i, j, r, rfl, rfl, e, p.int hm l⟩)
end
end Z

/-! Z5: further forms of expression. -/
namespace Z
open PySem PySem.Spec PyProof.Rows L2

section
variable {G : Gm} {bl : List Str} {n : Nat} {W : WX} {X : Cx} {a b c : E} {m ma mb : Md} {l r : Expr} {pos : Pos}

/-! ### names, constants -/
theorem pe_z_var {i : Nat} {x : Str} (hm : m ≠ .n) (hN : X.N[i]? = some x) (hv : Vis X.env.scope x) (h1 : (x == ("__debug__" : Str)) = false) (h2 : (x == ("__classdict__" : Str)) = false) : PE X (.Name x pos) (tM X.K G n W m (.var i)) :=
  (pe_var hN hv h1 h2).zimp fun σ H Q h => by
    obtain ⟨B, F, ρ, S, h⟩ := h
    have e : G.ev n (.var i) ρ = match ρ.at i with
      | .fz d => .ok d
      | _ => .bad := rfl
    rw [e] at h
    cases q : ρ.at i with
    | un => rw [q] at h; exact h.elim
    | ow d => rw [q] at h; exact h.elim
    | fz d =>
      rw [q] at h
      obtain ⟨v, hs, r⟩ := S.fz i d q
      exact ⟨v, hs, h.val hm S.le r⟩
theorem pe_z_bv {i : Nat} {x : Str} (hN : X.N[i]? = some x) (hv : Vis X.env.scope x) (h1 : (x == ("__debug__" : Str)) = false) (h2 : (x == ("__classdict__" : Str)) = false) : PE X (.Name x pos) (tM X.K G n W .b (.bv i)) :=
  (pe_var hN hv h1 h2).zimp fun σ H Q h => by
    obtain ⟨B, F, ρ, S, h⟩ := h
    have e : G.ev n (.bv i) ρ = match ρ.at i with
      | .fz d => .ok d
      | .ow d => .ok d
      | _ => .bad := rfl
    rw [e] at h
    cases q : ρ.at i with
    | un => rw [q] at h; exact h.elim
    | ow d =>
      rw [q] at h
      obtain ⟨a, hs, r, _⟩ := S.ow i d q
      exact ⟨_, hs, h _ F H (.refl S.le) r.sh⟩
    | fz d =>
      rw [q] at h
      obtain ⟨v, hs, r⟩ := S.fz i d q
      exact ⟨v, hs, h _ F H (.refl S.le) (r.sh S.le)⟩
theorem pe_z_c {d : D} {k : Const} {j : Nat} (hm : m ≠ .n) (h : cstIs d k = true) : PE X (.Constant k j pos) (tM X.K G n W m (.c d)) := by
  have go : ∀ {v : V}, (∀ F : Hp, Rep X.K G.cl F v d) → ∀ σ H Q, tM X.K G n W m (.c d) σ H Q → tC v σ H Q := fun {v} hr σ H Q h => by
    obtain ⟨B, F, ρ, S, h⟩ := h
    exact Post.val (d := d) hm S.le h (hr F)
  cases d with
  | none => cases k <;> first | exact pe_non.zimp (go fun F => .non) | cases h
  | bool b =>
    cases k with
    | bool b' =>
      have e : b = b' := by simpa [cstIs] using h
      subst e
      exact pe_bl.zimp (go fun F => .bl b)
    | _ => cases h
  | int b =>
    cases k with
    | int b' =>
      have e : b = b' := by simpa [cstIs] using h
      subst e
      exact pe_int.zimp (go fun F => .int b)
    | _ => cases h
  | str b =>
    cases k with
    | str b' =>
      have e : b = b' := by simpa [cstIs] using h
      subst e
      exact pe_str.zimp (go fun F => .str b)
    | _ => cases h
  | _ => cases k <;> cases h
theorem pe_z_gl {i : Nat} {x : Str} (C : Cn G bl n W X) (hm : m ≠ .n) (h : G.T.gls[i]?.map (·.1) = some x) (hg : Gl X x) (hd : (x == ("__debug__" : Str)) = false) : PE X (.Name x pos) (tM X.K G n W m (.gl i)) := by
  obtain ⟨p, hp, rfl⟩ := Option.map_eq_some_iff.mp h
  obtain ⟨t, ht⟩ := C.gl i p hp
  refine (pe_glob (v := .int p.2) hg ht ⟨t, rfl⟩ hd).zimp fun σ H Q h => ?_
  obtain ⟨B, F, ρ, S, h⟩ := h
  have e : G.ev n (.gl i) ρ = .ok (.int p.2) := by
    show (match G.gs[i]? with | some n => Rs.ok (PyData.int n) | none => .bad) = _
    have : G.gs[i]? = some p.2 := by
      show (G.T.gls.map (·.2))[i]? = _
      rw [List.getElem?_map, hp]
      rfl
    rw [this]
  rw [e] at h
  exact h.int hm S.le

/-! ### lists put together -/
def rCatR : R2 := fun x y H Q => ∃ l b xs zs, x = .ref l ∧ y = .ref b ∧ Rd H l (.lst xs) ∧ Rd H b (.lst zs) ∧ xs.length + zs.length ≤ sizeLine ∧ ∀ p, H p = none → Q (.ref p) (upd H p (.lst (xs ++ zs)))
theorem op_catR : OpR X (binaryOp .Add) rCatR := by
  intro pins s σ H x y v u Q I rx ry h
  obtain ⟨l, b, xs, zs, rfl, rfl, hH, hB, hz, q⟩ := h
  cases rx
  cases ry
  obtain ⟨z1, its, n1, r1, e1⟩ := hH.ok I.hok
  obtain ⟨z2, its2, n2, r2, e2⟩ := hB.ok I.hok
  have l1 := r1.length
  have l2 := r2.length
  refine PySem.P.add_list e1 e2 ?_ (by rw [List.size_toArray, List.size_toArray]; omega)
  have ea : its.toArray ++ its2.toArray = (its ++ its2).toArray := by simp
  rw [ea]
  exact ⟨.ref _, _, I.lnew (t' := s.toks) (r1.append r2) (by rw [List.length_append]; omega), rfl, q _ I.fresh⟩
theorem Val.lst {K : PySem.W.Frag} {cl : Nat → Addr} {F H : Hp} {v : V} {ds : List D} (le : Le F H) (h : Val K cl m F H v (.list ds)) : ∃ a vs, v = .ref a ∧ Rd H a (.lst vs) ∧ vs.length ≤ LIM ∧ Reps K cl F vs ds := h.sh le
theorem Val.tup {K : PySem.W.Frag} {cl : Nat → Addr} {F H : Hp} {v : V} {ds : List D} (le : Le F H) (h : Val K cl m F H v (.tuple ds)) : ∃ a vs, v = .ref a ∧ SqT K H a vs ∧ vs.length ≤ LIM ∧ Reps K cl F vs ds := h.sh le
theorem evCat_lst {x y d : D} (h : evCat x y = .ok d) : ∃ xs ys, x = .list xs ∧ y = .list ys ∧ d = .list (xs ++ ys) ∧ xs.length + ys.length ≤ LIM := by
  cases x <;> cases y <;> simp only [evCat] at h <;> first
    | (cases h; done)
    | (split at h
       · rename_i z
         cases h
         exact ⟨_, _, rfl, rfl, rfl, z⟩
       · cases h)
theorem evCat_er {x y : D} {c : Nat} {k : Int} : evCat x y ≠ .er c k := by
  intro h
  cases x <;> cases y <;> simp only [evCat] at h <;> first | (cases h; done) | (split at h <;> cases h)
theorem pe_z_cat (ha : PE X l (tM X.K G n W .b a)) (hb : PE X r (tM X.K G n W .b b)) : PE X (.BinOp l .Add r pos) (tM X.K G n W m (.cat a b)) :=
  (pe_op op_catR ha hb).zimp (cmb2 (f := evCat) (by decide) (by decide) (fun _ => rfl) (fun _ _ _ _ => evCat_er) fun F H v u x y d Q le hv hu e p => by
    obtain ⟨xs, ys, rfl, rfl, rfl, hz⟩ := evCat_lst e
    obtain ⟨p1, vs, rfl, s1, z1, r1⟩ := hv.lst le
    obtain ⟨p2, ws, rfl, s2, z2, r2⟩ := hu.lst le
    have e1 := r1.length
    have e2 := r2.length
    refine ⟨p1, p2, vs, ws, rfl, rfl, s1, s2, by rw [← LIM_eq]; omega, fun q hq => ?_⟩
    exact p.new le hq (by rw [List.length_append]; omega) (r1.append r2))
theorem evRep_lst {x y d : D} (h : evRep x y = .ok d) : ∃ xs k, x = .list xs ∧ y = .int k ∧ d = .list (List.replicate k.toNat xs).flatten ∧ 0 ≤ k ∧ k < 16777216 ∧ xs.length * k.toNat ≤ LIM := by
  cases x <;> cases y <;> simp only [evRep] at h <;> first
    | (cases h; done)
    | (split at h
       · rename_i z
         cases h
         exact ⟨_, _, rfl, rfl, rfl, z.1, z.2.1, z.2.2⟩
       · cases h)
theorem evRep_er {x y : D} {c : Nat} {k : Int} : evRep x y ≠ .er c k := by
  intro h
  cases x <;> cases y <;> simp only [evRep] at h <;> first | (cases h; done) | (split at h <;> cases h)
theorem flat_len {α : Type} (xs : List α) : ∀ k : Nat, (List.replicate k xs).flatten.length = xs.length * k
  | 0 => rfl
  | k + 1 => by
    rw [List.replicate_succ, List.flatten_cons, List.length_append, flat_len xs k, Nat.mul_succ, Nat.add_comm]
theorem pe_z_rep (ha : PE X l (tM X.K G n W .n a)) (hb : PE X r (tM X.K G n W .x b)) : PE X (.BinOp l .Mult r pos) (tM X.K G n W m (.rep a b)) :=
  (pe_op op_rep ha hb).zimp fun σ H Q h => by
    obtain ⟨B, F, ρ, S, h⟩ := h
    have e : G.ev n (.rep a b) ρ = (G.ev n a ρ).bind fun x => (G.ev n b ρ).bind fun y => evRep x y := rfl
    rw [e] at h
    refine ⟨B, F, ρ, S, ?_⟩
    cases ea : G.ev n a ρ with
    | bad => rw [ea] at h; exact h
    | er c k => rw [ea] at h; exact h
    | ok x =>
      rw [ea] at h
      refine fun p F1 H1 x1 np o1 => ⟨B, F1, ρ, S.ext x1, ?_⟩
      cases eb : G.ev n b ρ with
      | bad => rw [eb] at h; exact h
      | er c k => rw [eb] at h; exact fun F2 H2 dx y => h F2 H2 dx (x1.trans y)
      | ok y =>
        rw [eb] at h
        refine fun u F2 H2 x2 r2 => ?_
        cases ef : evRep x y with
        | bad => simp only [Rs.bind_ok, ef] at h
        | er c k => exact absurd ef evRep_er
        | ok d =>
          simp only [Rs.bind_ok, ef] at h
          obtain ⟨xs, k, rfl, rfl, rfl, k0, k1, hz⟩ := evRep_lst ef
          obtain ⟨vs, h1, h2, h3, h4⟩ := o1.ext x2
          cases r2
          have el := h3.length
          have hl : vs.length * k.toNat ≤ LIM := by rw [el]; exact hz
          refine ⟨p, k, vs, rfl, rfl, h1, by omega, by omega, by rw [← LIM_eq]; exact hl, fun q hq => ?_⟩
          exact (h.step (x1.trans x2)).new x2.le hq (by rw [flat_len]; exact hl) (h3.repl _)

/-! ### one operand -/
theorem pe_z_neg (hm : m ≠ .n) (ha : PE X l (tM X.K G n W .x a)) : PE X (.UnaryOp .USub l pos) (tM X.K G n W m (.neg a)) :=
  (pe_un un_neg ha).zimp (cmb1 (f := evNeg) (by decide) (fun _ => rfl) (fun x c k h => by cases x <;> cases h) fun F H v x d Q le hv e p => by
    cases x <;> simp only [evNeg] at e <;> first
      | (cases e; done)
      | (cases e
         have e1 := hv.int
         subst e1
         exact ⟨_, rfl, p.int hm le⟩))
theorem tru_of {K : PySem.W.Frag} {cl : Nat → Addr} {F H : Hp} {v : V} {d : D} {t : Bool} (le : Le F H) (h : Val K cl m F H v d) (e : tr d = .ok t) : TruV K v H t := by
  have hL := LIM_eq
  cases d with
  | none =>
    cases h.rep le
    cases e
    rfl
  | bool b =>
    cases h.rep le
    cases e
    rfl
  | int i =>
    cases h.rep le
    cases e
    rfl
  | str x =>
    cases h.rep le
    simp only [tr] at e
    split at e
    · rename_i hz
      cases e
      refine ⟨by omega, ?_⟩
      show (x.length != 0) = ((x.length : Int) != 0)
      by_cases q : x.length = 0
      · rw [q]
        rfl
      · rw [bne_iff_ne.mpr q, bne_iff_ne.mpr (show (x.length : Int) ≠ 0 by omega)]
    · cases e
  | list xs =>
    obtain ⟨a, vs, rfl, h1, _, r⟩ := h.lst le
    cases e
    refine .inl ⟨vs, .inl h1, ?_⟩
    cases r <;> rfl
  | tuple xs =>
    obtain ⟨a, vs, rfl, h1, _, r⟩ := h.tup le
    cases e
    refine .inr (.inl ⟨vs, h1, ?_⟩)
    cases r <;> rfl
  | dict kvs => cases e
theorem tr_er {d : D} {c : Nat} {k : Int} : tr d ≠ .er c k := by
  intro h
  cases d <;> simp only [tr] at h <;> first | (cases h; done) | (split at h <;> cases h)
theorem pe_z_not (hm : m ≠ .n) (ha : PE X l (tM X.K G n W .b a)) : PE X (.UnaryOp .Not l pos) (tM X.K G n W m (.not a)) :=
  (pe_notT ha).zimp (cmb1 (r := fun x H1 Q => ∃ k, TruV X.K x H1 k ∧ Q (.bl (!k)) H1) (f := fun x => (tr x).bind fun t => .ok (.bool (!t))) (by decide) (fun _ => rfl)
    (fun x c k h => by
      cases e : tr x with
      | er c k => exact tr_er e
      | ok t => rw [e] at h; cases h
      | bad => rw [e] at h; cases h) fun F H v x d Q le hv e p => by
    cases et : tr x with
    | er c k => exact absurd et tr_er
    | bad => rw [et] at e; cases e
    | ok t =>
      rw [et] at e
      cases e
      exact ⟨t, tru_of le hv et, p.bool hm le⟩)

/-! ### tests -/
theorem tTs_of {e : E} {tE : TE} (hv : ∀ σ H Q, tM X.K G n W .b e σ H Q → tE σ H Q) : ∀ σ H (Q : Bool → Hp → Prop), tTs X.K G n W e σ H Q → tE σ H fun x H' => ∃ k, TruV X.K x H' k ∧ Q k H' := by
  intro σ H Q h
  obtain ⟨B, F, ρ, S, h⟩ := h
  refine hv σ H _ ⟨B, F, ρ, S, ?_⟩
  cases ea : G.ev n e ρ with
  | bad => rw [ea] at h; exact h
  | er c k => rw [ea] at h; exact h
  | ok x =>
    rw [ea] at h
    refine fun v F1 H1 x1 r1 => ?_
    cases et : tr x with
    | er c k => exact absurd et tr_er
    | bad => simp only [Rs.bind_ok, et] at h
    | ok t =>
      simp only [Rs.bind_ok, et] at h
      exact ⟨t, tru_of (m := .b) x1.le r1 et, h F1 H1 x1⟩
theorem pt_z_val {e : E} (ha : PE X l (tM X.K G n W .b e)) (he : ∀ whole, isTrue l X.env whole = (do let v ← whole; standAt l.pos; holding [v] (truthy v))) : PT X l (tTs X.K G n W e) :=
  (pt_truth ha he).zimp (tTs_of fun _ _ _ h => h)
/-- a comparison whose value is True or False, as a test -/
theorem tTs_bool {e : E} {tE : TE} (hb : ∀ ρ d, G.ev n e ρ = .ok d → ∃ b, d = .bool b) (hv : ∀ σ H Q, tM X.K G n W .b e σ H Q → tE σ H Q) : ∀ σ H (Q : Bool → Hp → Prop), tTs X.K G n W e σ H Q → tE σ H fun x H' => ∃ k, x = .bl k ∧ Q k H' := by
  intro σ H Q h
  obtain ⟨B, F, ρ, S, h⟩ := h
  refine hv σ H _ ⟨B, F, ρ, S, ?_⟩
  cases ea : G.ev n e ρ with
  | bad => rw [ea] at h; exact h
  | er c k => rw [ea] at h; exact h
  | ok x =>
    rw [ea] at h
    obtain ⟨b, rfl⟩ := hb ρ x ea
    simp only [Rs.bind_ok, tr] at h
    refine fun v F1 H1 x1 r1 => ⟨b, ?_, h F1 H1 x1⟩
    exact Val.bool (m := .b) (H := H1) r1
theorem pt_z_not (ha : PT X l (tTs X.K G n W a)) : PT X (.UnaryOp .Not l pos) (tTs X.K G n W (.not a)) :=
  (pt_not ha).zimp fun σ H Q h => by
    obtain ⟨B, F, ρ, S, h⟩ := h
    have e : G.ev n (.not a) ρ = (G.ev n a ρ).bind fun x => (tr x).bind fun t => .ok (.bool (!t)) := rfl
    rw [e] at h
    refine ⟨B, F, ρ, S, ?_⟩
    cases ea : G.ev n a ρ with
    | bad => rw [ea] at h; exact h
    | er c k => rw [ea] at h; exact h
    | ok x =>
      rw [ea] at h
      cases et : tr x with
      | er c k => exact absurd et tr_er
      | bad => simp only [Rs.bind_ok, et] at h; exact h.elim
      | ok t =>
        simp only [Rs.bind_ok, et] at h
        simp only [Rs.bind_ok, et]
        exact h
end
end Z

/-! Z6: comparisons, chains, and, or. -/
namespace Z
open PySem PySem.Spec PyProof.Rows L2

section
variable {G : Gm} {bl : List Str} {n : Nat} {W : WX} {X : Cx} {a b c : E} {m ma mb : Md} {l r r2 : Expr} {pos : Pos}

/-- a comparison by data, in the heap H -/
def rCop (K : PySem.W.Frag) (cl : Nat → Addr) (op : Cop) : R2 := fun x y H Q => ∃ d e r, Rep K cl H x d ∧ Rep K cl H y e ∧ evCmp op d e = .ok (.bool r) ∧ Q (.bl r) H
theorem evCmp_bool {op : Cop} {x y d : D} (h : evCmp op x y = .ok d) : ∃ r, d = .bool r := by
  cases op <;> cases x <;> cases y <;> simp only [evCmp] at h <;> first
    | (cases h; done)
    | (cases h; exact ⟨_, rfl⟩)
    | (split at h <;> first | (cases h; done) | (cases h; exact ⟨_, rfl⟩))
theorem evCmp_er {op : Cop} {x y : D} {c : Nat} {k : Int} : evCmp op x y ≠ .er c k := by
  intro h
  cases op <;> cases x <;> cases y <;> simp only [evCmp] at h <;> first | (cases h; done) | (split at h <;> cases h)
theorem evCmp_int {op : Cop} {x y d : D} (ho : op = .lt ∨ op = .le ∨ op = .gt ∨ op = .ge) (h : evCmp op x y = .ok d) : ∃ i j, x = .int i ∧ y = .int j := by
  rcases ho with rfl | rfl | rfl | rfl <;> cases x <;> cases y <;> simp only [evCmp] at h <;> first
    | (cases h; done)
    | exact ⟨_, _, rfl, rfl⟩
theorem copR {op : Cop} {o : CmpOp} (hu : X.A.units + 65 < cLine) (h : copIs op o = true) : OpR X (compareOp o) (rCop X.K G.cl op) := by
  intro pins s σ H x y v u Q I rx ry q
  obtain ⟨d, e, r, rd, re, ev, q⟩ := q
  cases op with
  | eq =>
    cases o <;> first | cases h | skip
    simp only [evCmp] at ev
    split at ev
    · rename_i z
      rw [Bool.and_eq_true] at z
      cases ev
      exact op_eqD (by omega) pins s σ H x y v u Q I rx ry ⟨d, e, rd.dp (eqOk_lay z.1), re.dp (eqOk_lay z.2), z.1, z.2, q⟩
    · cases ev
  | ne =>
    cases o <;> first | cases h | skip
    simp only [evCmp] at ev
    split at ev
    · rename_i z
      rw [Bool.and_eq_true] at z
      cases ev
      exact op_neD (by omega) pins s σ H x y v u Q I rx ry ⟨d, e, rd.dp (eqOk_lay z.1), re.dp (eqOk_lay z.2), z.1, z.2, q⟩
    · cases ev
  | lt =>
    cases o <;> first | cases h | skip
    obtain ⟨i, j, rfl, rfl⟩ := evCmp_int (.inl rfl) ev
    cases ev
    cases rd
    cases re
    exact op_lt pins s σ H _ _ v u Q I rx ry ⟨i, j, rfl, rfl, q⟩
  | le =>
    cases o <;> first | cases h | skip
    obtain ⟨i, j, rfl, rfl⟩ := evCmp_int (.inr (.inl rfl)) ev
    cases ev
    cases rd
    cases re
    exact op_le pins s σ H _ _ v u Q I rx ry ⟨i, j, rfl, rfl, q⟩
  | gt =>
    cases o <;> first | cases h | skip
    obtain ⟨i, j, rfl, rfl⟩ := evCmp_int (.inr (.inr (.inl rfl))) ev
    cases ev
    cases rd
    cases re
    exact op_gt pins s σ H _ _ v u Q I rx ry ⟨i, j, rfl, rfl, q⟩
  | ge =>
    cases o <;> first | cases h | skip
    obtain ⟨i, j, rfl, rfl⟩ := evCmp_int (.inr (.inr (.inr rfl))) ev
    cases ev
    cases rd
    cases re
    exact op_ge pins s σ H _ _ v u Q I rx ry ⟨i, j, rfl, rfl, q⟩
  | mem =>
    cases o <;> first | cases h | skip
    cases e <;> simp only [evCmp] at ev <;> first | (cases ev; done) | skip
    split at ev
    · rename_i z
      rw [Bool.and_eq_true] at z
      cases ev
      exact op_inD (by omega) pins s σ H x y v u Q I rx ry ⟨d, _, rd.dp (eqOk_lay z.1), re.dp (eqOk_lay z.2), z.1, z.2, q⟩
    · cases ev
  | nmem =>
    cases o <;> first | cases h | skip
    cases e <;> simp only [evCmp] at ev <;> first | (cases ev; done) | skip
    split at ev
    · rename_i z
      rw [Bool.and_eq_true] at z
      cases ev
      exact op_notInD (by omega) pins s σ H x y v u Q I rx ry ⟨d, _, rd.dp (eqOk_lay z.1), re.dp (eqOk_lay z.2), z.1, z.2, q⟩
    · cases ev
  | _ => cases o <;> cases h
theorem noSet_mark {o : CmpOp} {e : Expr} (h : noSet e = true) : behindInMarks o e = false := by
  cases e <;> first | rfl | cases h
theorem cop_tM {op : Cop} (hm : m ≠ .n) : ∀ σ H Q, tM X.K G n W m (.cmp op a b) σ H Q → tOp (rCop X.K G.cl op) (tM X.K G n W .b a) (tM X.K G n W .b b) σ H Q :=
  cmb2 (f := evCmp op) (by decide) (by decide) (fun _ => rfl) (fun _ _ _ _ => evCmp_er) fun F H v u x y d Q le hv hu e p => by
    obtain ⟨r, rfl⟩ := evCmp_bool e
    exact ⟨x, y, r, hv.rep le, hu.rep le, e, p.bool hm le⟩
theorem pe_z_cmp {op : Cop} {o : CmpOp} (C : Cn G bl n W X) (hm : m ≠ .n) (h : copIs op o = true) (hs : noSet r = true) (ha : PE X l (tM X.K G n W .b a)) (hb : PE X r (tM X.K G n W .b b)) : PE X (.Compare l [o] [r] pos) (tM X.K G n W m (.cmp op a b)) :=
  (pe_cmpR (copR (G := G) (by have := C.room.un; omega) h) ha hb (noSet_mark hs)).zimp (cop_tM hm)
theorem cmp_bool {op : Cop} : ∀ ρ d, G.ev n (.cmp op a b) ρ = .ok d → ∃ r, d = .bool r := fun ρ d h => by
  have e : G.ev n (.cmp op a b) ρ = (G.ev n a ρ).bind fun x => (G.ev n b ρ).bind fun y => evCmp op x y := rfl
  rw [e] at h
  cases ea : G.ev n a ρ with
  | bad => rw [ea] at h; cases h
  | er c k => rw [ea] at h; cases h
  | ok x =>
    cases eb : G.ev n b ρ with
    | bad => rw [ea, eb] at h; cases h
    | er c k => rw [ea, eb] at h; cases h
    | ok y =>
      rw [ea, eb] at h
      exact evCmp_bool h
theorem pt_z_cmp {op : Cop} {o : CmpOp} (C : Cn G bl n W X) (h : copIs op o = true) (hs : noSet r = true) (ha : PE X l (tM X.K G n W .b a)) (hb : PE X r (tM X.K G n W .b b)) : PT X (.Compare l [o] [r] pos) (tTs X.K G n W (.cmp op a b)) :=
  (pt_cmpR (copR (G := G) (by have := C.room.un; omega) h) ha hb (noSet_mark hs)).zimp (tTs_bool cmp_bool (cop_tM (by decide)))

/-! ### is None -/
theorem isNone_of {K : PySem.W.Frag} {cl : Nat → Addr} {F : Hp} {v : V} {d : D} (h : Rep K cl F v d) : decide (v = .non) = isNone d := by
  cases h <;> rfl
theorem isN_tM {b : E} (hb : b = .c .none) (hm : m ≠ .n) : ∀ σ H Q, tM X.K G n W m (.cmp .isN a b) σ H Q → tIsN (tM X.K G n W .b a) σ H Q := by
  subst hb
  intro σ H Q h
  exact cmb1 (r := fun x H1 Q => Q (.bl (decide (x = .non))) H1) (f := fun x => evCmp .isN x .none) (by decide) (fun _ => rfl) (fun _ _ _ => evCmp_er) (fun F H v x d Q le hv e p => by
    have e' : .bool (isNone x) = d := Rs.ok.inj e
    subst e'
    rw [isNone_of (hv.rep le)]
    exact p.bool hm le) σ H Q h
theorem notN_tM {b : E} (hb : b = .c .none) (hm : m ≠ .n) : ∀ σ H Q, tM X.K G n W m (.cmp .notN a b) σ H Q → tNotN (tM X.K G n W .b a) σ H Q := by
  subst hb
  intro σ H Q h
  exact cmb1 (r := fun x H1 Q => Q (.bl (!decide (x = .non))) H1) (f := fun x => evCmp .notN x .none) (by decide) (fun _ => rfl) (fun _ _ _ => evCmp_er) (fun F H v x d Q le hv e p => by
    have e' : .bool (!isNone x) = d := Rs.ok.inj e
    subst e'
    rw [isNone_of (hv.rep le)]
    exact p.bool hm le) σ H Q h
theorem pe_z_isN {j : Nat} {p2 : Pos} {b : E} (hm : m ≠ .n) (hb : b = .c .none) (ha : PE X l (tM X.K G n W .b a)) : PE X (.Compare l [.Is] [.Constant .none j p2] pos) (tM X.K G n W m (.cmp .isN a b)) :=
  (pe_cmp (pc_isN ha) rfl).zimp (isN_tM hb hm)
theorem pe_z_notN {j : Nat} {p2 : Pos} {b : E} (hm : m ≠ .n) (hb : b = .c .none) (ha : PE X l (tM X.K G n W .b a)) : PE X (.Compare l [.IsNot] [.Constant .none j p2] pos) (tM X.K G n W m (.cmp .notN a b)) :=
  (pe_cmp (pc_notN ha) rfl).zimp (notN_tM hb hm)
theorem pt_z_isN {j : Nat} {p2 : Pos} {b : E} (hb : b = .c .none) (ha : PE X l (tM X.K G n W .b a)) : PT X (.Compare l [.Is] [.Constant .none j p2] pos) (tTs X.K G n W (.cmp .isN a b)) :=
  (pt_cmp (pc_isN ha) rfl).zimp (tTs_bool cmp_bool (isN_tM hb (by decide)))
theorem pt_z_notN {j : Nat} {p2 : Pos} {b : E} (hb : b = .c .none) (ha : PE X l (tM X.K G n W .b a)) : PT X (.Compare l [.IsNot] [.Constant .none j p2] pos) (tTs X.K G n W (.cmp .notN a b)) :=
  (pt_cmp (pc_notN ha) rfl).zimp (tTs_bool cmp_bool (notN_tM hb (by decide)))

/-! ### a < b < c -/
theorem chain_tM {o1 o2 : Cop} (hm : m ≠ .n) : ∀ σ H Q, tM X.K G n W m (.chain o1 o2 a b c) σ H Q → tChain (rCop X.K G.cl o1) (rCop X.K G.cl o2) (tM X.K G n W .b a) (tM X.K G n W .b b) (tM X.K G n W .b c) σ H Q := by
  intro σ H Q h
  obtain ⟨B, F, ρ, S, h⟩ := h
  have e : G.ev n (.chain o1 o2 a b c) ρ = (G.ev n a ρ).bind fun x => (G.ev n b ρ).bind fun y => (evCmp o1 x y).bind fun r =>
      match r with
      | .bool true => (G.ev n c ρ).bind fun z => evCmp o2 y z
      | .bool false => .ok (.bool false)
      | _ => .bad := rfl
  rw [e] at h
  refine ⟨B, F, ρ, S, ?_⟩
  cases ea : G.ev n a ρ with
  | bad => rw [ea] at h; exact h
  | er c k => rw [ea] at h; exact h
  | ok x =>
    rw [ea] at h
    refine fun v F1 H1 x1 r1 => ⟨B, F1, ρ, S.ext x1, ?_⟩
    cases eb : G.ev n b ρ with
    | bad => rw [eb] at h; exact h
    | er c k => rw [eb] at h; exact fun F2 H2 dx y => h F2 H2 dx (x1.trans y)
    | ok y =>
      rw [eb] at h
      refine fun u F2 H2 x2 r2 => ?_
      simp only [Rs.bind_ok] at h
      cases ef : evCmp o1 x y with
      | bad => rw [ef] at h; exact h.elim
      | er c k => exact absurd ef evCmp_er
      | ok d =>
        obtain ⟨t, rfl⟩ := evCmp_bool ef
        rw [ef] at h
        refine ⟨x, y, t, (r1.ext x2).rep x2.le, Sh.rep x2.le r2, ef, t, rfl, ?_⟩
        cases t with
        | false =>
          rw [if_neg Bool.false_ne_true]
          exact Post.bool hm x2.le (Post.step (x1.trans x2) h)
        | true =>
          rw [if_pos rfl]
          have h' : match (G.ev n c ρ).bind fun z => evCmp o2 y z with
            | .ok d => Post X.K G.cl m F H d Q
            | .er c k => XC G W c k σ F H
            | .bad => False := h
          refine ⟨B, F2, ρ, (S.ext x1).ext x2, ?_⟩
          cases ec : G.ev n c ρ with
          | bad => rw [ec] at h'; exact h'
          | er c k => rw [ec] at h'; exact fun F3 H3 dx y => h' F3 H3 dx ((x1.trans x2).trans y)
          | ok z =>
            rw [ec] at h'
            refine fun w F3 H3 x3 r3 => ?_
            cases eg : evCmp o2 y z with
            | bad => simp only [Rs.bind_ok, eg] at h'
            | er c k => exact absurd eg evCmp_er
            | ok d =>
              obtain ⟨t2, rfl⟩ := evCmp_bool eg
              simp only [Rs.bind_ok, eg] at h'
              exact ⟨y, z, t2, Sh.rep x3.le (Sh.ext x3 r2), Sh.rep x3.le r3, eg, Post.bool hm x3.le (Post.step ((x1.trans x2).trans x3) h')⟩
theorem marks2 {o1 o2 : CmpOp} {e1 e2 : Expr} (h : noSet e2 = true) : lastMarks [o1, o2] [e1, e2] = false := noSet_mark h
theorem chain_bool {o1 o2 : Cop} : ∀ ρ d, G.ev n (.chain o1 o2 a b c) ρ = .ok d → ∃ r, d = .bool r := fun ρ d h => by
  have e : G.ev n (.chain o1 o2 a b c) ρ = (G.ev n a ρ).bind fun x => (G.ev n b ρ).bind fun y => (evCmp o1 x y).bind fun r =>
      match r with
      | .bool true => (G.ev n c ρ).bind fun z => evCmp o2 y z
      | .bool false => .ok (.bool false)
      | _ => .bad := rfl
  rw [e] at h
  cases ea : G.ev n a ρ with
  | bad => rw [ea] at h; cases h
  | er c k => rw [ea] at h; cases h
  | ok x =>
    cases eb : G.ev n b ρ with
    | bad => rw [ea, eb] at h; cases h
    | er c k => rw [ea, eb] at h; cases h
    | ok y =>
      rw [ea, eb] at h
      simp only [Rs.bind_ok] at h
      cases ef : evCmp o1 x y with
      | bad => rw [ef] at h; cases h
      | er c k => rw [ef] at h; cases h
      | ok d =>
        obtain ⟨t, rfl⟩ := evCmp_bool ef
        rw [ef] at h
        cases t with
        | false => cases h; exact ⟨_, rfl⟩
        | true =>
          have h' : ((G.ev n c ρ).bind fun z => evCmp o2 y z) = .ok _ := h
          cases ec : G.ev n c ρ with
          | bad => rw [ec] at h'; cases h'
          | er c k => rw [ec] at h'; cases h'
          | ok z =>
            rw [ec] at h'
            exact evCmp_bool h'
theorem pe_z_chain {o1 o2 : Cop} {p1 p2 : CmpOp} (C : Cn G bl n W X) (hm : m ≠ .n) (h1 : copIs o1 p1 = true) (h2 : copIs o2 p2 = true) (hs : noSet r2 = true) (ha : PE X l (tM X.K G n W .b a)) (hb : PE X r (tM X.K G n W .b b)) (hc : PE X r2 (tM X.K G n W .b c)) :
    PE X (.Compare l [p1, p2] [r, r2] pos) (tM X.K G n W m (.chain o1 o2 a b c)) :=
  (pe_chain (copR (G := G) (by have := C.room.un; omega) h1) (copR (G := G) (by have := C.room.un; omega) h2) ha hb hc (marks2 hs)).zimp (chain_tM hm)
theorem pt_z_chain {o1 o2 : Cop} {p1 p2 : CmpOp} (C : Cn G bl n W X) (h1 : copIs o1 p1 = true) (h2 : copIs o2 p2 = true) (hs : noSet r2 = true) (ha : PE X l (tM X.K G n W .b a)) (hb : PE X r (tM X.K G n W .b b)) (hc : PE X r2 (tM X.K G n W .b c)) :
    PT X (.Compare l [p1, p2] [r, r2] pos) (tTs X.K G n W (.chain o1 o2 a b c)) :=
  (pt_chain (copR (G := G) (by have := C.room.un; omega) h1) (copR (G := G) (by have := C.room.un; omega) h2) ha hb hc (marks2 hs)).zimp (tTs_bool chain_bool (chain_tM (by decide)))

/-! ### x if t else y -/
theorem pe_z_ite {t : Expr} (hm : m ≠ .n) (hc : PT X t (tTs X.K G n W c)) (ha : PE X l (tM X.K G n W m a)) (hb : PE X r (tM X.K G n W m b)) : PE X (.IfExp t l r pos) (tM X.K G n W m (.ite c a b)) :=
  (pe_ifExp hc ha hb).zimp fun σ H Q h => by
    obtain ⟨B, F, ρ, S, h⟩ := h
    have e : G.ev n (.ite c a b) ρ = (G.ev n c ρ).bind fun x => (tr x).bind fun t => if t then G.ev n a ρ else G.ev n b ρ := rfl
    rw [e] at h
    refine ⟨B, F, ρ, S, ?_⟩
    cases ea : G.ev n c ρ with
    | bad => rw [ea] at h; exact h
    | er c k => rw [ea] at h; exact h
    | ok x =>
      rw [ea] at h
      cases et : tr x with
      | er c k => exact absurd et tr_er
      | bad => simp only [Rs.bind_ok, et] at h; exact h.elim
      | ok t =>
        simp only [Rs.bind_ok, et] at h ⊢
        intro F1 H1 x1
        cases t with
        | true =>
          rw [if_pos rfl] at h ⊢
          refine ⟨B, F1, ρ, S.ext x1, ?_⟩
          revert h
          cases G.ev n a ρ with
          | bad => exact id
          | er c k => exact fun h F3 H3 dx y => h F3 H3 dx (x1.trans y)
          | ok d => exact fun h => h.step x1
        | false =>
          rw [if_neg Bool.false_ne_true] at h ⊢
          refine ⟨B, F1, ρ, S.ext x1, ?_⟩
          revert h
          cases G.ev n b ρ with
          | bad => exact id
          | er c k => exact fun h F3 H3 dx y => h F3 H3 dx (x1.trans y)
          | ok d => exact fun h => h.step x1
end
end Z

/-! Z7: lists of parts, displays, subscripts, slices, calls, built-ins. -/
namespace Z
open PySem PySem.Spec PyProof.Rows L2

def noStar : Expr → Bool
  | .Starred .. => false
  | _ => true
theorem star_of {l : Expr} {env : Env} {ls : List Expr} (h : noStar l = true) : starEach (l :: ls) env = (false, eval l env) :: starEach ls env := by
  cases l <;> first | rfl | cases h
theorem stars_of {env : Env} {pos : Pos} : ∀ {ls : List Expr}, ls.all noStar = true → (backTo pos (starEach ls env)).any (·.1) = false
  | [], _ => rfl
  | l :: ls, h => by
    rw [List.all_cons, Bool.and_eq_true] at h
    rw [star_of h.1]
    show (false || (backTo pos (starEach ls env)).any (·.1)) = false
    rw [stars_of h.2]
    rfl

section
variable {G : Gm} {bl : List Str} {n : Nat} {W : WX} {X : Cx} {a b c : E} {m ma mb : Md} {l r r2 : Expr} {pos : Pos}
/-- parts, one by one -/
inductive PAll (X : Cx) (G : Gm) (n : Nat) (W : WX) (m : Md) : List Expr → List E → Prop
  | nil : PAll X G n W m [] []
  | cons {l : Expr} {ls : List Expr} {e : E} {es : List E} : noStar l = true → PE X l (tM X.K G n W m e) → PAll X G n W m ls es → PAll X G n W m (l :: ls) (e :: es)
theorem PAll.star {ls : List Expr} {es : List E} (h : PAll X G n W m ls es) : ls.all noStar = true := by
  induction h with
  | nil => rfl
  | cons h _ _ ih =>
    rw [List.all_cons, h, ih]
    rfl
theorem PAll.pa (hm : m ≠ .n) : ∀ {ls : List Expr} {es : List E}, PAll X G n W m ls es → PA X ls (tAs X.K G n W m es)
  | _, _, .nil => pa_nil.zimp fun σ H Q h => by
    obtain ⟨B, F, ρ, S, h⟩ := h
    exact h [] F H (.refl S.le) (by unfold Vals'; trivial)
  | _, _, @PAll.cons _ _ _ _ _ l ls e es hs he ht => (pa_cons he (PAll.pa hm ht) (star_of hs)).zimp fun σ H Q h => by
    obtain ⟨B, F, ρ, S, h⟩ := h
    have ee : evEs (callF G.T n) G.gs (e :: es) ρ = (G.ev n e ρ).bind fun x => (evEs (callF G.T n) G.gs es ρ).bind fun r => .ok (x :: r) := rfl
    rw [ee] at h
    refine ⟨B, F, ρ, S, ?_⟩
    cases ea : G.ev n e ρ with
    | bad => rw [ea] at h; exact h
    | er c k => rw [ea] at h; exact h
    | ok x =>
      rw [ea] at h
      refine Post.mk hm fun v F1 H1 x1 r1 => ⟨B, F1, ρ, S.ext x1, ?_⟩
      cases eb : evEs (callF G.T n) G.gs es ρ with
      | bad => rw [eb] at h; exact h
      | er c k => rw [eb] at h; exact fun F2 H2 dx y => h F2 H2 dx (x1.trans y)
      | ok y =>
        rw [eb] at h
        exact fun vs F2 H2 x2 r2 => h (v :: vs) F2 H2 (x1.trans x2) (by unfold Vals'; exact ⟨r1.ext x2, r2⟩)

/-! ### displays -/
theorem Reps.le {K : PySem.W.Frag} {cl : Nat → Addr} {F : Hp} {vs : List V} {ds : List D} (r : Reps K cl F vs ds) (h : ds.length ≤ LIM) : vs.length ≤ LIM := by
  rw [r.length]
  exact h
theorem pe_z_lst {ls : List Expr} {es : List E} (h : PAll X G n W .x ls es) : PE X (.List ls pos) (tM X.K G n W m (.lst es)) :=
  (pe_lst (h.pa (by decide))).zimp fun σ H Q h => by
    refine cmbs (ma := .x) (f := fun ds => if ds.length ≤ LIM then .ok (.list ds) else .bad) (r := fun xs H1 Q => xs.length ≤ sizeLine ∧ ∀ p, H1 p = none → Q (.ref p) (upd H1 p (.lst xs))) (fun _ => rfl) (fun x c k h => by split at h <;> cases h) (fun F H vs ds d Q le hv e p => ?_) σ H Q h
    split at e
    · rename_i z
      cases e
      have r := hv.reps
      exact ⟨by rw [← LIM_eq]; exact r.le z, fun q hq => p.new le hq (r.le z) r⟩
    · cases e
theorem pe_z_tup {ls : List Expr} {es : List E} {k : Nat} (hm : m ≠ .n) (h : PAll X G n W .x ls es) : PE X (.Tuple ls k pos) (tM X.K G n W m (.tup es)) :=
  (pe_tup (h.pa (by decide))).zimp fun σ H Q h => by
    refine cmbs (ma := .x) (f := fun ds => if ds.length ≤ LIM then .ok (.tuple ds) else .bad) (r := fun xs H1 Q => xs.length ≤ sizeLine ∧ ∀ p, H1 p = none → Q (.ref p) (upd H1 p (.tup xs))) (fun _ => rfl) (fun x c k h => by split at h <;> cases h) (fun F H vs ds d Q le hv e p => ?_) σ H Q h
    split at e
    · rename_i z
      cases e
      have r := hv.reps
      refine ⟨by rw [← LIM_eq]; exact r.le z, fun q hq => ?_⟩
      exact (p.step (.new le hq)).val hm (le_upd2 le) (.tup (.inl (.inl upd_same)) (r.le z) (r.mono (le_upd (le.none hq))))
    · cases e

/-! ### a[i] -/
def rIxR (K : PySem.W.Frag) : R2 := fun x y H Q => rIxL K x y H Q ∨ rIxT K x y H Q
theorem place_eq (k : Nat) (i : Int) : place k i = ixN k i := rfl
theorem slice_plain {l : Expr} (h : noSlice l = true) : PlainIx l := by
  intro o i
  cases l <;> first | rfl | cases h
theorem evIx_inv {x y d : D} (h : evIx x y = .ok d) : ∃ xs i, y = .int i ∧ (x = scD xs ∨ x = .list xs ∨ x = .tuple xs) ∧ ((place xs.length i).bind fun j => xs[j]?) = some d := by
  unfold evIx at h
  split at h
  · split at h
    · rename_i z
      cases h
      exact ⟨_, _, rfl, .inl rfl, z⟩
    · cases h
  · split at h
    · rename_i z
      cases h
      exact ⟨_, _, rfl, .inr (.inl rfl), z⟩
    · cases h
  · split at h
    · rename_i z
      cases h
      exact ⟨_, _, rfl, .inr (.inr rfl), z⟩
    · cases h
  · cases h
theorem evIx_er {x y : D} {c : Nat} {k : Int} : evIx x y ≠ .er c k := by
  intro h
  unfold evIx at h
  split at h <;> first | (cases h; done) | (split at h <;> cases h)
theorem pe_z_ix (hm : m ≠ .n) (hs : noSlice r = true) (ha : PE X l (tM X.K G n W .b a)) (hb : PE X r (tM X.K G n W .x b)) : PE X (.Subscript l r pos) (tM X.K G n W m (.ix a b)) :=
  (pe_ix (ix_list.or ix_tup) ha hb (slice_plain hs)).zimp (cmb2 (f := evIx) (by decide) (by decide) (fun _ => rfl) (fun _ _ _ _ => evIx_er)
    fun F H v u x y d Q le hv hu e p => by
      have go : ∀ {vs : List V} {ds : List D} {i : Int}, Reps X.K G.cl F vs ds → ((place ds.length i).bind fun j => ds[j]?) = some d → ∃ w, atI vs i = some w ∧ Rep X.K G.cl F w d := fun {vs ds i} r hp => by
        obtain ⟨j, h1, h2⟩ := Option.bind_eq_some_iff.mp hp
        obtain ⟨w, h3, h4⟩ := r.get h2
        refine ⟨w, ?_, h4⟩
        unfold atI
        rw [r.length, ← place_eq, h1]
        exact h3
      obtain ⟨xs, i, rfl, hx, hp⟩ := evIx_inv e
      have e2 := hu.int
      subst e2
      rcases hx with rfl | rfl | rfl
      · have hr : Rep X.K G.cl F v (scD xs) := hv
        cases hr with
        | scr h1 h2 h3 =>
          obtain ⟨w, g1, g2⟩ := go h3 hp
          exact .inl ⟨_, _, i, w, rfl, rfl, le.sqL h1, g1, p.val hm le g2⟩
      · obtain ⟨q, vs, rfl, s1, z1, r1⟩ := hv.lst le
        obtain ⟨w, h1, h2⟩ := go r1 hp
        exact .inl ⟨q, vs, i, w, rfl, rfl, .inl s1, h1, p.val hm le h2⟩
      · obtain ⟨q, vs, rfl, s1, z1, r1⟩ := hv.tup le
        obtain ⟨w, h1, h2⟩ := go r1 hp
        exact .inr ⟨q, vs, i, w, rfl, rfl, s1, h1, p.val hm le h2⟩)

/-! ### a[i:j] -/
def tOz (K : PySem.W.Frag) (G : Gm) (n : Nat) (W : WX) (o : Option E) : TO := fun σ H Q => ∃ B F ρ, Stt K G.cl B F H ρ σ ∧ match evO (callF G.T n) G.gs o ρ with
  | .ok i => ∀ F' H', Ext F H F' H' → Q i H'
  | .er c k => XC G W c k σ F H
  | .bad => False
theorem po_z_none : PO X none (tOz X.K G n W none) := ⟨fun pins s σ H Q I h => po_none.run pins s σ H Q I (by
  obtain ⟨B, F, ρ, S, h⟩ := h
  exact h F H (.refl S.le))⟩
theorem po_z_some {e : E} (he : PE X l (tM X.K G n W .x e)) : PO X (some l) (tOz X.K G n W (some e)) := ⟨fun pins s σ H Q I h => (po_some he).run pins s σ H Q I (by
  obtain ⟨B, F, ρ, S, h⟩ := h
  have ee : evO (callF G.T n) G.gs (some e) ρ = (G.ev n e ρ).bind fun x => match x with
    | .int i => .ok (some i)
    | _ => .bad := rfl
  rw [ee] at h
  refine ⟨B, F, ρ, S, ?_⟩
  cases ea : G.ev n e ρ with
  | bad => rw [ea] at h; exact h
  | er c k => rw [ea] at h; exact h
  | ok x =>
    rw [ea] at h
    cases x <;> first
      | exact h.elim
      | (refine fun v F1 H1 x1 r1 => ?_
         cases r1
         exact ⟨_, rfl, h F1 H1 x1⟩))⟩
theorem cut_eq (vs : List V) (k d : Nat) (o : Option Int) : HT.sIx k d o = bnd k d o := by
  cases o with
  | none => rfl
  | some i =>
    show (if i < 0 then (i + (k : Int)).toNat else min i.toNat k) = if 0 ≤ i then min i.toNat k else (i + k).toNat
    by_cases h : i < 0
    · rw [if_pos h, if_neg (by omega)]
    · rw [if_neg h, if_pos (by omega)]
theorem Reps.cut {K : PySem.W.Frag} {cl : Nat → Addr} {F : Hp} {vs : List V} {ds : List D} (r : Reps K cl F vs ds) (lo hi : Option Int) : Reps K cl F (cutV vs lo hi) (Z.cut ds lo hi) := by
  unfold cutV Z.cut
  rw [cut_eq vs, cut_eq vs, r.length]
  exact (r.drop _).take _
theorem evSl_inv {x d : D} {lo hi : Option Int} (h : evSl x lo hi = .ok d) : ∃ xs, x = .list xs ∧ d = .list (cut xs lo hi) := by
  cases x <;> first | (cases h; done) | (cases h; exact ⟨_, rfl, rfl⟩)
theorem pe_z_sl {lo hi : Option E} {x y : Option Expr} {p2 : Pos} (ha : PE X l (tM X.K G n W .b a)) (hl : PO X x (tOz X.K G n W lo)) (hh : PO X y (tOz X.K G n W hi)) : PE X (.Subscript l (.Slice x y none p2) pos) (tM X.K G n W m (.sl a lo hi)) :=
  (pe_slice sl_list ha hl hh).zimp fun σ H Q h => by
    obtain ⟨B, F, ρ, S, h⟩ := h
    have e : G.ev n (.sl a lo hi) ρ = (G.ev n a ρ).bind fun x => (evO (callF G.T n) G.gs lo ρ).bind fun l => (evO (callF G.T n) G.gs hi ρ).bind fun h => evSl x l h := rfl
    rw [e] at h
    refine ⟨B, F, ρ, S, ?_⟩
    cases ea : G.ev n a ρ with
    | bad => rw [ea] at h; exact h
    | er c k => rw [ea] at h; exact h
    | ok x =>
      rw [ea] at h
      refine fun v F1 H1 x1 r1 => ⟨B, F1, ρ, S.ext x1, ?_⟩
      cases el : evO (callF G.T n) G.gs lo ρ with
      | bad => rw [el] at h; exact h
      | er c k => rw [el] at h; exact fun F2 H2 dx y => h F2 H2 dx (x1.trans y)
      | ok i =>
        rw [el] at h
        refine fun F2 H2 x2 => ⟨B, F2, ρ, (S.ext x1).ext x2, ?_⟩
        cases eh : evO (callF G.T n) G.gs hi ρ with
        | bad => rw [eh] at h; exact h
        | er c k => rw [eh] at h; exact fun F3 H3 dx y => h F3 H3 dx ((x1.trans x2).trans y)
        | ok j =>
          rw [eh] at h
          refine fun F3 H3 x3 => ?_
          simp only [Rs.bind_ok] at h
          cases es : evSl x i j with
          | bad => rw [es] at h; exact h.elim
          | er c k => cases x <;> cases es
          | ok d =>
            rw [es] at h
            obtain ⟨xs, rfl, rfl⟩ := evSl_inv es
            have x4 := (x1.trans x2).trans x3
            obtain ⟨q, vs, rfl, s1, z1, r2⟩ := (show Val X.K G.cl .b F3 H3 v (.list xs) from Sh.ext x3 (Sh.ext x2 r1)).lst x3.le
            refine ⟨q, vs, rfl, .inl s1, fun p hp => ?_⟩
            exact (Post.step x4 h).new x3.le hp (Nat.le_trans (cutV_length vs i j) z1) (r2.cut i j)

/-! ### calls -/
theorem callF_len {T : Tab} {k j : Nat} {f : Fn} {ds : List D} (hf : T.fns[j]? = some f) (h : callF T k j ds ≠ .bad) : ds.length = f.np := by
  cases k with
  | zero => exact absurd rfl h
  | succ k =>
    unfold callF at h
    split at h
    · exact absurd rfl h
    · rw [hf] at h
      simp only [runFn] at h
      split at h
      · assumption
      · exact absurd rfl h
theorem pe_z_call {f : Nat} {fn : Fn} {x : Str} {px : Pos} {ls : List Expr} {es : List E} (C : Cn G bl n W X) (hf : G.T.fns[f]? = some fn) (hx : fn.name = x) (hm : m ≠ .n ∨ fn.fresh = true) (hg : Gl X x) (hd : (x == ("__debug__" : Str)) = false)
    (h : PAll X G n W .x (l :: ls) es) : PE X (.Call (.Name x px) (l :: ls) [] pos) (tM X.K G n W m (.call f es)) := by
  obtain ⟨h1, h2, h3, h4⟩ := C.fn f fn hf
  subst hx
  have hs := h.star
  rw [List.all_cons, Bool.and_eq_true] at hs
  refine (pe_callG (C.ok f fn hf) C.room C.gd hg h1 h2 h3 C.pa (h.pa (by decide)) hd (star_of hs.1) (stars_of hs.2)).zimp fun σ H Q h => ?_
  obtain ⟨B, F, ρ, S, h⟩ := h
  have e : G.ev n (.call f es) ρ = (evEs (callF G.T n) G.gs es ρ).bind fun ds => callF G.T n f ds := rfl
  rw [e] at h
  refine ⟨B, F, ρ, S, ?_⟩
  cases ea : evEs (callF G.T n) G.gs es ρ with
  | bad => rw [ea] at h; exact h
  | er c k => rw [ea] at h; exact h
  | ok ds =>
    rw [ea] at h
    refine fun vs F1 H1 x1 r1 => ?_
    simp only [Rs.bind_ok] at h
    have r := r1.reps
    refine ⟨F1, ds, x1.le, r, ?_, ?_⟩
    · rw [h4, r.length]
      refine callF_len (T := G.T) (k := n) (j := f) hf fun z => ?_
      rw [z] at h
      exact h
    · cases ec : callF G.T n f ds with
      | bad => rw [ec] at h; exact h
      | er c k => rw [ec] at h; exact fun F' H' dx y => h F' H' dx (x1.trans y)
      | ok d =>
        rw [ec] at h
        have h' := Post.step x1 h
        show Post X.K G.cl (if fn.fresh = true then .n else .x) F1 H1 d Q
        by_cases hfr : fn.fresh = true
        · rw [if_pos hfr]
          exact fun a F' H' y na o => h'.of_own x1.le y na o
        · rw [if_neg hfr]
          have hm' := hm.resolve_right hfr
          exact fun v F' H' y r => (h'.step y).val hm' y.le r
end
end Z

/-! Z8: built-in functions, by data. -/
namespace Z
open PySem PySem.Spec PyProof.Rows L2

/-- a built-in by data -/
def rBi (K : PySem.W.Frag) (cl : Nat → Addr) (m : Md) (g : List D → Rs D) : List V → Hp → VK → Prop := fun vs H Q => ∃ F ds d, Le F H ∧ Vals' K cl .b F H vs ds ∧ g ds = .ok d ∧ Post K cl m F H d Q
section
variable {K : PySem.W.Frag} {cl : Nat → Addr} {F H : Hp} {X : Cx} {m : Md}
theorem Vals'.one {vs : List V} {d : D} (h : Vals' K cl m F H vs [d]) : ∃ v, vs = [v] ∧ Val K cl m F H v d := by
  cases vs with
  | nil => exact h.elim
  | cons v vs =>
    obtain ⟨h1, h2⟩ := h
    cases vs with
    | nil => exact ⟨v, rfl, h1⟩
    | cons _ _ => exact h2.elim
theorem Vals'.two {vs : List V} {d e : D} (h : Vals' K cl m F H vs [d, e]) : ∃ v w, vs = [v, w] ∧ Val K cl m F H v d ∧ Val K cl m F H w e := by
  cases vs with
  | nil => exact h.elim
  | cons v vs =>
    obtain ⟨h1, h2⟩ := h
    obtain ⟨w, rfl, h3⟩ := Vals'.one h2
    exact ⟨v, w, rfl, h1, h3⟩
theorem on1_inv {g : D → Rs D} {ds : List D} {d : D} (h : on1 g ds = .ok d) : ∃ x, ds = [x] ∧ g x = .ok d := by
  unfold on1 at h
  split at h
  · exact ⟨_, rfl, h⟩
  · cases h
theorem on2_inv {g : D → D → Rs D} {ds : List D} {d : D} (h : on2 g ds = .ok d) : ∃ x y, ds = [x, y] ∧ g x y = .ok d := by
  unfold on2 at h
  split at h
  · exact ⟨_, _, rfl, h⟩
  · cases h
/-- one argument -/
theorem bi1 {f : Value} {g : D → Rs D} {r : List V → Hp → VK → Prop} (hc : CallR X f r) (hr : ∀ F H v x d Q, Le F H → Val X.K cl .b F H v x → g x = .ok d → Post X.K cl m F H d Q → r [v] H Q) : CallR X f (rBi X.K cl m (on1 g)) := by
  intro pins s σ H vs us Q I rv h
  obtain ⟨F, ds, d, le, hv, e, p⟩ := h
  obtain ⟨x, rfl, e⟩ := on1_inv e
  obtain ⟨v, rfl, h1⟩ := hv.one
  exact hc pins s σ H _ us Q I rv (hr F H v x d Q le h1 e p)
theorem bi2 {f : Value} {g : D → D → Rs D} {r : List V → Hp → VK → Prop} (hc : CallR X f r) (hr : ∀ F H v w x y d Q, Le F H → Val X.K cl .b F H v x → Val X.K cl .b F H w y → g x y = .ok d → Post X.K cl m F H d Q → r [v, w] H Q) :
    CallR X f (rBi X.K cl m (on2 g)) := by
  intro pins s σ H vs us Q I rv h
  obtain ⟨F, ds, d, le, hv, e, p⟩ := h
  obtain ⟨x, y, rfl, e⟩ := on2_inv e
  obtain ⟨v, w, rfl, h1, h2⟩ := hv.two
  exact hc pins s σ H _ us Q I rv (hr F H v w x y d Q le h1 h2 e p)
theorem bi_len (hm : m ≠ .n) : CallR X (.builtin "len") (rBi X.K cl m (on1 evLen)) :=
  bi1 call_len fun F H v x d Q le hv e p => by
    unfold evLen at e
    split at e
    · cases e
      obtain ⟨a, vs, rfl, h2, _, h3⟩ := hv.lst le
      refine ⟨_, vs.length, rfl, .inl ⟨vs, .inl h2, rfl⟩, ?_⟩
      rw [h3.length]
      exact p.int hm le
    · cases e
      obtain ⟨a, vs, rfl, h2, _, h3⟩ := hv.tup le
      refine ⟨_, vs.length, rfl, .inr ⟨vs, h2, rfl⟩, ?_⟩
      rw [h3.length]
      exact p.int hm le
    · cases e
      rename_i xs
      have h2 : Rep X.K cl F v (scD xs) := hv
      cases h2 with
      | scr h3 _ h4 =>
        refine ⟨_, _, rfl, .inl ⟨_, le.sqL h3, rfl⟩, ?_⟩
        rw [h4.length]
        exact p.int hm le
    · cases e
theorem bi_abs (hm : m ≠ .n) : CallR X (.builtin "abs") (rBi X.K cl m (on1 evAbs)) :=
  bi1 call_abs fun F H v x d Q le hv e p => by
    cases x <;> first | (cases e; done) | skip
    cases e
    have e1 := hv.int
    subst e1
    exact ⟨_, rfl, p.int hm le⟩
theorem bi_min2 (hc : X.calm = true) (hm : m ≠ .n) : CallR X (.builtin "min") (rBi X.K cl m (on2 evMin2)) :=
  bi2 (call_min2 hc) fun F H v w x y d Q le hv hw e p => by
    cases x <;> cases y <;> first | (cases e; done) | skip
    cases e
    have e1 := hv.int
    have e2 := hw.int
    subst e1 e2
    exact ⟨_, _, rfl, p.int hm le⟩
theorem bi_max2 (hc : X.calm = true) (hm : m ≠ .n) : CallR X (.builtin "max") (rBi X.K cl m (on2 evMax2)) :=
  bi2 (call_max2 hc) fun F H v w x y d Q le hv hw e p => by
    cases x <;> cases y <;> first | (cases e; done) | skip
    cases e
    have e1 := hv.int
    have e2 := hw.int
    subst e1 e2
    exact ⟨_, _, rfl, p.int hm le⟩
theorem evInts_inv {g : List Int → Rs D} {x d : D} (h : evInts g x = .ok d) : ∃ ns : List Int, x = .list (ns.map .int) ∧ g ns = .ok d := by
  cases x <;> first | (cases h; done) | skip
  rename_i xs
  simp only [evInts] at h
  split at h
  · rename_i ns e
    refine ⟨ns, ?_, h⟩
    have go : ∀ {xs : List D} {ns : List Int}, intsOf xs = some ns → xs = ns.map .int := by
      intro xs
      induction xs with
      | nil =>
        intro ns e
        cases e
        rfl
      | cons a r ih =>
        intro ns e
        cases a <;> simp only [intsOf] at e <;> first | (cases e; done) | skip
        obtain ⟨ms, e1, e2⟩ := Option.map_eq_some_iff.mp e
        subst e2
        rw [ih e1]
        rfl
    rw [go e]
  · cases h
theorem intsOf_map : ∀ ns : List Int, intsOf (ns.map PyData.int) = some ns
  | [] => rfl
  | n :: ns => by
    show (intsOf (ns.map PyData.int)).map (n :: ·) = _
    rw [intsOf_map ns]
    rfl
theorem Val.ints {ns : List Int} {v : V} (le : Le F H) (h : Val K cl m F H v (.list (ns.map .int))) : ∃ a, v = .ref a ∧ SqL K H a (ns.map V.int) := by
  obtain ⟨a, vs, rfl, h2, _, h3⟩ := h.lst le
  have e := (h3.of_ints (intsOf_map ns)).1
  subst e
  exact ⟨a, rfl, .inl h2⟩
theorem maxOf_spec : ∀ (r : List Int) (x m : Int), m ∈ x :: r → (∀ y, y ∈ x :: r → y ≤ m) → m = maxOf x r
  | [], x, m, h, _ => by
    have : m = x := by simpa using h
    rw [this]
    rfl
  | y :: r, x, m, h, g => by
    show m = maxOf (if x < y then y else x) r
    refine maxOf_spec r _ m ?_ fun z hz => ?_
    · by_cases q : x < y
      · rw [if_pos q]
        rcases List.mem_cons.mp h with h | h
        · have := g y (by simp)
          omega
        · exact h
      · rw [if_neg q]
        rcases List.mem_cons.mp h with h | h
        · rw [h]
          simp
        · rcases List.mem_cons.mp h with h | h
          · have := g x (by simp)
            have e : m = x := by omega
            rw [e]
            simp
          · exact List.mem_cons_of_mem _ h
    · rcases List.mem_cons.mp hz with h | h
      · split at h
        · rw [h]
          exact g y (by simp)
        · rw [h]
          exact g x (by simp)
      · exact g z (by simp [h])
theorem minOf_spec : ∀ (r : List Int) (x m : Int), m ∈ x :: r → (∀ y, y ∈ x :: r → m ≤ y) → m = minOf x r
  | [], x, m, h, _ => by
    have : m = x := by simpa using h
    rw [this]
    rfl
  | y :: r, x, m, h, g => by
    show m = minOf (if y < x then y else x) r
    refine minOf_spec r _ m ?_ fun z hz => ?_
    · by_cases q : y < x
      · rw [if_pos q]
        rcases List.mem_cons.mp h with h | h
        · have := g y (by simp)
          omega
        · exact h
      · rw [if_neg q]
        rcases List.mem_cons.mp h with h | h
        · rw [h]
          simp
        · rcases List.mem_cons.mp h with h | h
          · have := g x (by simp)
            have e : m = x := by omega
            rw [e]
            simp
          · exact List.mem_cons_of_mem _ h
    · rcases List.mem_cons.mp hz with h | h
      · split at h
        · rw [h]
          exact g y (by simp)
        · rw [h]
          exact g x (by simp)
      · exact g z (by simp [h])
theorem bi_maxl (hc : X.calm = true) (hm : m ≠ .n) : CallR X (.builtin "max") (rBi X.K cl m (on1 (evInts evMaxl))) :=
  bi1 (cr_max hc) fun F H v x d Q le hv e p => by
    obtain ⟨ns, rfl, e'⟩ := evInts_inv e
    clear e
    have e := e'
    clear e'
    obtain ⟨a, rfl, h⟩ := hv.ints le
    cases ns with
    | nil => cases e
    | cons n ns =>
      cases e
      exact ⟨a, _, rfl, h, by simp, fun m h1 h2 => by
        rw [maxOf_spec ns n m h1 h2]
        exact p.int hm le⟩
theorem bi_minl (hc : X.calm = true) (hm : m ≠ .n) : CallR X (.builtin "min") (rBi X.K cl m (on1 (evInts evMinl))) :=
  bi1 (cr_min hc) fun F H v x d Q le hv e p => by
    obtain ⟨ns, rfl, e'⟩ := evInts_inv e
    clear e
    have e := e'
    clear e'
    obtain ⟨a, rfl, h⟩ := hv.ints le
    cases ns with
    | nil => cases e
    | cons n ns =>
      cases e
      exact ⟨a, _, rfl, h, by simp, fun m h1 h2 => by
        rw [minOf_spec ns n m h1 h2]
        exact p.int hm le⟩
theorem bi_sum (hc : X.calm = true) (hm : m ≠ .n) : CallR X (.builtin "sum") (rBi X.K cl m (on1 (evInts fun ns => .ok (.int ns.sum)))) :=
  bi1 (cr_sum hc) fun F H v x d Q le hv e p => by
    obtain ⟨ns, rfl, e'⟩ := evInts_inv e
    clear e
    have e := e'
    clear e'
    obtain ⟨a, rfl, h⟩ := hv.ints le
    cases e
    exact ⟨a, _, rfl, h, p.int hm le⟩
theorem bi_int (hm : m ≠ .n) : CallR X (.type "int") (rBi X.K cl m (on1 evInt)) :=
  bi1 call_int1 fun F H v x d Q le hv e p => by
    cases x <;> first | (cases e; done) | skip
    · cases e
      have e1 := hv.bool
      subst e1
      exact .inr ⟨_, rfl, p.int hm le⟩
    · cases e
      have e1 := hv.int
      subst e1
      exact .inl ⟨_, rfl, p.int hm le⟩
theorem evBools_inv {g : List Bool → Bool} {x d : D} (h : evBools g x = .ok d) : ∃ (ds : List D) (bs : List Bool), x = .list ds ∧ boolsOf ds = some bs ∧ d = .bool (g bs) := by
  cases x <;> first | (cases h; done) | skip
  rename_i xs
  simp only [evBools] at h
  split at h
  · rename_i ns e
    cases h
    exact ⟨xs, ns, rfl, e, rfl⟩
  · cases h
theorem bi_all (hc : X.calm = true) (hm : m ≠ .n) : CallR X (.builtin "all") (rBi X.K cl m (on1 (evBools fun bs => bs.all id))) :=
  bi1 (cr_all hc) fun F H v x d Q le hv e p => by
    obtain ⟨ds, bs, rfl, e', rfl⟩ := evBools_inv e
    obtain ⟨a, vs, rfl, h2, _, h3⟩ := hv.lst le
    have ev := h3.of_bools e'
    subst ev
    exact ⟨a, bs, rfl, .inl h2, p.bool hm le⟩
theorem bi_any (hc : X.calm = true) (hm : m ≠ .n) : CallR X (.builtin "any") (rBi X.K cl m (on1 (evBools fun bs => bs.any id))) :=
  bi1 (cr_any hc) fun F H v x d Q le hv e p => by
    obtain ⟨ds, bs, rfl, e', rfl⟩ := evBools_inv e
    obtain ⟨a, vs, rfl, h2, _, h3⟩ := hv.lst le
    have ev := h3.of_bools e'
    subst ev
    exact ⟨a, bs, rfl, .inl h2, p.bool hm le⟩
theorem bi_list : CallR X (.type "list") (rBi X.K cl m (on1 evList)) :=
  bi1 call_list_of fun F H v x d Q le hv e p => by
    cases x <;> first | (cases e; done) | skip
    · cases e
      obtain ⟨a, vs, rfl, h2, z, h3⟩ := hv.lst le
      exact ⟨a, vs, rfl, .inl (.inl h2), fun q hq => p.new le hq z h3⟩
    · cases e
      obtain ⟨a, vs, rfl, h2, z, h3⟩ := hv.tup le
      exact ⟨a, vs, rfl, .inr h2, fun q hq => p.new le hq z h3⟩
theorem Post.tup {a : Addr} {vs : List V} {ds : List D} {Q : VK} (hm : m ≠ .n) (l : Le F H) (p : Post K cl m F H (.tuple ds) Q) (n : H a = none) (z : vs.length ≤ LIM) (r : Reps K cl F vs ds) : Q (.ref a) (upd H a (.tup vs)) :=
  (p.step (.new l n)).val hm (le_upd2 l) (.tup (.inl (.inl upd_same)) z (r.mono (le_upd (l.none n))))
theorem bi_gcd (hm : m ≠ .n) : CallR X (.builtin "math.gcd") (rBi X.K cl m (on2 evGcd)) :=
  bi2 cr_gcd fun F H v w x y d Q le hv hw e p => by
    cases x <;> cases y <;> first | (cases e; done) | skip
    cases e
    have e1 := hv.int
    have e2 := hw.int
    subst e1 e2
    exact ⟨_, _, rfl, p.int hm le⟩
theorem ins_perm (x : Int) : ∀ r : List Int, (ins x r).Perm (x :: r)
  | [] => .refl _
  | y :: r => by
    unfold ins
    split
    · exact .refl _
    · exact ((ins_perm x r).cons y).trans (.swap x y r)
theorem sortI_perm : ∀ r : List Int, (sortI r).Perm r
  | [] => .refl _
  | x :: r => (ins_perm x _).trans ((sortI_perm r).cons x)
theorem ins_sorted (x : Int) : ∀ r : List Int, r.Pairwise (· ≤ ·) → (ins x r).Pairwise (· ≤ ·)
  | [], _ => by simp [ins]
  | y :: r, h => by
    unfold ins
    have h1 := List.pairwise_cons.mp h
    split
    · rename_i q
      refine List.pairwise_cons.mpr ⟨fun z hz => ?_, h⟩
      rcases List.mem_cons.mp hz with e | e
      · rw [e]
        exact q
      · exact Int.le_trans q (h1.1 z e)
    · rename_i q
      refine List.pairwise_cons.mpr ⟨fun z hz => ?_, ins_sorted x r h1.2⟩
      rcases List.mem_cons.mp ((ins_perm x r).mem_iff.mp hz) with e | e
      · rw [e]
        omega
      · exact h1.1 z e
theorem sortI_sorted : ∀ r : List Int, (sortI r).Pairwise (· ≤ ·)
  | [] => .nil
  | x :: r => ins_sorted x _ (sortI_sorted r)
theorem sortI_uniq {a b : List Int} (p : a.Perm b) (h : a.Pairwise (· ≤ ·)) : a = sortI b :=
  List.Perm.eq_of_pairwise (le := (· ≤ ·)) (fun x y _ _ h1 h2 => Int.le_antisymm h1 h2) h (sortI_sorted b) (p.trans (sortI_perm b).symm)
theorem bi_sorted : CallR X (.builtin "sorted") (rBi X.K cl m (on1 (evInts fun ns => .ok (.list ((sortI ns).map .int))))) :=
  bi1 cr_sortedI fun F H v x d Q le hv e p => by
    obtain ⟨ns, rfl, e'⟩ := evInts_inv e
    clear e
    have e := e'
    clear e'
    obtain ⟨b, vs, e0, _, z0, h3⟩ := hv.lst le
    obtain ⟨a, rfl, h⟩ := hv.ints le
    cases e
    refine ⟨a, ns, rfl, h, fun ns' q hp hs hq => ?_⟩
    have es := sortI_uniq hp hs
    subst es
    refine p.new le hq ?_ Reps.ints
    rw [List.length_map, (sortI_perm ns).length_eq]
    have := h3.length
    rw [List.length_map] at this
    omega
/-- repr of data without dicts -/
theorem bi_repr (hg : X.A.guards = some []) (hu : X.A.units + 200 < cLine) (hm : m ≠ .n) : CallR X (.builtin "repr") (rBi X.K cl m (on1 evRepr)) := by
  intro pins s σ H vs us Q I rv h
  obtain ⟨F, ds, d, le, hv, e, p⟩ := h
  obtain ⟨x, rfl, e'⟩ := on1_inv e
  have e := e'
  clear e'
  obtain ⟨v, rfl, h1⟩ := hv.one
  obtain ⟨u, rfl, ru⟩ := vals1 rv
  unfold evRepr at e
  split at e
  · rename_i hok
    cases e
    unfold reprOk at hok
    simp only [Bool.and_eq_true, Bool.not_eq_true', decide_eq_true_eq] at hok
    obtain ⟨⟨⟨hs, hd⟩, hdep⟩, hlen⟩ := hok
    have hq : Q (.str x.shown) H := p.val hm le (.str _)
    have rep := h1.rep le
    rw [LIM_eq] at hlen
    have big : ∀ a, u = Value.ref a → (∃ as, Reads s.heap u x as) → wpAny (model X.prog X.w) X.A (call (.builtin "repr") [u]) (EP X pins σ Q) X.xe s := by
      rintro a rfl ⟨as, rd⟩
      exact repr_of_reads' rd hs (PyData.noDict_hsm hd) hg (by omega) (fun _ _ e => e) (fun h' t tk hk => ⟨.str _, H, I.kept (t' := tk) hk, ⟨_, rfl⟩, hq⟩) hlen
    have lay : ∀ {d : D} {v : V}, Rep X.K cl H v d → d.hasDict = false → Dp X.K H v d := by
      intro d v r
      exact (Rep.rec (motive_1 := fun v d _ => d.hasDict = false → Dp X.K H v d) (motive_2 := fun vs ds _ => PyData.hasDictAll ds = false → DpAll X.K H vs ds)
        (fun _ => .non) (fun b _ => .bl b) (fun i _ => .int i) (fun x _ => .str x) (fun _ _ _ _ z => by simp [scD, PyData.hasDict] at z)
        (fun h _ _ ih z => .lst (.inl h) (ih (by simpa [PyData.hasDict] using z))) (fun h _ _ ih z => .tup h (ih (by simpa [PyData.hasDict] using z))) (fun _ _ z => by simp [exD, PyData.hasDict] at z)
        (fun _ => .nil) (fun _ _ ih1 ih2 z => by
          simp only [PyData.hasDictAll, Bool.or_eq_false_iff] at z
          exact .cons (ih1 z.1) (ih2 z.2)) r)
    have rd := Dp.reads I x v u (lay rep hd) ru
    cases rep with
    | non =>
      cases ru
      exact PySem.P.repr_of_none ⟨.str _, H, I.tok _, ⟨_, rfl⟩, hq⟩
    | bl b =>
      cases ru
      refine PySem.P.repr_of_bool ⟨.str _, H, I.tok _, ⟨_, rfl⟩, ?_⟩
      exact hq
    | int i =>
      obtain ⟨t, rfl⟩ := ru
      have hi : i.natAbs.log2 < 1920 := by simpa [PyData.showable] using hs
      exact PySem.P.repr_of_int hi ⟨.str _, H, I.tok _, ⟨_, rfl⟩, hq⟩
    | str z =>
      obtain ⟨t, rfl⟩ := ru
      exact PySem.P.repr_of_str ⟨.str _, H, I.tok _, ⟨_, rfl⟩, hq⟩ hlen
    | lst _ _ _ => exact big _ ru rd
    | tup _ _ _ => exact big _ ru rd
    | scr _ _ _ => simp [scD, PyData.hasDict] at hd
    | exc _ _ => simp [exD, PyData.hasDict] at hd
  · cases e
end
end Z

/-! Z9: what is walked, targets, list comprehensions. -/
namespace Z
open PySem PySem.Spec PyProof.Rows L2

section
variable {G : Gm} {bl : List Str} {n : Nat} {W : WX} {X : Cx} {a b c : E} {m ma mb : Md} {l r r2 tg : Expr} {pos : Pos}
/-- a list, a tuple is walked -/
theorem iter_lst {pins : List (Addr × Obj)} {σ : L2.St} {H : Hp} {s : Shared} {R : It → Hp → Prop} {p : Addr} {vs : List V} (I : Inv X pins σ H s) (h : SqL X.K H p vs) (q : R (Itl X.K p) H) : wpAny (model X.prog X.w) X.A (pyIter (.ref p)) (PIE X pins σ tg R) X.xe s := by
  obtain ⟨its, rv, pl, hz⟩ := I.list h
  refine wpAny_pyIter_list pl.isList ⟨_, [_], _, _, H, rfl, I.kept (t' := s.toks) fun b o e => Heap.get?_push_of_some _ e, turn_list p _, ⟨_, Heap.get?_push_size _ rfl, rfl, rfl⟩, fun b hb => ?_, q⟩
  cases List.mem_singleton.mp hb
  exact I.fpOk (Nat.le_refl _) (I.hok.fresh (Nat.le_refl _))
theorem iter_tup {pins : List (Addr × Obj)} {σ : L2.St} {H : Hp} {s : Shared} {R : It → Hp → Prop} {p : Addr} {vs : List V} (I : Inv X pins σ H s) (h : SqT X.K H p vs) (q : R (Itt X.K p) H) : wpAny (model X.prog X.w) X.A (pyIter (.ref p)) (PIE X pins σ tg R) X.xe s := by
  obtain ⟨its, rv, pl, hz⟩ := I.tuple h
  refine wpAny_pyIter_tuple (show s.heap.IsTuple p its.toArray from pl) ⟨_, [_], _, _, H, rfl, I.kept (t' := s.toks) fun b o e => Heap.get?_push_of_some _ e, turn_tuple p _, ⟨_, Heap.get?_push_size _ rfl, rfl, rfl⟩, fun b hb => ?_, q⟩
  cases List.mem_singleton.mp hb
  exact I.fpOk (Nat.le_refl _) (I.hok.fresh (Nat.le_refl _))
theorem wk_lst {K : PySem.W.Frag} {cl : Nat → Addr} {G0 F : Hp} {p : Addr} {vs : List V} {ds : List D} (h : SqL K G0 p vs) (r : Reps K cl F vs ds) (z : vs.length ≤ LIM) : Wk K cl (Itl K p) G0 F ds where
  len := by rw [← r.length]; exact z
  go := fun F' H' i g0 l1 l2 hi => by
    have hi' : i < vs.length := by rw [r.length]; exact hi
    refine ⟨⟨vs, vs[i], g0.sqL h, by simp [hi']⟩, fun x H'' y => ⟨F', ?_, fun d hd => ?_⟩⟩
    · rw [y.1]
      exact .refl l2
    · obtain ⟨v, h1, h2⟩ := r.get hd
      have e := y.2 vs (g0.sqL h)
      rw [h1] at e
      cases e
      exact h2.mono l1
  stop := fun H' i g0 hi => ⟨vs, g0.sqL h, by rw [r.length]; exact hi⟩
theorem wk_tup {K : PySem.W.Frag} {cl : Nat → Addr} {G0 F : Hp} {p : Addr} {vs : List V} {ds : List D} (h : SqT K G0 p vs) (r : Reps K cl F vs ds) (z : vs.length ≤ LIM) : Wk K cl (Itt K p) G0 F ds where
  len := by rw [← r.length]; exact z
  go := fun F' H' i g0 l1 l2 hi => by
    have hi' : i < vs.length := by rw [r.length]; exact hi
    refine ⟨⟨vs, vs[i], g0.sqT h, by simp [hi']⟩, fun x H'' y => ⟨F', ?_, fun d hd => ?_⟩⟩
    · rw [y.1]
      exact .refl l2
    · obtain ⟨v, h1, h2⟩ := r.get hd
      have e := y.2 vs (g0.sqT h)
      rw [h1] at e
      cases e
      exact h2.mono l1
  stop := fun H' i g0 hi => ⟨vs, g0.sqT h, by rw [r.length]; exact hi⟩
theorem rangeL_len (lo hi : Int) : (rangeL lo hi).length = (hi - lo).toNat := by simp [rangeL]
theorem rangeL_get {lo hi : Int} {i : Nat} {d : D} (h : (rangeL lo hi)[i]? = some d) : d = .int (lo + i) := by
  unfold rangeL at h
  rw [List.getElem?_map] at h
  obtain ⟨k, h1, h2⟩ := Option.map_eq_some_iff.mp h
  have : k = i := by
    rw [List.getElem?_eq_some_iff] at h1
    obtain ⟨_, h1⟩ := h1
    simpa using h1.symm
  rw [← h2, this]
theorem wk_rng {K : PySem.W.Frag} {cl : Nat → Addr} {G0 F : Hp} {lo hi : Int} (z : hi - lo ≤ 16777216) : Wk K cl (Itr lo (hi - lo).toNat) G0 F (rangeL lo hi) where
  len := by rw [rangeL_len]; unfold LIM; omega
  go := fun F' H' i g0 l1 l2 h => by
    rw [rangeL_len] at h
    refine ⟨h, fun x H'' y => ⟨F', ?_, fun d hd => ?_⟩⟩
    · rw [y.1]
      exact .refl l2
    · rw [y.2, rangeL_get hd]
      exact .int _
  stop := fun H' i g0 h => by
    rw [rangeL_len] at h
    exact h
theorem enumL_get : ∀ {xs : List D} {k : Int} {i : Nat} {d : D}, (enumL k xs)[i]? = some d → ∃ x, xs[i]? = some x ∧ d = .tuple [.int (k + i), x]
  | [], k, i, d, h => by simp [enumL] at h
  | x :: xs, k, 0, d, h => by
    cases h
    exact ⟨x, rfl, by simp⟩
  | x :: xs, k, i + 1, d, h => by
    obtain ⟨y, h1, h2⟩ := enumL_get (xs := xs) (k := k + 1) (i := i) (d := d) h
    refine ⟨y, h1, ?_⟩
    rw [h2]
    have : k + 1 + (i : Int) = k + ((i + 1 : Nat) : Int) := by omega
    rw [this]
theorem enumL_len : ∀ (xs : List D) (k : Int), (enumL k xs).length = xs.length
  | [], _ => rfl
  | _ :: xs, k => by simp [enumL, enumL_len xs]
theorem wk_enum {K : PySem.W.Frag} {cl : Nat → Addr} {G0 F : Hp} {p : Addr} {vs : List V} {ds : List D} (h : SqL K G0 p vs) (r : Reps K cl F vs ds) (z : vs.length ≤ LIM) : Wk K cl (Ite K p) G0 F (enumL 0 ds) where
  len := by rw [enumL_len, ← r.length]; exact z
  go := fun F' H' i g0 l1 l2 hi => by
    rw [enumL_len] at hi
    have hi' : i < vs.length := by rw [r.length]; exact hi
    refine ⟨⟨vs, vs[i], g0.sqL h, by simp [hi']⟩, fun x H'' y => ?_⟩
    obtain ⟨T, z, rfl, hT, rfl, hz⟩ := y
    refine ⟨upd F' T (.tup [.int (i : Nat), z]), .new l2 hT, fun d hd => ?_⟩
    obtain ⟨e, h1, rfl⟩ := enumL_get hd
    obtain ⟨v, h2, h3⟩ := r.get h1
    have ez := hz vs (g0.sqL h)
    rw [h2] at ez
    cases ez
    have e0 : (0 : Int) + (i : Int) = ((i : Nat) : Int) := by omega
    rw [e0]
    exact .tup (.inl (.inl upd_same)) (by show 2 ≤ LIM; unfold LIM; omega) (.cons (.int _) (.cons (h3.mono (l1.trans (le_upd (l2.none hT)))) .nil))
  stop := fun H' i g0 hi => ⟨vs, g0.sqL h, by rw [r.length]; rw [enumL_len] at hi; exact hi⟩
theorem zipL_get : ∀ {xs ys : List D} {i : Nat} {d : D}, (zipL xs ys)[i]? = some d → ∃ x y, xs[i]? = some x ∧ ys[i]? = some y ∧ d = .tuple [x, y]
  | [], _, i, d, h => by simp [zipL] at h
  | _ :: _, [], i, d, h => by simp [zipL] at h
  | x :: xs, y :: ys, 0, d, h => by
    cases h
    exact ⟨x, y, rfl, rfl, rfl⟩
  | x :: xs, y :: ys, i + 1, d, h => zipL_get (xs := xs) (ys := ys) (i := i) (d := d) h
theorem zipL_len : ∀ xs ys : List D, (zipL xs ys).length = min xs.length ys.length
  | [], _ => by simp [zipL]
  | _ :: _, [] => by simp [zipL]
  | x :: xs, y :: ys => by
    simp only [zipL, List.length_cons, zipL_len xs ys]
    omega
theorem wk_zip {K : PySem.W.Frag} {cl : Nat → Addr} {G0 F : Hp} {p q : Addr} {vs ws : List V} {ds es : List D} (h : SqL K G0 p vs) (g : SqL K G0 q ws) (r : Reps K cl F vs ds) (t : Reps K cl F ws es) (z : vs.length ≤ LIM) : Wk K cl (Itz K p q) G0 F (zipL ds es) where
  len := by
    have h1 := r.length
    rw [zipL_len]
    omega
  go := fun F' H' i g0 l1 l2 hi => by
    rw [zipL_len] at hi
    have h1 := r.length
    have h2 := t.length
    have i1 : i < vs.length := by omega
    have i2 : i < ws.length := by omega
    refine ⟨⟨vs, ws, vs[i], ws[i], g0.sqL h, g0.sqL g, by simp [i1], by simp [i2]⟩, fun x H'' y => ?_⟩
    obtain ⟨T, z1, z2, rfl, hT, rfl, q1, q2⟩ := y
    refine ⟨upd F' T (.tup [z1, z2]), .new l2 hT, fun d hd => ?_⟩
    obtain ⟨d1, d2, e1, e2, rfl⟩ := zipL_get hd
    obtain ⟨v1, g1, g2⟩ := r.get e1
    obtain ⟨v2, g3, g4⟩ := t.get e2
    have z1e := q1 vs (g0.sqL h)
    have z2e := q2 ws (g0.sqL g)
    rw [g1] at z1e
    rw [g3] at z2e
    cases z1e
    cases z2e
    have lu := l1.trans (le_upd (l2.none hT) (o := .tup [z1, z2]))
    exact .tup (.inl (.inl upd_same)) (by show 2 ≤ LIM; unfold LIM; omega) (.cons (g2.mono lu) (.cons (g4.mono lu) .nil))
  stop := fun H' i g0 hi => by
    rw [zipL_len] at hi
    have h1 := r.length
    have h2 := t.length
    refine ⟨vs, ws, g0.sqL h, g0.sqL g, ?_⟩
    omega
theorem items_inv {d : D} {ds : List D} (h : items d = .ok ds) : d = .list ds ∨ d = .tuple ds := by
  cases d <;> first | (cases h; done) | (cases h; first | exact .inl rfl | exact .inr rfl)
theorem items_er {d : D} {c : Nat} {k : Int} : items d ≠ .er c k := by
  intro h
  cases d <;> cases h
/-- what stands till the walk's end -/
def stays : Md → Hp → Hp → Hp
  | .x, F, _ => F
  | _, _, H => H
theorem pi_z_seq {e : E} (hm : m ≠ .n) (ha : PE X l (tM X.K G n W m e)) : PI X tg l (tIt X.K G n W m e) := by
  refine ⟨fun pins s σ H R I h => ?_⟩
  obtain ⟨B, F, ρ, S, h⟩ := h
  have run : ∀ (Q : VK), (match G.ev n e ρ with | .ok d => Post X.K G.cl m F H d Q | .er c k => XC G W c k σ F H | .bad => False) → _ := fun Q hq => ha.run pins s σ H Q I ⟨B, F, ρ, S, hq⟩
  cases ea : G.ev n e ρ with
  | bad => rw [ea] at h; exact h.elim
  | er c k =>
    rw [ea] at h
    exact thn (run (fun _ _ => False) (by rw [ea]; exact h)) fun v s1 ⟨x, H1, I1, r1, z⟩ => z.elim
  | ok d =>
    rw [ea] at h
    simp only [Rs.bind_ok] at h
    cases ei : items d with
    | bad => rw [ei] at h; exact h.elim
    | er c k => exact absurd ei items_er
    | ok ds =>
      rw [ei] at h
      refine thn (run (fun v H1 => ∃ F1, Ext F H F1 H1 ∧ Val X.K G.cl m F1 H1 v d) (by rw [ea]; exact Post.mk hm fun v F1 H1 x1 r1 => ⟨F1, x1, r1⟩)) fun u s1 hu => ?_
      obtain ⟨v, H1, I1, rv, F1, x1, hv⟩ := hu
      rcases items_inv ei with rfl | rfl
      · cases m with
        | n => exact absurd rfl hm
        | b =>
          obtain ⟨p, vs, rfl, h1, z, h3⟩ := hv
          cases rv
          exact iter_lst I1 (.inl h1) (h _ F1 H1 x1 (wk_lst (.inl h1) h3 z))
        | x =>
          have hr : Rep X.K G.cl F1 v (.list ds) := hv
          cases hr with
          | lst h1 z h3 =>
            cases rv
            exact iter_lst I1 (.inl (x1.le.rd h1)) (h _ F1 H1 x1 (wk_lst (.inl h1) h3 z))
      · cases m with
        | n => exact absurd rfl hm
        | b =>
          obtain ⟨p, vs, rfl, h1, z, h3⟩ := hv
          cases rv
          exact iter_tup I1 h1 (h _ F1 H1 x1 (wk_tup h1 h3 z))
        | x =>
          have hr : Rep X.K G.cl F1 v (.tuple ds) := hv
          cases hr with
          | tup h1 z h3 =>
            cases rv
            exact iter_tup I1 (x1.le.sqT h1) (h _ F1 H1 x1 (wk_tup h1 h3 z))
theorem evRng_inv {lo hi : Int} {d : D} (h : evRng lo hi = .ok d) : d = .list (rangeL lo hi) ∧ -16777216 ≤ lo ∧ lo ≤ 16777216 ∧ -16777216 ≤ hi ∧ hi ≤ 16777216 ∧ hi - lo ≤ 16777216 := by
  unfold evRng at h
  split at h
  · cases h
    exact ⟨rfl, by assumption⟩
  · cases h
theorem evRng_er {lo hi : Int} {c : Nat} {k : Int} : evRng lo hi ≠ .er c k := by
  unfold evRng
  split <;> intro h <;> cases h
theorem pi_z_rng1 {p : Pos} (hg : Gl X "range") (hm : X.mg "range" = none) (hs : noStar l = true) (ha : PE X l (tM X.K G n W .x a)) : PI X tg (.Call (.Name "range" p) [l] [] pos) (tIt X.K G n W m (.rng1 a)) :=
  (pi_range1 hg hm (PAll.pa (G := G) (n := n) (W := W) (m := .x) (by decide) (.cons hs ha .nil)) (by rw [star_of hs]; rfl)).zimp fun σ H R h => by
    obtain ⟨B, F, ρ, S, h⟩ := h
    have e : G.ev n (.rng1 a) ρ = (G.ev n a ρ).bind fun x => match x with
      | .int n => evRng 0 n
      | _ => .bad := rfl
    rw [e] at h
    have e2 : evEs (callF G.T n) G.gs [a] ρ = (G.ev n a ρ).bind fun x => (Rs.ok []).bind fun r => .ok (x :: r) := rfl
    refine ⟨B, F, ρ, S, ?_⟩
    rw [e2]
    cases ea : G.ev n a ρ with
    | bad => rw [ea] at h; exact h
    | er c k => rw [ea] at h; exact h
    | ok d =>
      rw [ea] at h
      simp only [Rs.bind_ok] at h ⊢
      intro vs F1 H1 x1 hv
      obtain ⟨v, rfl, h1⟩ := hv.one
      cases d <;> first | exact h.elim | skip
      have e1 := h1.int
      subst e1
      rename_i i
      dsimp only at h
      cases ei : evRng 0 i with
      | bad => rw [ei] at h; exact h.elim
      | er c k => exact absurd ei evRng_er
      | ok d =>
        rw [ei] at h
        obtain ⟨rfl, b1, b2, b3, b4, b5⟩ := evRng_inv ei
        refine ⟨i, rfl, by omega, by omega, ?_⟩
        have w := h (Itr 0 (i - 0).toNat) F1 H1 x1 (wk_rng (by omega))
        rwa [Int.sub_zero] at w
theorem pi_z_rng2 {p : Pos} (hg : Gl X "range") (hm : X.mg "range" = none) (hs : noStar l = true) (hs2 : noStar r = true) (ha : PE X l (tM X.K G n W .x a)) (hb : PE X r (tM X.K G n W .x b)) :
    PI X tg (.Call (.Name "range" p) [l, r] [] pos) (tIt X.K G n W m (.rng2 a b)) :=
  (pi_range2 hg hm (PAll.pa (G := G) (n := n) (W := W) (m := .x) (by decide) (.cons hs ha (.cons hs2 hb .nil))) (by rw [star_of hs, star_of hs2]; rfl) (by rw [star_of hs2]; rfl)).zimp fun σ H R h => by
    obtain ⟨B, F, ρ, S, h⟩ := h
    have e : G.ev n (.rng2 a b) ρ = (G.ev n a ρ).bind fun x => (G.ev n b ρ).bind fun y => match x, y with
      | .int m, .int n => evRng m n
      | _, _ => .bad := rfl
    rw [e] at h
    have e2 : evEs (callF G.T n) G.gs [a, b] ρ = (G.ev n a ρ).bind fun x => ((G.ev n b ρ).bind fun y => (Rs.ok []).bind fun r => .ok (y :: r)).bind fun r => .ok (x :: r) := rfl
    refine ⟨B, F, ρ, S, ?_⟩
    rw [e2]
    cases ea : G.ev n a ρ with
    | bad => rw [ea] at h; exact h
    | er c k => rw [ea] at h; exact h
    | ok d =>
      rw [ea] at h
      cases eb : G.ev n b ρ with
      | bad => rw [eb] at h; exact h
      | er c k => rw [eb] at h; exact h
      | ok d2 =>
        rw [eb] at h
        simp only [Rs.bind_ok] at h ⊢
        intro vs F1 H1 x1 hv
        obtain ⟨v, w, rfl, h1, h2⟩ := hv.two
        cases d <;> cases d2 <;> first | exact h.elim | skip
        have e1 := h1.int
        have e2 := h2.int
        subst e1 e2
        rename_i i j
        dsimp only at h
        cases ei : evRng i j with
        | bad => rw [ei] at h; exact h.elim
        | er c k => exact absurd ei evRng_er
        | ok d =>
          rw [ei] at h
          obtain ⟨rfl, b1, b2, b3, b4, b5⟩ := evRng_inv ei
          exact ⟨i, j, rfl, ⟨by omega, by omega, by omega, by omega⟩, h (Itr i (j - i).toNat) F1 H1 x1 (wk_rng b5)⟩
theorem pi_z_enum {p tpos : Pos} {elts : List Expr} {kk : Nat} (hg : Gl X "enumerate") (hm : X.mg "enumerate" = none) (hs : noStar l = true) (ha : PE X l (tM X.K G n W .x a)) :
    PI X (.Tuple elts kk tpos) (.Call (.Name "enumerate" p) [l] [] pos) (tIt X.K G n W m (.enum a)) :=
  (pi_enum hg hm (PAll.pa (G := G) (n := n) (W := W) (m := .x) (by decide) (.cons hs ha .nil)) (by rw [star_of hs]; rfl)).zimp fun σ H R h => by
    obtain ⟨B, F, ρ, S, h⟩ := h
    have e : G.ev n (.enum a) ρ = (G.ev n a ρ).bind fun x => match x with
      | .list xs => .ok (.list (enumL 0 xs))
      | _ => .bad := rfl
    rw [e] at h
    have e2 : evEs (callF G.T n) G.gs [a] ρ = (G.ev n a ρ).bind fun x => (Rs.ok []).bind fun r => .ok (x :: r) := rfl
    refine ⟨B, F, ρ, S, ?_⟩
    rw [e2]
    cases ea : G.ev n a ρ with
    | bad => rw [ea] at h; exact h
    | er c k => rw [ea] at h; exact h
    | ok d =>
      rw [ea] at h
      simp only [Rs.bind_ok] at h ⊢
      intro vs F1 H1 x1 hv
      obtain ⟨v, rfl, h1⟩ := hv.one
      cases d <;> first | exact h.elim | skip
      have hr : Rep X.K G.cl F1 v (.list _) := h1
      cases hr with
      | lst g1 z g3 =>
        refine ⟨_, _, rfl, .inl (x1.le.rd g1), ?_⟩
        refine h _ F1 H1 x1 (wk_enum ?_ g3 z)
        cases m with
        | x => exact .inl g1
        | b => exact .inl (x1.le.rd g1)
        | n => exact .inl (x1.le.rd g1)
theorem pi_z_zip {p tpos : Pos} {elts : List Expr} {kk : Nat} (hg : Gl X "zip") (hm : X.mg "zip" = none) (hs : noStar l = true) (hs2 : noStar r = true) (ha : PE X l (tM X.K G n W .x a)) (hb : PE X r (tM X.K G n W .x b)) :
    PI X (.Tuple elts kk tpos) (.Call (.Name "zip" p) [l, r] [] pos) (tIt X.K G n W m (.zip a b)) :=
  (pi_zip hg hm (PAll.pa (G := G) (n := n) (W := W) (m := .x) (by decide) (.cons hs ha (.cons hs2 hb .nil))) (star_of hs) (by rw [star_of hs2]; rfl)).zimp fun σ H R h => by
    obtain ⟨B, F, ρ, S, h⟩ := h
    have e : G.ev n (.zip a b) ρ = (G.ev n a ρ).bind fun x => (G.ev n b ρ).bind fun y => match x, y with
      | .list xs, .list ys => .ok (.list (zipL xs ys))
      | _, _ => .bad := rfl
    rw [e] at h
    have e2 : evEs (callF G.T n) G.gs [a, b] ρ = (G.ev n a ρ).bind fun x => ((G.ev n b ρ).bind fun y => (Rs.ok []).bind fun r => .ok (y :: r)).bind fun r => .ok (x :: r) := rfl
    refine ⟨B, F, ρ, S, ?_⟩
    rw [e2]
    cases ea : G.ev n a ρ with
    | bad => rw [ea] at h; exact h
    | er c k => rw [ea] at h; exact h
    | ok d =>
      rw [ea] at h
      cases eb : G.ev n b ρ with
      | bad => rw [eb] at h; exact h
      | er c k => rw [eb] at h; exact h
      | ok d2 =>
        rw [eb] at h
        simp only [Rs.bind_ok] at h ⊢
        intro vs F1 H1 x1 hv
        obtain ⟨v, w, rfl, h1, h2⟩ := hv.two
        cases d <;> cases d2 <;> first | exact h.elim | skip
        have hr : Rep X.K G.cl F1 v (.list _) := h1
        have hr2 : Rep X.K G.cl F1 w (.list _) := h2
        cases hr with
        | lst g1 z g3 =>
          cases hr2 with
          | lst k1 _ k3 =>
            refine ⟨_, _, _, _, rfl, .inl (x1.le.rd g1), .inl (x1.le.rd k1), ?_⟩
            cases m with
            | x => exact h _ F1 H1 x1 (wk_zip (.inl g1) (.inl k1) g3 k3 z)
            | b => exact h _ F1 H1 x1 (wk_zip (.inl (x1.le.rd g1)) (.inl (x1.le.rd k1)) g3 k3 z)
            | n => exact h _ F1 H1 x1 (wk_zip (.inl (x1.le.rd g1)) (.inl (x1.le.rd k1)) g3 k3 z)
end
end Z

/-! Z10: targets, list comprehensions, list(range(..)). -/
namespace Z
open PySem PySem.Spec PyProof.Rows L2

/-! ### slots forgotten -/
theorem wipe_len (σ : L2.St) : ∀ own : List Nat, (L2.wipe σ own).length = σ.length
  | [] => rfl
  | i :: is => by
    show ((L2.wipe σ is).set i none).length = _
    rw [List.length_set, wipe_len σ is]
theorem wipe_get (σ : L2.St) : ∀ (own : List Nat) (j : Nat), (L2.wipe σ own)[j]? = if j ∈ own ∧ j < σ.length then some none else σ[j]?
  | [], j => by
    rw [if_neg (by simp)]
    rfl
  | i :: is, j => by
    show ((L2.wipe σ is).set i none)[j]? = _
    rw [List.getElem?_set, wipe_len, wipe_get σ is j]
    by_cases h : i = j
    · subst h
      by_cases hl : i < σ.length
      · simp [hl]
      · simp [hl]
    · have : ¬ j = i := fun z => h z.symm
      simp [h, this]
theorem wipe_set {σ : L2.St} {own : List Nat} {i : Nat} {v : Option V} (h : i ∈ own) : L2.wipe (σ.set i v) own = L2.wipe σ own := by
  apply List.ext_getElem?
  intro j
  rw [wipe_get, wipe_get, List.length_set]
  by_cases hj : j ∈ own ∧ j < σ.length
  · rw [if_pos hj, if_pos hj]
  · rw [if_neg hj, if_neg hj, List.getElem?_set]
    by_cases e : i = j
    · subst e
      have hl : ¬ i < σ.length := fun z => hj ⟨h, z⟩
      rw [if_pos rfl, if_neg hl, List.getElem?_eq_none (by omega)]
    · rw [if_neg e]
theorem wipe_wipe (σ : L2.St) (own : List Nat) : L2.wipe (L2.wipe σ own) own = L2.wipe σ own := by
  apply List.ext_getElem?
  intro j
  rw [wipe_get, wipe_len, wipe_get]
  by_cases hj : j ∈ own ∧ j < σ.length
  · rw [if_pos hj, if_pos hj]
  · rw [if_neg hj, if_neg hj]

/-- where names may be stored -/
def Sto (X : Cx) (raw : Option Scope) : Prop := ∀ x, storeB raw X.env.scope x = true → Loc X.env.scope x ∧ (X.fn x = true ∨ X.env.scope.names.lookup x = some .local)
theorem tg_noStar {N : List Str} {sc : Scope} {raw : Option Scope} {t : Tg} {l : Expr} (h : okTg N sc raw t l = true) : noStar l = true := by
  cases l <;> first | rfl | (cases t <;> simp [okTg] at h)
theorem asg_cons {l : Expr} {ls : List Expr} {env : Env} (h : noStar l = true) : assignEach (l :: ls) env = (false, assign l env) :: assignEach ls env := by
  cases l <;> first | rfl | cases h
theorem asgs_of {N : List Str} {sc : Scope} {raw : Option Scope} {env : Env} : ∀ {ts : List Tg} {ls : List Expr}, okTgs N sc raw ts ls = true → (assignEach ls env).length = ts.length ∧ (assignEach ls env).findIdx? (·.1) = none
  | [], ls, h => by
    cases ls with
    | nil => exact ⟨rfl, rfl⟩
    | cons l ls => simp [okTgs] at h
  | t :: ts, [], h => by simp [okTgs] at h
  | t :: ts, l :: ls, h => by
    simp only [okTgs, Bool.and_eq_true] at h
    obtain ⟨h1, h2⟩ := asgs_of (env := env) h.2
    rw [asg_cons (tg_noStar h.1)]
    refine ⟨by simp [h1], ?_⟩
    rw [List.findIdx?_cons]
    simp [h2]
theorem bindTs_len : ∀ {ts : List Tg} {ds : List D} {ρ ρ' : En}, bindTs ts ds ρ = .ok ρ' → ts.length = ds.length
  | [], [], _, _, _ => rfl
  | [], _ :: _, _, _, h => by simp [bindTs] at h
  | _ :: _, [], _, _, h => by simp [bindTs] at h
  | t :: ts, d :: ds, ρ, ρ', h => by
    simp only [bindTs] at h
    cases e : bindT t d ρ with
    | bad => rw [e] at h; cases h
    | er c k => rw [e] at h; cases h
    | ok ρ1 =>
      rw [e] at h
      simp [bindTs_len h]
section
variable {G : Gm} {bl : List Str} {n : Nat} {W : WX} {X : Cx} {raw : Option Scope}
mutual
theorem pg_z (hc : X.calm = true) (hN : X.N.Nodup) (st : Sto X raw) : ∀ (t : Tg) (l : Expr), okTg X.N X.env.scope raw t l = true → PG X l (tTg X.K G t)
  | .nm i, l, h => by
    cases l <;> first | (simp [okTg] at h; done) | skip
    simp only [okTg, Bool.and_eq_true, decide_eq_true_eq] at h
    obtain ⟨h1, h2⟩ := st _ h.2
    refine (pg_name hN h.1 h1 h2).zimp fun v σ H Q q => ?_
    obtain ⟨B, F, ρ, d, S, r, ρ', e, q⟩ := q
    have e' : ρ.set i (.fz d) = ρ' := Rs.ok.inj e
    subst e'
    exact q _ (S.set r) fun own ho => wipe_set (ho i (by simp [slotsT]))
  | .tup ts, l, h => by
    cases l <;> first | (simp [okTg] at h; done) | skip
    simp only [okTg] at h
    obtain ⟨h1, h2⟩ := asgs_of (env := X.env) h
    refine (pg_tup hc (pgs_z hc hN st ts _ h) h1 h2).zimp fun v σ H Q q => ?_
    obtain ⟨B, F, ρ, d, S, r, ρ', e, q⟩ := q
    cases d <;> first | (simp [bindT] at e; done) | skip
    rename_i ds
    have e' : bindTs ts ds ρ = .ok ρ' := e
    cases r with
    | tup g1 g2 g3 => exact ⟨_, _, rfl, S.le.sqT g1, by rw [g3.length, ← bindTs_len e'], B, F, ρ, ds, S, g3, ρ', e', q⟩
theorem pgs_z (hc : X.calm = true) (hN : X.N.Nodup) (st : Sto X raw) : ∀ (ts : List Tg) (ls : List Expr), okTgs X.N X.env.scope raw ts ls = true → PGs X ls (tTgs X.K G ts)
  | [], ls, h => by
    cases ls with
    | cons l ls => simp [okTgs] at h
    | nil =>
      refine ⟨fun pins s σ H vs us Q I r q => pgs_nil.run pins s σ H vs us Q I r ?_⟩
      obtain ⟨B, F, ρ, ds, S, r, ρ', e, q⟩ := q
      cases ds with
      | cons d ds => simp [bindTs] at e
      | nil =>
        cases r
        have e' : ρ = ρ' := Rs.ok.inj e
        subst e'
        exact ⟨rfl, q σ S fun _ _ => rfl⟩
  | t :: ts, [], h => by simp [okTgs] at h
  | t :: ts, l :: ls, h => by
    simp only [okTgs, Bool.and_eq_true] at h
    refine ⟨fun pins s σ H vs us Q I r q => (pgs_cons (pg_z hc hN st t l h.1) (pgs_z hc hN st ts ls h.2) (by rw [asg_cons (tg_noStar h.1)]; rfl)).run pins s σ H vs us Q I r ?_⟩
    obtain ⟨B, F, ρ, ds, S, rr, ρ', e, q⟩ := q
    cases ds with
    | nil => simp [bindTs] at e
    | cons d ds =>
      cases rr with
      | @cons v _ vs _ r1 r2 =>
        have e' : (bindT t d ρ).bind (bindTs ts ds) = .ok ρ' := e
        cases e1 : bindT t d ρ with
        | bad => rw [e1] at e'; cases e'
        | er c k => rw [e1] at e'; cases e'
        | ok ρ1 =>
          rw [e1] at e'
          refine ⟨v, vs, rfl, B, F, ρ, d, S, r1, ρ1, e1, fun σ1 S1 w1 => ⟨B, F, ρ1, ds, S1, r2, ρ', e', fun σ2 S2 w2 => q σ2 S2 fun own ho => ?_⟩⟩
          rw [w2 own fun i hi => ho i (by simp [slotsTs, hi]), w1 own fun i hi => ho i (by simp [slotsTs, hi])]
end

/-! ### list comprehensions -/
def Wn : WX := fun _ _ _ _ => False
theorem cx_no {P : Program} {w : World} {l : List Env} {H : Hp} {s : Shared} {e : Value} {s' : Shared} (h : CX P w l H s (fun _ _ _ => False) e s') : False := by
  obtain ⟨_, _, _, _, _, _, _, _, _, _, _, _, z⟩ := h
  exact z
theorem Cn.blk (C : Cn G bl n W X) {s : Shared} {H : Hp} {scope : Scope} {cenv : Env} {fp : List Addr} : Cn G bl n Wn (X.blk s H scope cenv fp) :=
  ⟨C.calm, C.nd, C.room, C.gd, C.blt, C.gcd, C.gl, C.fn, C.ok, C.xf, fun σ pins H s e s' I c => cx_no c⟩
theorem Sto.blk {scope sc : Scope} {X : Cx} (hs : X.env.scope = relS scope sc) (hf : ∀ x, X.fn x = (scope.names.lookup x == some .cell)) : Sto X (some scope) := by
  intro x h
  unfold storeB at h
  rw [hs]
  cases e : scope.names.lookup x with
  | none => simp [e] at h
  | some k =>
    cases k <;> first | (simp [e] at h; done) | skip
    · have q : (relS scope sc).names.lookup x = some .local := lookup_relS_keep (by decide) e
      exact ⟨.inl q, .inr q⟩
    · have q : (relS scope sc).names.lookup x = some .cell := lookup_relS_keep (by decide) e
      exact ⟨.inr q, .inl (by rw [hf, e]; rfl)⟩
/-- the tests of a clause -/
def tTests (K : PySem.W.Frag) (G : Gm) (n : Nat) (W : WX) (cs : List E) : TT := fun σ H Q => ∃ B F ρ, Stt K G.cl B F H ρ σ ∧ match evTs (callF G.T n) G.gs cs ρ with
  | .ok b => ∀ F' H', Ext F H F' H' → Q b H'
  | .er c k => XC G W c k σ F H
  | .bad => False
theorem pts_z_nil : PTs X [] (tTests X.K G n W []) := ⟨fun pins s σ H Q I h => pts_nil.run pins s σ H Q I (by
  obtain ⟨B, F, ρ, S, h⟩ := h
  exact h F H (.refl S.le))⟩
theorem pts_z_one {l : Expr} {c : E} (h : PT X l (tTs X.K G n W c)) : PTs X [l] (tTests X.K G n W [c]) := ⟨fun pins s σ H Q I q => (pts_one h).run pins s σ H Q I (by
  obtain ⟨B, F, ρ, S, q⟩ := q
  refine ⟨B, F, ρ, S, ?_⟩
  have e : evTs (callF G.T n) G.gs [c] ρ = (G.ev n c ρ).bind fun x => (tr x).bind fun t => if t then .ok true else .ok false := rfl
  rw [e] at q
  cases ea : G.ev n c ρ with
  | bad => rw [ea] at q; exact q
  | er c k => rw [ea] at q; exact q
  | ok x =>
    rw [ea] at q
    simp only [Rs.bind_ok] at q ⊢
    cases et : tr x with
    | er c k => exact absurd et tr_er
    | bad => rw [et] at q; exact q
    | ok t =>
      rw [et] at q
      cases t <;> exact q)⟩
theorem lcGo_er {f : D → Rs (Option D)} {c : Nat} {k : Int} : ∀ ds : List D, lcGo f ds ≠ .er c k
  | [], h => by cases h
  | d :: ds, h => by
    simp only [lcGo] at h
    split at h
    · cases e : lcGo f ds with
      | bad => rw [e] at h; cases h
      | er c k => exact lcGo_er ds e
      | ok r => rw [e] at h; cases h
    · exact lcGo_er ds h
    · cases h
theorem lcGo_len {f : D → Rs (Option D)} : ∀ {ds r : List D}, lcGo f ds = .ok r → r.length ≤ ds.length
  | [], r, h => by
    cases h
    exact Nat.le_refl _
  | d :: ds, r, h => by
    simp only [lcGo] at h
    split at h
    · cases e : lcGo f ds with
      | bad => rw [e] at h; cases h
      | er c k => rw [e] at h; cases h
      | ok r' =>
        rw [e] at h
        cases h
        have := lcGo_len e
        simp only [List.length_cons]
        omega
    · have := lcGo_len h
      simp only [List.length_cons]
      omega
    · cases h
theorem drop_cons {ds : List D} {i : Nat} {d : D} (h : ds[i]? = some d) : ds.drop i = d :: ds.drop (i + 1) := by
  obtain ⟨hi, e⟩ := List.getElem?_eq_some_iff.mp h
  rw [List.drop_eq_getElem_cons hi, e]
/-- what one item gives -/
abbrev lcF (G : Gm) (n : Nat) (tg : Tg) (own : List Nat) (cs : List E) (e : E) (ρ : En) : D → Rs (Option D) := fun d =>
  (bindT tg d (ρ.wipe own)).bind fun ρ1 => (evTs (callF G.T n) G.gs cs ρ1).bind fun t => if t then (G.ev n e ρ1).bind fun y => .ok (some y) else .ok none
theorem lc_reads {m : Md} {tg : Tg} {own : List Nat} {it : E} {cs : List E} {e : E} (ho : ∀ i ∈ slotsT tg, i ∈ own) : ∀ σ H Q, tM X.K G n W m (.lc tg own it cs e) σ H Q →
    tLc (tIt X.K G n W .b it) (tTg X.K G tg) (tTests X.K G n Wn cs) (tM X.K G n Wn .x e) own σ H Q := by
  intro σ H Q h
  obtain ⟨B, F, ρ, S, h⟩ := h
  have ev : G.ev n (.lc tg own it cs e) ρ = (G.ev n it ρ).bind fun x => (items x).bind fun ds => (lcGo (lcF G n tg own cs e ρ) ds).bind fun r => .ok (.list r) := rfl
  rw [ev] at h
  refine ⟨B, F, ρ, S, ?_⟩
  cases ea : G.ev n it ρ with
  | bad => rw [ea] at h; exact h
  | er c k => rw [ea] at h; exact h
  | ok x =>
    rw [ea] at h
    simp only [Rs.bind_ok] at h ⊢
    cases ei : items x with
    | bad => rw [ei] at h; exact h
    | er c k => exact absurd ei items_er
    | ok ds =>
      rw [ei] at h
      simp only [Rs.bind_ok] at h ⊢
      intro J F1 H1 x1 wk D hD
      cases er : lcGo (lcF G n tg own cs e ρ) ds with
      | bad => rw [er] at h; exact h.elim
      | er c k => exact absurd er (lcGo_er ds)
      | ok res =>
        rw [er] at h
        simp only [Rs.bind_ok] at h
        have nD : H D = none := by
          cases q : H D with
          | none => rfl
          | some o => rw [x1.same D o q] at hD; cases hD
        refine ⟨fun i k Hc => k = ds.length - i ∧ i ≤ ds.length ∧ ∃ Fc acc accd rest, Ext F1 H1 Fc Hc ∧ Hc D = some (.lst acc) ∧ Fc D = none ∧ Reps X.K G.cl Fc acc accd ∧ acc.length ≤ i ∧ lcGo (lcF G n tg own cs e ρ) (ds.drop i) = .ok rest ∧ accd ++ rest = res,
          ⟨ds.length, by simp, Nat.zero_le _, F1, [], [], res, .own x1.le hD, upd_same, x1.le.none hD, .nil, Nat.le_refl _, er, rfl⟩, ?_⟩
        rintro i k Hc ⟨rfl, hi, Fc, acc, accd, rest, xc, hc, fc, rc, lc, go, eq⟩
        by_cases hlt : i < ds.length
        · obtain ⟨g1, g2⟩ := wk.go Fc Hc i xc.same xc.up xc.le hlt
          refine .inr ⟨g1, fun H' => ∃ Fc acc accd rest, Ext F1 H1 Fc H' ∧ H' D = some (.lst acc) ∧ Fc D = none ∧ Reps X.K G.cl Fc acc accd ∧ acc.length ≤ i + 1 ∧ lcGo (lcF G n tg own cs e ρ) (ds.drop (i + 1)) = .ok rest ∧ accd ++ rest = res,
            fun H' z => ⟨ds.length - (i + 1), by omega, rfl, hlt, z⟩, fun v H2 y => ?_⟩
          obtain ⟨F2, x2, hr⟩ := g2 v H2 y
          have hd : ds[i]? = some ds[i] := List.getElem?_eq_getElem hlt
          have rv := hr _ hd
          rw [drop_cons hd] at go
          simp only [lcGo] at go
          have xa := (x1.trans xc).trans x2
          have dD : H2 D = some (.lst acc) := x2.same _ _ hc
          have fD : F2 D = none := by rw [x2.old D (by rw [hc]; simp)]; exact fc
          cases eb : bindT tg ds[i] (ρ.wipe own) with
          | bad => simp only [lcF, eb, Rs.bind_bad] at go; cases go
          | er c k => simp only [lcF, eb, Rs.bind_er] at go; cases go
          | ok ρ1 =>
            refine ⟨B, F2, ρ.wipe own, ds[i], (S.ext xa).wipes own, rv, ρ1, eb, fun σ2 S2 w2 => ⟨by rw [w2 own ho, wipe_wipe], B, F2, ρ1, S2, ?_⟩⟩
            cases et : evTs (callF G.T n) G.gs cs ρ1 with
            | bad => simp only [lcF, eb, et, Rs.bind_ok, Rs.bind_bad] at go; cases go
            | er c k => simp only [lcF, eb, et, Rs.bind_ok, Rs.bind_er] at go; cases go
            | ok t =>
              intro F3 H3 x3
              have fD3 : F3 D = none := by rw [x3.old D (by rw [dD]; simp)]; exact fD
              cases t with
              | false =>
                rw [if_neg Bool.false_ne_true]
                simp only [lcF, eb, et, Rs.bind_ok, if_neg Bool.false_ne_true] at go
                exact ⟨F3, acc, accd, rest, (xc.trans x2).trans x3, x3.same _ _ dD, fD3, (rc.mono x2.up).mono x3.up, by omega, go, eq⟩
              | true =>
                rw [if_pos rfl]
                refine ⟨B, F3, ρ1, S2.ext x3, ?_⟩
                cases ee : G.ev n e ρ1 with
                | bad => simp only [lcF, eb, et, ee, Rs.bind_ok, if_pos, Rs.bind_bad] at go; cases go
                | er c k => simp only [lcF, eb, et, ee, Rs.bind_ok, if_pos, Rs.bind_er] at go; cases go
                | ok yd =>
                  simp only [lcF, eb, et, ee, Rs.bind_ok, if_pos] at go
                  intro u F4 H4 x4 ru
                  have dD4 : H4 D = some (.lst acc) := x4.same _ _ (x3.same _ _ dD)
                  have fD4 : F4 D = none := by rw [x4.old D (by rw [x3.same _ _ dD]; simp)]; exact fD3
                  cases eg : lcGo (lcF G n tg own cs e ρ) (ds.drop (i + 1)) with
                  | bad => rw [eg] at go; cases go
                  | er c k => rw [eg] at go; cases go
                  | ok rest' =>
                    rw [eg] at go
                    cases go
                    have xx := ((xc.trans x2).trans x3).trans x4
                    have hL := LIM_eq
                    have zl := wk.len
                    refine ⟨acc, dD4, by omega, F4, acc ++ [u], accd ++ [yd], rest', ⟨fun a o z => ?_, xx.up, le_updH xx.le fD4, xx.old⟩, upd_same, fD4, (((rc.mono x2.up).mono x3.up).mono x4.up).append (.cons ru .nil), ?_, rfl, ?_⟩
                    · rw [upd_ne (fun q => by rw [q, hD] at z; cases z)]
                      exact xx.same a o z
                    · rw [List.length_append]
                      simp only [List.length_cons, List.length_nil]
                      omega
                    · rw [List.append_assoc]
                      exact eq
        · have ei : i = ds.length := by omega
          subst ei
          rw [List.drop_length] at go
          cases go
          rw [List.append_nil] at eq
          subst eq
          refine .inl ⟨wk.stop Hc _ xc.same (Nat.le_refl _), ?_⟩
          exact Post.of_own S.le h (x1.trans xc) nD ⟨acc, hc, Nat.le_trans lc wk.len, rc, fc⟩
theorem noSet_fold {l : Expr} {env : Env} (h : noSet l = true) : ∀ x, foldedSetIterable l env x = pure x := by
  intro x
  cases l <;> first | rfl | cases h
end
end Z

/-! Z11: every expression of the language keeps its reading. -/
namespace Z
open PySem PySem.Spec PyProof.Rows L2

section
variable {G : Gm} {bl : List Str} {n : Nat} {W : WX} {X : Cx} {a b c : E} {m ma mb : Md} {l r r2 : Expr} {pos : Pos}

/-! ### and, or -/
inductive PSome (X : Cx) (G : Gm) (n : Nat) (W : WX) (m : Md) : List Expr → List E → Prop
  | one {l : Expr} {e : E} : PE X l (tM X.K G n W m e) → PSome X G n W m [l] [e]
  | cons {l l2 : Expr} {ls : List Expr} {e e2 : E} {es : List E} : PE X l (tM X.K G n W m e) → PSome X G n W m (l2 :: ls) (e2 :: es) → PSome X G n W m (l :: l2 :: ls) (e :: e2 :: es)
inductive TSome (X : Cx) (G : Gm) (n : Nat) (W : WX) : List Expr → List E → Prop
  | one {l : Expr} {e : E} : PT X l (tTs X.K G n W e) → TSome X G n W [l] [e]
  | cons {l l2 : Expr} {ls : List Expr} {e e2 : E} {es : List E} : PT X l (tTs X.K G n W e) → TSome X G n W (l2 :: ls) (e2 :: es) → TSome X G n W (l :: l2 :: ls) (e :: e2 :: es)
theorem tM_bind {e e' : E} {k : D → Rs D} (he : ∀ ρ, G.ev n e ρ = (G.ev n a ρ).bind k) {σ : L2.St} {H : Hp} {Q : VK} (h : tM X.K G n W m e σ H Q) :
    ∃ B F ρ, Stt X.K G.cl B F H ρ σ ∧ match G.ev n a ρ with
      | .ok d => (match k d with | .ok d => Post X.K G.cl m F H d Q | .er c k => XC G W c k σ F H | .bad => False)
      | .er c k => XC G W c k σ F H
      | .bad => False := by
  obtain ⟨B, F, ρ, S, h⟩ := h
  rw [he] at h
  refine ⟨B, F, ρ, S, ?_⟩
  revert h
  cases G.ev n a ρ <;> exact id
theorem ands_one {e : E} (ρ : En) : G.ev n (.ands [e]) ρ = G.ev n e ρ := by
  show (evE (callF G.T n) G.gs e ρ).bind (fun x => if ([] : List E).isEmpty then .ok x else _) = _
  cases h : evE (callF G.T n) G.gs e ρ <;> simp [h, Gm.ev]
theorem ands_cons {e e2 : E} {es : List E} (ρ : En) : G.ev n (.ands (e :: e2 :: es)) ρ = (G.ev n e ρ).bind fun x => (tr x).bind fun t => if t then G.ev n (.ands (e2 :: es)) ρ else .ok x := rfl
theorem ors_one {e : E} (ρ : En) : G.ev n (.ors [e]) ρ = G.ev n e ρ := by
  show (evE (callF G.T n) G.gs e ρ).bind (fun x => if ([] : List E).isEmpty then .ok x else _) = _
  cases h : evE (callF G.T n) G.gs e ρ <;> simp [h, Gm.ev]
theorem ors_cons {e e2 : E} {es : List E} (ρ : En) : G.ev n (.ors (e :: e2 :: es)) ρ = (G.ev n e ρ).bind fun x => (tr x).bind fun t => if t then .ok x else G.ev n (.ors (e2 :: es)) ρ := rfl
theorem tM_same {e e' : E} (he : ∀ ρ, G.ev n e ρ = G.ev n e' ρ) : ∀ σ H Q, tM X.K G n W m e σ H Q → tM X.K G n W m e' σ H Q := by
  intro σ H Q h
  obtain ⟨B, F, ρ, S, h⟩ := h
  rw [he] at h
  exact ⟨B, F, ρ, S, h⟩
theorem tTs_same {e e' : E} (he : ∀ ρ, G.ev n e ρ = G.ev n e' ρ) : ∀ σ H Q, tTs X.K G n W e σ H Q → tTs X.K G n W e' σ H Q := by
  intro σ H Q h
  obtain ⟨B, F, ρ, S, h⟩ := h
  rw [he] at h
  exact ⟨B, F, ρ, S, h⟩
theorem pe_z_ands (hm : m ≠ .n) : ∀ {ls : List Expr} {es : List E}, PSome X G n W .x ls es → PE X (.BoolOp .And ls pos) (tM X.K G n W m (.ands es))
  | _, _, .one h => (pe_one h).zimp fun σ H Q q => by
    obtain ⟨B, F, ρ, S, q⟩ := q
    rw [ands_one] at q
    refine ⟨B, F, ρ, S, ?_⟩
    revert q
    cases G.ev n _ ρ with
    | bad => exact id
    | er c k => exact id
    | ok d => exact fun q v F' H' x r => (q.step x).val hm x.le r
  | _, _, .cons h t => (pe_andT h (pe_z_ands hm t)).zimp fun σ H Q q => by
    obtain ⟨B, F, ρ, S, q⟩ := q
    rw [ands_cons] at q
    refine ⟨B, F, ρ, S, ?_⟩
    cases ea : G.ev n _ ρ with
    | bad => rw [ea] at q; exact q
    | er c k => rw [ea] at q; exact q
    | ok d =>
      rw [ea] at q
      simp only [Rs.bind_ok] at q
      intro v F1 H1 x1 r1
      cases et : tr d with
      | er c k => exact absurd et tr_er
      | bad => rw [et] at q; exact q.elim
      | ok b =>
        rw [et] at q
        simp only [Rs.bind_ok] at q
        refine ⟨b, tru_of (m := .x) x1.le r1 et, ?_⟩
        cases b with
        | true =>
          rw [if_pos rfl] at q ⊢
          refine ⟨B, F1, ρ, S.ext x1, ?_⟩
          revert q
          cases G.ev n (.ands _) ρ with
          | bad => exact id
          | er c k => exact fun q F3 H3 dx y => q F3 H3 dx (x1.trans y)
          | ok d => exact fun q => q.step x1
        | false =>
          rw [if_neg Bool.false_ne_true] at q ⊢
          exact (Post.step x1 q).val hm x1.le r1
theorem pe_z_ors (hm : m ≠ .n) : ∀ {ls : List Expr} {es : List E}, PSome X G n W .x ls es → PE X (.BoolOp .Or ls pos) (tM X.K G n W m (.ors es))
  | _, _, .one h => (pe_one h).zimp fun σ H Q q => by
    obtain ⟨B, F, ρ, S, q⟩ := q
    rw [ors_one] at q
    refine ⟨B, F, ρ, S, ?_⟩
    revert q
    cases G.ev n _ ρ with
    | bad => exact id
    | er c k => exact id
    | ok d => exact fun q v F' H' x r => (q.step x).val hm x.le r
  | _, _, .cons h t => (pe_orT h (pe_z_ors hm t)).zimp fun σ H Q q => by
    obtain ⟨B, F, ρ, S, q⟩ := q
    rw [ors_cons] at q
    refine ⟨B, F, ρ, S, ?_⟩
    cases ea : G.ev n _ ρ with
    | bad => rw [ea] at q; exact q
    | er c k => rw [ea] at q; exact q
    | ok d =>
      rw [ea] at q
      simp only [Rs.bind_ok] at q
      intro v F1 H1 x1 r1
      cases et : tr d with
      | er c k => exact absurd et tr_er
      | bad => rw [et] at q; exact q.elim
      | ok b =>
        rw [et] at q
        simp only [Rs.bind_ok] at q
        refine ⟨b, tru_of (m := .x) x1.le r1 et, ?_⟩
        cases b with
        | true =>
          rw [if_pos rfl] at q ⊢
          exact (Post.step x1 q).val hm x1.le r1
        | false =>
          rw [if_neg Bool.false_ne_true] at q ⊢
          refine ⟨B, F1, ρ, S.ext x1, ?_⟩
          revert q
          cases G.ev n (.ors _) ρ with
          | bad => exact id
          | er c k => exact fun q F3 H3 dx y => q F3 H3 dx (x1.trans y)
          | ok d => exact fun q => q.step x1
theorem pw_z_ands : ∀ {ls : List Expr} {es : List E}, TSome X G n W ls es → PW X (.BoolOp .And ls pos) (tTs X.K G n W (.ands es))
  | _, _, .one h => (pw_and1 h).zimp (tTs_same ands_one)
  | _, _, .cons h t => (pw_and h (pw_z_ands t)).zimp fun σ H Q q => by
    obtain ⟨B, F, ρ, S, q⟩ := q
    rw [ands_cons] at q
    refine ⟨B, F, ρ, S, ?_⟩
    cases ea : G.ev n _ ρ with
    | bad => rw [ea] at q; exact q
    | er c k => rw [ea] at q; exact q
    | ok d =>
      rw [ea] at q
      simp only [Rs.bind_ok] at q ⊢
      cases et : tr d with
      | er c k => exact absurd et tr_er
      | bad => rw [et] at q; exact q.elim
      | ok b =>
        rw [et] at q
        simp only [Rs.bind_ok] at q ⊢
        intro F1 H1 x1
        cases b with
        | true =>
          rw [if_pos rfl] at q ⊢
          refine ⟨B, F1, ρ, S.ext x1, ?_⟩
          revert q
          cases (G.ev n (.ands _) ρ).bind tr with
          | bad => exact id
          | er c k => exact fun q F3 H3 dx y => q F3 H3 dx (x1.trans y)
          | ok d => exact fun q F2 H2 x2 => q F2 H2 (x1.trans x2)
        | false =>
          rw [if_neg Bool.false_ne_true] at q ⊢
          rw [Rs.bind_ok, et] at q
          exact q F1 H1 x1
theorem pw_z_ors : ∀ {ls : List Expr} {es : List E}, TSome X G n W ls es → PW X (.BoolOp .Or ls pos) (tTs X.K G n W (.ors es))
  | _, _, .one h => (pw_or1 h).zimp (tTs_same ors_one)
  | _, _, .cons h t => (pw_or h (pw_z_ors t)).zimp fun σ H Q q => by
    obtain ⟨B, F, ρ, S, q⟩ := q
    rw [ors_cons] at q
    refine ⟨B, F, ρ, S, ?_⟩
    cases ea : G.ev n _ ρ with
    | bad => rw [ea] at q; exact q
    | er c k => rw [ea] at q; exact q
    | ok d =>
      rw [ea] at q
      simp only [Rs.bind_ok] at q ⊢
      cases et : tr d with
      | er c k => exact absurd et tr_er
      | bad => rw [et] at q; exact q.elim
      | ok b =>
        rw [et] at q
        simp only [Rs.bind_ok] at q ⊢
        intro F1 H1 x1
        cases b with
        | true =>
          rw [if_pos rfl] at q ⊢
          rw [Rs.bind_ok, et] at q
          exact q F1 H1 x1
        | false =>
          rw [if_neg Bool.false_ne_true] at q ⊢
          refine ⟨B, F1, ρ, S.ext x1, ?_⟩
          revert q
          cases (G.ev n (.ors _) ρ).bind tr with
          | bad => exact id
          | er c k => exact fun q F3 H3 dx y => q F3 H3 dx (x1.trans y)
          | ok d => exact fun q F2 H2 x2 => q F2 H2 (x1.trans x2)

/-! ### list(range(..)) -/
theorem rgV_reps {K : PySem.W.Frag} {cl : Nat → Addr} {F : Hp} {lo hi : Int} : Reps K cl F (rgV lo hi) (rangeL lo hi) := by
  unfold rgV rangeL
  generalize (hi - lo).toNat = k
  have go : ∀ ns : List Nat, Reps K cl F (ns.map fun i => V.int (lo + (i : Nat))) (ns.map fun (k : Nat) => PyData.int (lo + (k : Int))) := by
    intro ns
    induction ns with
    | nil => exact .nil
    | cons a r ih => exact .cons (.int _) ih
  exact go _
theorem pe_z_lr1 {p p2 pos2 : Pos} (hc : X.calm = true) (hg : Gl X "list") (hm : X.mg "list" = none) (hg2 : Gl X "range") (hm2 : X.mg "range" = none) (hs : noStar l = true) (ha : PE X l (tM X.K G n W .x a)) :
    PE X (.Call (.Name "list" p) [.Call (.Name "range" p2) [l] [] pos2] [] pos) (tM X.K G n W m (.lr1 a)) :=
  (pe_listRg hc hg hm (prg_1 hg2 hm2 ha (star_of hs)) (by rfl)).zimp fun σ H Q h => by
    obtain ⟨B, F, ρ, S, h⟩ := h
    have e : G.ev n (.lr1 a) ρ = (G.ev n a ρ).bind fun x => match x with
      | .int n => evRng 0 n
      | _ => .bad := rfl
    rw [e] at h
    refine ⟨B, F, ρ, S, ?_⟩
    cases ea : G.ev n a ρ with
    | bad => rw [ea] at h; exact h
    | er c k => rw [ea] at h; exact h
    | ok d =>
      rw [ea] at h
      simp only [Rs.bind_ok] at h
      intro v F1 H1 x1 r1
      cases d <;> first | exact h.elim | skip
      cases r1
      rename_i i
      dsimp only at h
      cases ei : evRng 0 i with
      | bad => rw [ei] at h; exact h.elim
      | er c k => exact absurd ei evRng_er
      | ok d =>
        rw [ei] at h
        obtain ⟨rfl, b1, b2, b3, b4, b5⟩ := evRng_inv ei
        refine ⟨i, rfl, ⟨by omega, by omega, by omega, by omega, by omega⟩, fun q hq => ?_⟩
        exact (Post.step x1 h).new x1.le hq (by rw [rgV_length]; unfold LIM; omega) rgV_reps
theorem pe_z_lr2 {p p2 pos2 : Pos} (hc : X.calm = true) (hg : Gl X "list") (hm : X.mg "list" = none) (hg2 : Gl X "range") (hm2 : X.mg "range" = none) (hs : noStar l = true) (hs2 : noStar r = true) (ha : PE X l (tM X.K G n W .x a)) (hb : PE X r (tM X.K G n W .x b)) :
    PE X (.Call (.Name "list" p) [.Call (.Name "range" p2) [l, r] [] pos2] [] pos) (tM X.K G n W m (.lr2 a b)) :=
  (pe_listRg hc hg hm (prg_2 hg2 hm2 ha hb (star_of hs) (star_of hs2) (by rw [star_of hs2]; rfl)) (by rfl)).zimp fun σ H Q h => by
    obtain ⟨B, F, ρ, S, h⟩ := h
    have e : G.ev n (.lr2 a b) ρ = (G.ev n a ρ).bind fun x => (G.ev n b ρ).bind fun y => match x, y with
      | .int m, .int n => evRng m n
      | _, _ => .bad := rfl
    rw [e] at h
    refine ⟨B, F, ρ, S, ?_⟩
    cases ea : G.ev n a ρ with
    | bad => rw [ea] at h; exact h
    | er c k => rw [ea] at h; exact h
    | ok d =>
      rw [ea] at h
      simp only [Rs.bind_ok] at h
      intro v F1 H1 x1 r1
      refine ⟨B, F1, ρ, S.ext x1, ?_⟩
      cases eb : G.ev n b ρ with
      | bad => rw [eb] at h; exact h
      | er c k => rw [eb] at h; exact fun F3 H3 dx y => h F3 H3 dx (x1.trans y)
      | ok d2 =>
        rw [eb] at h
        simp only [Rs.bind_ok] at h
        intro u F2 H2 x2 r2
        cases d <;> cases d2 <;> first | exact h.elim | skip
        cases r1
        cases r2
        rename_i i j
        dsimp only at h
        cases ei : evRng i j with
        | bad => rw [ei] at h; exact h.elim
        | er c k => exact absurd ei evRng_er
        | ok d =>
          rw [ei] at h
          obtain ⟨rfl, b1, b2, b3, b4, b5⟩ := evRng_inv ei
          refine ⟨i, j, rfl, rfl, ⟨by omega, by omega, by omega, by omega, by omega⟩, fun q hq => ?_⟩
          exact (Post.step (x1.trans x2) h).new x2.le hq (by rw [rgV_length]; unfold LIM; omega) rgV_reps

/-! ### e.at of an own error -/
theorem evAt_inv {x d : D} (h : evAt x = .ok d) : ∃ (c n : Int), x = .dict [(.none, .tuple [.int c, .int n])] ∧ d = .int n := by
  unfold evAt at h
  split at h
  · cases h
    exact ⟨_, _, rfl, rfl⟩
  · cases h
theorem evAt_er {x : D} {c : Nat} {k : Int} : evAt x ≠ .er c k := by
  unfold evAt
  split <;> intro h <;> cases h
theorem pe_z_eat {x : Str} {p : Pos} (xf : ∀ c, XfC X.K (G.cl c) ∧ PySem.W.findIn X.K (.ref (G.cl c)) "at" = some none) (hm : m ≠ .n) (ha : PE X (.Name x p) (tM X.K G n W .x a)) : PE X (.Attribute (.Name x p) "at" pos) (tM X.K G n W m (.eat a)) := by
  refine ⟨fun pins s σ H Q I h => ?_⟩
  obtain ⟨B, F, ρ, S, h⟩ := h
  have e : G.ev n (.eat a) ρ = (G.ev n a ρ).bind evAt := rfl
  rw [e] at h
  have run : ∀ (R : VK), (match G.ev n a ρ with | .ok d => Post X.K G.cl .x F H d R | .er c k => XC G W c k σ F H | .bad => False) → _ := fun R hq => ha.run pins s σ H R I ⟨B, F, ρ, S, hq⟩
  refine attr_of (by rfl) ?_
  cases ea : G.ev n a ρ with
  | bad => rw [ea] at h; exact h.elim
  | er c k =>
    rw [ea] at h
    exact thn (run (fun _ _ => False) (by rw [ea]; exact h)) fun v s1 ⟨x, H1, I1, r1, z⟩ => z.elim
  | ok d =>
    rw [ea] at h
    simp only [Rs.bind_ok] at h
    refine thn (run (fun v H1 => ∃ F1, Ext F H F1 H1 ∧ Rep X.K G.cl F1 v d) (by rw [ea]; exact fun v F1 H1 x1 r1 => ⟨F1, x1, r1⟩)) fun u s1 hu => ?_
    obtain ⟨v, H1, I1, rv, F1, x1, hv⟩ := hu
    cases ev : evAt d with
    | bad => rw [ev] at h; exact h.elim
    | er c k => exact absurd ev evAt_er
    | ok d' =>
      rw [ev] at h
      obtain ⟨c, k, rfl, rfl⟩ := evAt_inv ev
      cases hv with
      | @exc q dx c' k' g1 g2 =>
        cases rv
        have hx : ObjOk X.prog X.w H1 s1.heap q (exO q (G.cl c') dx) := I1.hok q _ (x1.le _ _ g1)
        obtain ⟨⟨oe, vs, ho, hc, hd, hf⟩, _, _⟩ := hx
        have hy : ObjOk X.prog X.w H1 s1.heap dx (exF k) := I1.hok dx _ (x1.le _ _ g2)
        obtain ⟨mA, hns, hr⟩ := hy
        obtain ⟨od, hod, hl⟩ := lookIn_ns hns
        obtain ⟨u, hu, ru⟩ := RelO.some_of (v := .int k) (o := mA "at") (by
          have z := hr "at"
          simpa [exF, List.lookup] using z)
        have J : PySem.W.InstAt s1.heap q oe (G.cl c') (some od) := ⟨ho, hc, by unfold PySem.W.notCls; rw [hf] <;> rfl, by rw [hd]; exact hod⟩
        obtain ⟨T, hno⟩ := xf c'
        exact HandSPX.exc_get I1.kIn J T.ga T.gg T.exC (PySem.W.findObj_own T.hdC hno rfl (by rw [hl, hu])) (handed_of ru) ⟨.int k, H1, I1.tok _, ru, Post.int hm x1.le (Post.step x1 h)⟩
end
end Z

/-! Z12: every expression of the language keeps its reading. -/
namespace Z
open PySem PySem.Spec PyProof.Rows L2

theorem visB_vis {sc : Scope} {x : Str} (h : visB sc x = true) : Vis sc x := by
  unfold visB at h
  unfold Vis
  revert h
  cases sc.names.lookup x with
  | none => intro h; cases h
  | some k => cases k <;> intro h <;> first | (cases h; done) | simp
theorem locB_loc {sc : Scope} {x : Str} (h : locB sc x = true) : L2.Loc sc x := by
  unfold locB at h
  unfold L2.Loc
  revert h
  cases sc.names.lookup x with
  | none => intro h; cases h
  | some k => cases k <;> intro h <;> first | (cases h; done) | simp
theorem glB_gl {X : Cx} {x : Str} (h : glB X.env.scope x = true) : Gl X x := by
  unfold glB at h
  show X.env.scope.names.lookup x = some .globalImplicit
  revert h
  cases X.env.scope.names.lookup x with
  | none => intro h; cases h
  | some k => cases k <;> intro h <;> first | (cases h; done) | rfl
theorem nmOk_ne {x : Str} (h : nmOk x = true) : (x == ("__debug__" : Str)) = false ∧ (x == ("__classdict__" : Str)) = false := by
  unfold nmOk at h
  simpa using h
section
variable {T : Tab} {bl N : List Str} {sc : Scope}
theorem okE_star {m : Md} {e : E} {l : Expr} (h : okE T bl N sc m e l = true) : noStar l = true := by
  cases l <;> first | rfl | skip
  cases e <;> first
    | (simp [okE] at h; done)
    | (rename_i op _ _; cases op <;> simp [okE] at h)
end
section
variable {G : Gm} {bl : List Str} {n : Nat} {W : WX} {X : Cx} {m : Md} {pos : Pos}
/-! ### one of several defs, by its place -/
theorem sel_names (C : Cn G bl n W X) : ∀ {fs : List Nat} {ns : List Expr}, selB G.T X.env.scope fs ns = true → PA X ns (fun _ H Q => Q (fs.map fun f => V.ref (G.fa f)) H) ∧ ns.all noStar = true
  | [], ns, h => by
    cases ns with
    | nil => exact ⟨pa_nil, rfl⟩
    | cons _ _ => simp [selB] at h
  | f :: fs, ns, h => by
    cases ns with
    | nil => simp [selB] at h
    | cons l ns =>
      cases l <;> first | (simp [selB] at h; done) | skip
      rename_i x p
      simp only [selB, Bool.and_eq_true] at h
      obtain ⟨h1, h2⟩ := h
      obtain ⟨i1, i2⟩ := sel_names C h2
      cases ef : G.T.fns[f]? with
      | none => rw [ef] at h1; cases h1
      | some fn =>
        rw [ef] at h1
        simp only [Bool.and_eq_true, decide_eq_true_eq] at h1
        obtain ⟨⟨⟨hx, _⟩, hg⟩, hn⟩ := h1
        subst hx
        exact ⟨(pa_cons (pe_glob (v := .ref (G.fa f)) (glB_gl hg) (C.fn f fn ef).1 rfl (nmOk_ne hn).1) i1 (star_of rfl)).zimp fun _ _ _ q => q, by rw [List.all_cons, i2]; rfl⟩
theorem sel_fresh {T : Tab} {sc : Scope} : ∀ {fs : List Nat} {ns : List Expr} {j f : Nat}, selB T sc fs ns = true → fs[j]? = some f → ∃ fn, T.fns[f]? = some fn ∧ fn.fresh = false
  | [], _, _, _, _, h => by simp at h
  | f :: fs, ns, j, g, h, hj => by
    cases ns with
    | nil => simp [selB] at h
    | cons l ns =>
      cases l <;> first | (simp [selB] at h; done) | skip
      simp only [selB, Bool.and_eq_true] at h
      cases j with
      | succ j => exact sel_fresh h.2 hj
      | zero =>
        cases hj
        have h1 := h.1
        cases ef : T.fns[f]? with
        | none => rw [ef] at h1; cases h1
        | some fn =>
          rw [ef] at h1
          simp only [Bool.and_eq_true] at h1
          exact ⟨fn, rfl, by simpa using h1.1.1.2⟩
theorem pe_z_sel {fs : List Nat} {ns : List Expr} {ix l : Expr} {i : E} {ls : List Expr} {es : List E} {p1 p2 : Pos} (C : Cn G bl n W X) (hm : m ≠ .n) (hfl : fs.length ≤ LIM) (hf : selB G.T X.env.scope fs ns = true) (hs : noSlice ix = true) (hi : PE X ix (tM X.K G n W .x i))
    (h : PAll X G n W .x (l :: ls) es) : PE X (.Call (.Subscript (.List ns p1) ix p2) (l :: ls) [] pos) (tM X.K G n W m (.sel fs i es)) := by
  obtain ⟨hp, hst⟩ := sel_names C hf
  have hss := h.star
  rw [List.all_cons, Bool.and_eq_true] at hss
  have func := pe_ix (pos := p2) ix_list (pe_lst (pos := p1) hp) hi (slice_plain hs)
  refine ⟨fun pins s σ H Q I q => ?_⟩
  obtain ⟨B, F, ρ, S, q⟩ := q
  have ev : G.ev n (.sel fs i es) ρ = (G.ev n i ρ).bind fun x => match x with
    | .int n' => (match (place fs.length n').bind fun j => fs[j]? with
      | some f => (evEs (callF G.T n) G.gs es ρ).bind fun ds => callF G.T n f ds
      | none => .bad)
    | _ => .bad := rfl
  rw [ev] at q
  -- the def
  have step := func.run pins s σ H (fun v H1 => ∃ (F1 : Hp) (j f : Nat), Ext F H F1 H1 ∧ fs[j]? = some f ∧ v = .ref (G.fa f) ∧
    (match (evEs (callF G.T n) G.gs es ρ).bind fun ds => callF G.T n f ds with
    | .ok d => Post X.K G.cl m F H d Q
    | .er c k => XC G W c k σ F H
    | .bad => False)) I ⟨by rw [List.length_map, ← LIM_eq]; exact hfl, fun p hpn => ⟨B, F, ρ, S.ext (.own S.le hpn), by
      cases ea : G.ev n i ρ with
      | bad => rw [ea] at q; exact q
      | er c k => rw [ea] at q; exact fun F2 H2 dx y => q F2 H2 dx ((Ext.own S.le hpn).trans y)
      | ok d =>
        rw [ea] at q
        simp only [Rs.bind_ok] at q
        intro v F1 H1 x1 r1
        cases d <;> first | exact q.elim | skip
        cases r1
        rename_i k
        dsimp only at q
        cases ej : (place fs.length k).bind fun j => fs[j]? with
        | none => rw [ej] at q; exact q.elim
        | some f =>
          rw [ej] at q
          obtain ⟨j, h1, h2⟩ := Option.bind_eq_some_iff.mp ej
          refine ⟨p, fs.map fun f => V.ref (G.fa f), k, .ref (G.fa f), rfl, rfl, .inl (.inl (x1.same _ _ upd_same)), ?_, F1, j, f, (Ext.own S.le hpn).trans x1, h2, rfl, q⟩
          unfold atI
          rw [List.length_map, ← place_eq, h1]
          show (fs.map fun f => V.ref (G.fa f))[j]? = _
          rw [List.getElem?_map, h2]
          rfl⟩⟩
  refine Call_ (thn step fun u s1 hu => ?_)
  obtain ⟨v, H1, I1, rv, F1, j, f, x1, hj, rfl, q1⟩ := hu
  cases rv
  obtain ⟨fn, hfn, hfr⟩ := sel_fresh hf hj
  obtain ⟨c1, c2, c3, c4⟩ := C.fn f fn hfn
  have args := h.pa (by decide)
  refine PySem.W.callWith_K (h₀ := X.base) I1.ok.mod.kin c2 (thn (args.run pos pins s1 σ H1 (fun vs H2 => ∃ F2 ds, Ext F1 H1 F2 H2 ∧ Reps X.K G.cl F2 vs ds ∧ (match callF G.T n f ds with
    | .ok d => Post X.K G.cl m F H d Q
    | .er c k => XC G W c k σ F H
    | .bad => False)) I1 ⟨B, F1, ρ, S.ext x1, ?_⟩) fun us s2 hu => ⟨hu.elim fun _ z => z.elim fun _ z => z.1.kIn, ?_⟩) (star_of hss.1) (stars_of hss.2)
  · cases ea : evEs (callF G.T n) G.gs es ρ with
    | bad => rw [ea] at q1; exact q1
    | er c k => rw [ea] at q1; exact fun F2 H2 dx y => q1 F2 H2 dx (x1.trans y)
    | ok ds =>
      rw [ea] at q1
      exact fun vs F2 H2 x2 r2 => ⟨F2, ds, x2, r2.reps, q1⟩
  · obtain ⟨vs, H2, I2, r2, F2, ds, x2, rr, q2⟩ := hu
    refine runG (E := fun σ cls d H => W cls d σ H) (C.ok f fn hfn) C.room C.gd c3 (C.pa σ) I2 r2 ⟨F2, ds, x2.le, rr, ?_, ?_⟩
    · rw [c4, rr.length]
      refine callF_len (T := G.T) (k := n) (j := f) hfn fun z => ?_
      rw [z] at q2
      exact q2
    · have xx := x1.trans x2
      cases ec : callF G.T n f ds with
      | bad => rw [ec] at q2; exact q2
      | er c k => rw [ec] at q2; exact fun F' H' dx y => q2 F' H' dx (xx.trans y)
      | ok d =>
        rw [ec] at q2
        show Post X.K G.cl (if fn.fresh = true then .n else .x) F2 H2 d Q
        rw [hfr, if_neg Bool.false_ne_true]
        exact fun v F' H' y r => (q2.step (xx.trans y)).val hm y.le r

/-! ### the whole -/
structure Sd (G : Gm) (bl : List Str) (n : Nat) (e : E) : Prop where
  pe : ∀ {W : WX} {X : Cx} (_ : Cn G bl n W X) (m : Md) (l : Expr), okE G.T bl X.N X.env.scope m e l = true → PE X l (tM X.K G n W m e)
  pt : ∀ {W : WX} {X : Cx} (_ : Cn G bl n W X) (l : Expr), noIte e = true → okE G.T bl X.N X.env.scope .b e l = true → PT X l (tTs X.K G n W e)
  pi : ∀ {W : WX} {X : Cx} (_ : Cn G bl n W X) (m : Md) (tgE l : Expr), m ≠ .n → okIt G.T bl X.N X.env.scope m e tgE l = true → PI X tgE l (tIt X.K G n W m e)
def noIt : E → Bool
  | .rng1 _ => false
  | .rng2 _ _ => false
  | .enum _ => false
  | .zip _ _ => false
  | _ => true
inductive SdAll (G : Gm) (bl : List Str) (n : Nat) : List E → Prop
  | nil : SdAll G bl n []
  | cons {e : E} {es : List E} : Sd G bl n e → SdAll G bl n es → SdAll G bl n (e :: es)
theorem SdAll.pall (C : Cn G bl n W X) : ∀ {es : List E} {ls : List Expr}, SdAll G bl n es → okEs G.T bl X.N X.env.scope m es ls = true → PAll X G n W m ls es
  | [], ls, _, h => by
    cases ls with
    | nil => exact .nil
    | cons _ _ => simp [okEs] at h
  | e :: es, ls, .cons a b, h => by
    cases ls with
    | nil => simp [okEs] at h
    | cons l ls =>
      simp only [okEs, Bool.and_eq_true] at h
      exact .cons (okE_star h.1) (a.pe C m l h.1) (SdAll.pall C b h.2)
theorem SdAll.psome (C : Cn G bl n W X) : ∀ {es : List E} {ls : List Expr}, es.isEmpty = false → SdAll G bl n es → okEs G.T bl X.N X.env.scope m es ls = true → PSome X G n W m ls es
  | [], _, e, _, _ => by cases e
  | [e], ls, _, .cons a b, h => by
    cases ls with
    | nil => simp [okEs] at h
    | cons l ls =>
      simp only [okEs, Bool.and_eq_true] at h
      cases ls with
      | cons _ _ => simp at h
      | nil => exact .one (a.pe C m l h.1)
  | e :: e2 :: es, ls, _, .cons a b, h => by
    cases ls with
    | nil => simp [okEs] at h
    | cons l ls =>
      rw [okEs, Bool.and_eq_true] at h
      cases ls with
      | nil => simp [okEs] at h
      | cons l2 ls => exact .cons (a.pe C m l h.1) (SdAll.psome C rfl b h.2)
end
end Z

/-! Z13: the induction over expressions. -/
namespace Z
open PySem PySem.Spec PyProof.Rows L2

section
variable {G : Gm} {bl : List Str} {n : Nat} {W : WX} {X : Cx} {m : Md} {pos : Pos}
theorem SdAll.tsome (C : Cn G bl n W X) : ∀ {es : List E} {ls : List Expr}, es.isEmpty = false → es.all noIte = true → SdAll G bl n es → okEs G.T bl X.N X.env.scope .x es ls = true → (∀ e l, okE G.T bl X.N X.env.scope .x e l = true → okE G.T bl X.N X.env.scope .b e l = true) → TSome X G n W ls es
  | [], _, e, _, _, _, _ => by cases e
  | [e], ls, _, hi, .cons a b, h, up => by
    cases ls with
    | nil => simp [okEs] at h
    | cons l ls =>
      simp only [okEs, Bool.and_eq_true] at h
      cases ls with
      | cons _ _ => simp at h
      | nil => exact .one (a.pt C l (by simpa using hi) (up _ _ h.1))
  | e :: e2 :: es, ls, _, hi, .cons a b, h, up => by
    cases ls with
    | nil => simp [okEs] at h
    | cons l ls =>
      rw [okEs, Bool.and_eq_true] at h
      rw [List.all_cons, Bool.and_eq_true] at hi
      cases ls with
      | nil => simp [okEs] at h
      | cons l2 ls => exact .cons (a.pt C l hi.1 (up _ _ h.1)) (SdAll.tsome C rfl hi.2 b h.2 up)
theorem ok_up {T : Tab} {bl N : List Str} {sc : Scope} : ∀ (e : E) (l : Expr), okE T bl N sc .x e l = true → okE T bl N sc .b e l = true := by
  intro e l h
  cases e <;> first
    | (cases l <;> first | (simp [okE] at h; done) | (simp [okE] at h ⊢; exact h))
    | (rename_i op _ _
       cases op <;> cases l <;> first | (simp [okE] at h; done) | (simp [okE] at h ⊢; exact h))
    | (unfold okE at h ⊢; exact h)

theorem Sd.mk' {e : E} (pe : ∀ {W : WX} {X : Cx} (_ : Cn G bl n W X) (m : Md) (l : Expr), okE G.T bl X.N X.env.scope m e l = true → PE X l (tM X.K G n W m e))
    (pt : ∀ {W : WX} {X : Cx} (_ : Cn G bl n W X) (l : Expr), noIte e = true → okE G.T bl X.N X.env.scope .b e l = true → PT X l (tTs X.K G n W e)) (hi : noIt e = true) : Sd G bl n e :=
  ⟨pe, pt, fun {W X} C m tgE l hm h => pi_z_seq hm (pe C m l (by
    cases e <;> first | exact h | cases hi))⟩
theorem ne_of_dec {m : Md} (h : decide (m ≠ .n) = true) : m ≠ .n := of_decide_eq_true h
/-- a test of a value -/
theorem pt_plain {e : E} {l : Expr} (S : PE X l (tM X.K G n W .b e)) (he : ∀ whole, isTrue l X.env whole = (do let v ← whole; standAt l.pos; holding [v] (truthy v))) : PT X l (tTs X.K G n W e) := pt_z_val S he
theorem biName_lk : ∀ f : Bi, biOk .b f = true → f ≠ .gcd → (bootBuiltins (Str.ofString (biName f)) = some (match f with | .int => .type "int" | .list => .type "list" | .tuple => .type "tuple" | _ => .builtin (biName f))) ∧ Str.ofString (biName f) ≠ ("__name__" : Str) ∧ Str.ofString (biName f) ≠ ("gcd" : Str) := by
  intro f h hg
  cases f <;> first
    | (cases h; done)
    | exact absurd rfl hg
    | exact ⟨by decide +kernel, by decide, by decide⟩
theorem biOk_up {m : Md} {f : Bi} (h : biOk m f = true) : biOk .b f = true := by
  cases f <;> first | rfl | (cases m <;> first | exact h | rfl) 
theorem pe_z_bi {f : Bi} {es : List E} {l : Expr} {ls : List Expr} {x : Str} {px : Pos} (C : Cn G bl n W X) (hx : x ∈ bl) (he : x = Str.ofString (biName f)) (hg : Gl X x) (hd : (x == ("__debug__" : Str)) = false) (ho : biOk m f = true) (h : PAll X G n W .b (l :: ls) es) :
    PE X (.Call (.Name x px) (l :: ls) [] pos) (tM X.K G n W m (.bi f es)) := by
  have hst := h.star
  rw [List.all_cons, Bool.and_eq_true] at hst
  have hu : X.A.units + 200 < cLine := by have := C.room.un; omega
  have args := h.pa (by decide)
  have fin : ∀ {r : TE}, (∀ σ H Q, (tAs X.K G n W .b es σ H fun vs H1 => rBi X.K G.cl m (evBi f) vs H1 Q) → r σ H Q) → ∀ σ H Q, tM X.K G n W m (.bi f es) σ H Q → r σ H Q := fun {r} hr σ H Q q =>
    hr σ H Q (cmbs (f := evBi f) (r := rBi X.K G.cl m (evBi f)) (fun _ => rfl) (fun ds c k z => by
      cases f <;> first
        | (cases z; done)
        | (simp only [evBi, on1, on2] at z
           split at z <;> first
             | (cases z; done)
             | (simp only [evLen, evAbs, evInt, evList, evTuple, evRepr, evInts, evBools, evMin2, evMax2, evGcd, evMaxl, evMinl, evIndex] at z
                split at z <;> first
                  | (cases z; done)
                  | (split at z <;> first | (cases z; done) | (simp only [evMaxl, evMinl] at z; split at z <;> cases z) | (split at z <;> cases z)))))
      (fun F H vs ds d Q le hv e p => ⟨F, ds, d, le, hv, e, p⟩) σ H Q q)
  by_cases hgc : f = .gcd
  · subst hgc
    subst he
    have hm : m ≠ .n := ne_of_dec ho
    exact (pe_callBfun (bi_gcd hm) hg (C.gcd hx) args hd (star_of hst.1) (stars_of hst.2)).zimp (fin fun σ H Q q => q)
  · obtain ⟨b1, b2, b3⟩ := biName_lk f (biOk_up ho) hgc
    subst he
    have hmg := C.blt _ hx b3
    have goB : ∀ {id : String}, bootBuiltins (Str.ofString (biName f)) = some (.builtin id) → CallR X (.builtin id) (rBi X.K G.cl m (evBi f)) → PE X (.Call (.Name (Str.ofString (biName f)) px) (l :: ls) [] pos) (tM X.K G n W m (.bi f es)) := fun {id} hb hc =>
      (pe_callB hc hg hmg hb args b2 hd (star_of hst.1) (stars_of hst.2)).zimp (fin fun σ H Q q => q)
    have goT : ∀ {id : String}, bootBuiltins (Str.ofString (biName f)) = some (.type id) → CallR X (.type id) (rBi X.K G.cl m (evBi f)) → PE X (.Call (.Name (Str.ofString (biName f)) px) (l :: ls) [] pos) (tM X.K G n W m (.bi f es)) := fun {id} hb hc =>
      (pe_callTy hc hg hmg hb args b2 hd (star_of hst.1) (stars_of hst.2)).zimp (fin fun σ H Q q => q)
    cases f <;> first | (cases ho; done) | skip
    · exact goB b1 (bi_len (ne_of_dec ho))
    · exact goB b1 (bi_abs (ne_of_dec ho))
    · exact goB b1 (bi_min2 C.calm (ne_of_dec ho))
    · exact goB b1 (bi_max2 C.calm (ne_of_dec ho))
    · exact goB b1 (bi_minl C.calm (ne_of_dec ho))
    · exact goB b1 (bi_maxl C.calm (ne_of_dec ho))
    · exact goB b1 (bi_sum C.calm (ne_of_dec ho))
    · exact goT b1 (bi_int (ne_of_dec ho))
    · exact goB b1 (bi_repr C.gd hu (ne_of_dec ho))
    · exact goB b1 (bi_all C.calm (ne_of_dec ho))
    · exact goB b1 (bi_any C.calm (ne_of_dec ho))
    · exact absurd rfl hgc
    · exact goT b1 bi_list
    · exact goB b1 bi_sorted
theorem slots_mem {tg : Tg} {own : List Nat} (h : (slotsT tg).all (fun i => decide (i ∈ own)) = true) : ∀ i ∈ slotsT tg, i ∈ own := fun i hi => of_decide_eq_true (List.all_eq_true.mp h i hi)
/-- a comprehension from its parts -/
theorem pe_z_lc {tg : Tg} {own : List Nat} {it : E} {cs : List E} {e : E} {el tgE itE : Expr} {ifs : List Expr} {scope : Scope} (C : Cn G bl n W X) (hd : lcHd X.N X.env.scope scope tg own tgE itE = true) (hi : PI X tgE itE (tIt X.K G n W .b it))
    (ht : ∀ {Y : Cx}, Cn G bl n Wn Y → Y.N = X.N → Y.env.scope = relS scope X.env.scope → Y.K = X.K → PTs Y ifs (tTests X.K G n Wn cs)) (he : ∀ {Y : Cx}, Cn G bl n Wn Y → Y.N = X.N → Y.env.scope = relS scope X.env.scope → Y.K = X.K → PE Y el (tM X.K G n Wn .x e)) :
    PE X (.ListComp el [⟨tgE, itE, ifs, 0⟩] scope pos) (tM X.K G n W m (.lc tg own it cs e)) := by
  unfold lcHd at hd
  simp only [Bool.and_eq_true] at hd
  obtain ⟨⟨⟨h1, h2⟩, h3⟩, h4⟩ := hd
  have hown : (own.map fun i => (X.N.getD i Str.empty, i)).map (·.2) = own := by
    rw [List.map_map]
    exact List.map_id' own
  have hs := slots_mem h3
  refine (pe_lc C.calm C.nd hi (blkOk_by h1) (fun s H c cl fp => ?_) (fun s H c cl fp => ht C.blk rfl rfl rfl) (fun s H c cl fp => he C.blk rfl rfl rfl) (noSet_fold h4)).zimp (by
    rw [hown]
    exact lc_reads hs)
  exact pg_z (X := X.blk s H scope (compEnvC scope cl c X.env) fp) (raw := some scope) C.calm C.nd (Sto.blk (sc := X.env.scope) rfl fun _ => rfl) tg tgE h2
theorem noEr_er {e : E} {ρ : En} {c : Nat} {k : Int} (h : noEr e = true) : G.ev n e ρ ≠ .er c k := by
  intro z
  cases e <;> first
    | (cases h; done)
    | (cases z; done)
    | (rename_i i
       have z' : (match ρ.at i with
         | .fz d => Rs.ok d
         | _ => .bad) = .er c k := z
       split at z' <;> cases z')
    | (rename_i i
       have z' : (match ρ.at i with
         | .fz d => Rs.ok d
         | .ow d => .ok d
         | _ => .bad) = .er c k := z
       split at z' <;> cases z')
theorem evIndex_er {x y : D} {c : Nat} {k : Int} : evIndex x y ≠ .er c k := by
  intro z
  unfold evIndex at z
  split at z
  · split at z
    · split at z <;> cases z
    · cases z
  · cases z
theorem idxOf_some {d : D} : ∀ {xs : List D} {j : Nat}, idxOf d xs = some j → ∃ z, xs[j]? = some z ∧ PyData.eqv z d = true ∧ ∀ (m : Nat) (z' : D), m < j → xs[m]? = some z' → PyData.eqv z' d = false
  | [], j, h => by cases h
  | x :: xs, j, h => by
    unfold idxOf at h
    by_cases hx : PyData.eqv x d = true
    · rw [if_pos hx] at h
      cases h
      exact ⟨x, rfl, hx, fun m z' hm _ => absurd hm (Nat.not_lt_zero _)⟩
    · rw [if_neg hx] at h
      obtain ⟨k, h1, h2⟩ := Option.map_eq_some_iff.mp h
      subst h2
      obtain ⟨z, g1, g2, g3⟩ := idxOf_some h1
      refine ⟨z, g1, g2, fun m z' hm hz => ?_⟩
      cases m with
      | zero =>
        cases hz
        exact Bool.eq_false_iff.mpr hx
      | succ m => exact g3 m z' (by omega) hz
theorem pe_z_index {a b : E} {x : Str} {r : Expr} {q p : Pos} (C : Cn G bl n W X) (hm : m ≠ .n) (hl : (p.endLine == pos.line) = true) (ha : PE X (.Name x q) (tM X.K G n W .b a)) (hs : noStar r = true) (hn : noEr b = true) (hb : PE X r (tM X.K G n W .b b)) :
    PE X (.Call (.Attribute (.Name x q) "index" p) [r] [] pos) (tM X.K G n W m (.bi .index [a, b])) := by
  have hu : X.A.units + 65 < cLine := by have := C.room.un; omega
  have sr : starEach [r] X.env = (false, eval r X.env) :: starEach [] X.env := star_of hs
  refine (pe_bm PySem.F.plainAttrs_list PySem.F.slot_list_index PySem.F.type_list_index (mt_indexD hu) ha (pa_cons hb pa_nil sr) (by rfl) (by rw [sr]; rfl) hl sr (by rfl)).zimp fun σ H Q h => ?_
  obtain ⟨B, F, ρ, S, h⟩ := h
  have ev : G.ev n (.bi .index [a, b]) ρ = (G.ev n a ρ).bind fun x => (G.ev n b ρ).bind fun y => evIndex x y := by
    show (Rs.bind ((evE _ _ a ρ).bind fun x => (Rs.bind (evE _ _ b ρ) fun y => Rs.bind (.ok []) fun r => .ok (y :: r)).bind fun r => .ok (x :: r)) fun ds => evBi .index ds) = _
    show _ = (evE _ _ a ρ).bind fun x => (evE _ _ b ρ).bind fun y => evIndex x y
    cases evE (callF G.T n) G.gs a ρ <;> first | rfl | skip
    cases evE (callF G.T n) G.gs b ρ <;> rfl
  rw [ev] at h
  refine ⟨B, F, ρ, S, ?_⟩
  cases ea : G.ev n a ρ with
  | bad => rw [ea] at h; exact h
  | er c k => rw [ea] at h; exact h
  | ok x =>
    rw [ea] at h
    simp only [Rs.bind_ok] at h
    refine Post.mk (by decide) fun v F1 H1 x1 r1 => ?_
    cases eb : G.ev n b ρ with
    | bad => rw [eb] at h; exact h.elim
    | er c k => exact absurd eb (noEr_er hn)
    | ok y =>
      rw [eb] at h
      simp only [Rs.bind_ok] at h
      cases ei : evIndex x y with
      | bad => rw [ei] at h; exact h.elim
      | er c k => exact absurd ei evIndex_er
      | ok d =>
        rw [ei] at h
        cases x <;> first | (cases ei; done) | skip
        rename_i ds
        simp only [evIndex] at ei
        split at ei
        · rename_i hs
          rw [Bool.and_eq_true] at hs
          cases ej : idxOf y ds with
          | none => rw [ej] at ei; cases ei
          | some j =>
            rw [ej] at ei
            have ed : .int (j : Nat) = d := Rs.ok.inj ei
            subst ed
            obtain ⟨z, z1, z2, z3⟩ := idxOf_some ej
            obtain ⟨p, vs, hv, hr, hz, rr⟩ := Val.sh x1.le r1
            subst hv
            refine ⟨.inl ⟨rfl, vs, .inl hr⟩, B, F1, ρ, S.ext x1, ?_⟩
            rw [eb]
            refine Post.mk (by decide) fun u F2 H2 x2 r2 => ?_
            exact ⟨p, u, y, ds, j, z, rfl, rfl, Rep.dp (Val.rep x2.le (Val.ext x2 r1)) (eqOk_lay hs.2), Rep.dp (Val.rep x2.le r2) (eqOk_lay hs.1), hs.2, hs.1, z1, z2, z3,
              Post.int hm x2.le (h.step (x1.trans x2))⟩
        · cases ei
mutual
theorem sE : ∀ e : E, Sd G bl n e
  | .var i => by
    have pe : ∀ {W : WX} {X : Cx} (_ : Cn G bl n W X) (m : Md) (l : Expr), okE G.T bl X.N X.env.scope m (.var i) l = true → PE X l (tM X.K G n W m (.var i)) := fun {W X} C m l h => by
      cases l <;> first | (simp [okE] at h; done) | skip
      simp only [okE, Bool.and_eq_true, decide_eq_true_eq] at h
      obtain ⟨⟨⟨h1, h2⟩, h3⟩, h4⟩ := h
      exact pe_z_var h1 h2 (visB_vis h3) (nmOk_ne h4).1 (nmOk_ne h4).2
    exact .mk' pe (fun {W X} C l _ h => pt_plain (pe C .b l h) (by cases l <;> first | (simp [okE] at h; done) | exact fun _ => rfl)) rfl
  | .bv i => by
    have pe : ∀ {W : WX} {X : Cx} (_ : Cn G bl n W X) (m : Md) (l : Expr), okE G.T bl X.N X.env.scope m (.bv i) l = true → PE X l (tM X.K G n W m (.bv i)) := fun {W X} C m l h => by
      cases l <;> first | (simp [okE] at h; done) | skip
      simp only [okE, Bool.and_eq_true, decide_eq_true_eq] at h
      obtain ⟨⟨⟨h1, h2⟩, h3⟩, h4⟩ := h
      subst h1
      exact pe_z_bv h2 (visB_vis h3) (nmOk_ne h4).1 (nmOk_ne h4).2
    exact .mk' pe (fun {W X} C l _ h => pt_plain (pe C .b l h) (by cases l <;> first | (simp [okE] at h; done) | exact fun _ => rfl)) rfl
  | .c d => by
    have pe : ∀ {W : WX} {X : Cx} (_ : Cn G bl n W X) (m : Md) (l : Expr), okE G.T bl X.N X.env.scope m (.c d) l = true → PE X l (tM X.K G n W m (.c d)) := fun {W X} C m l h => by
      cases l <;> first | (simp [okE] at h; done) | skip
      simp only [okE, Bool.and_eq_true] at h
      exact pe_z_c (ne_of_dec h.1) h.2
    exact .mk' pe (fun {W X} C l _ h => pt_plain (pe C .b l h) (by cases l <;> first | (simp [okE] at h; done) | exact fun _ => rfl)) rfl
  | .gl i => by
    have pe : ∀ {W : WX} {X : Cx} (_ : Cn G bl n W X) (m : Md) (l : Expr), okE G.T bl X.N X.env.scope m (.gl i) l = true → PE X l (tM X.K G n W m (.gl i)) := fun {W X} C m l h => by
      cases l <;> first | (simp [okE] at h; done) | skip
      simp only [okE, Bool.and_eq_true, decide_eq_true_eq] at h
      obtain ⟨⟨⟨h1, h2⟩, h3⟩, h4⟩ := h
      exact pe_z_gl C h1 h2 (glB_gl h3) (nmOk_ne h4).1
    exact .mk' pe (fun {W X} C l _ h => pt_plain (pe C .b l h) (by cases l <;> first | (simp [okE] at h; done) | exact fun _ => rfl)) rfl
  | .bin op a b => by
    have ia := sE a
    have ib := sE b
    have pe : ∀ {W : WX} {X : Cx} (_ : Cn G bl n W X) (m : Md) (l : Expr), okE G.T bl X.N X.env.scope m (.bin op a b) l = true → PE X l (tM X.K G n W m (.bin op a b)) := fun {W X} C m l h => by
      cases l <;> first | (simp [okE] at h; done) | skip
      simp only [okE, Bool.and_eq_true] at h
      obtain ⟨⟨⟨h1, h2⟩, h3⟩, h4⟩ := h
      exact pe_bin (ne_of_dec h1) h2 (ia.pe C .x _ h3) (ib.pe C .x _ h4)
    exact .mk' pe (fun {W X} C l _ h => pt_plain (pe C .b l h) (by cases l <;> first | (simp [okE] at h; done) | exact fun _ => rfl)) rfl
  | .cat a b => by
    have ia := sE a
    have ib := sE b
    have pe : ∀ {W : WX} {X : Cx} (_ : Cn G bl n W X) (m : Md) (l : Expr), okE G.T bl X.N X.env.scope m (.cat a b) l = true → PE X l (tM X.K G n W m (.cat a b)) := fun {W X} C m l h => by
      cases l <;> first | (simp [okE] at h; done) | skip
      rename_i l o r p
      cases o <;> first | (simp [okE] at h; done) | skip
      simp only [okE, Bool.and_eq_true] at h
      exact pe_z_cat (ia.pe C .b _ h.1) (ib.pe C .b _ h.2)
    exact .mk' pe (fun {W X} C l _ h => pt_plain (pe C .b l h) (by cases l <;> first | (simp [okE] at h; done) | exact fun _ => rfl)) rfl
  | .rep a b => by
    have ia := sE a
    have ib := sE b
    have pe : ∀ {W : WX} {X : Cx} (_ : Cn G bl n W X) (m : Md) (l : Expr), okE G.T bl X.N X.env.scope m (.rep a b) l = true → PE X l (tM X.K G n W m (.rep a b)) := fun {W X} C m l h => by
      cases l <;> first | (simp [okE] at h; done) | skip
      rename_i l o r p
      cases o <;> first | (simp [okE] at h; done) | skip
      simp only [okE, Bool.and_eq_true] at h
      exact pe_z_rep (ia.pe C .n _ h.1) (ib.pe C .x _ h.2)
    exact .mk' pe (fun {W X} C l _ h => pt_plain (pe C .b l h) (by cases l <;> first | (simp [okE] at h; done) | exact fun _ => rfl)) rfl
  | .neg a => by
    have ia := sE a
    have pe : ∀ {W : WX} {X : Cx} (_ : Cn G bl n W X) (m : Md) (l : Expr), okE G.T bl X.N X.env.scope m (.neg a) l = true → PE X l (tM X.K G n W m (.neg a)) := fun {W X} C m l h => by
      cases l <;> first | (simp [okE] at h; done) | skip
      rename_i o l p
      cases o <;> first | (simp [okE] at h; done) | skip
      simp only [okE, Bool.and_eq_true] at h
      exact pe_z_neg (ne_of_dec h.1) (ia.pe C .x _ h.2)
    exact .mk' pe (fun {W X} C l _ h => pt_plain (pe C .b l h) (by
      cases l <;> first | (simp [okE] at h; done) | skip
      rename_i o l p
      cases o <;> first | (simp [okE] at h; done) | exact fun _ => rfl)) rfl
  | .not a => by
    have ia := sE a
    refine .mk' (fun {W X} C m l h => ?_) (fun {W X} C l _ h => ?_) rfl
    · cases l <;> first | (simp [okE] at h; done) | skip
      rename_i o l p
      cases o <;> first | (simp [okE] at h; done) | skip
      simp only [okE, Bool.and_eq_true] at h
      exact pe_z_not (ne_of_dec h.1.1) (ia.pe C .b _ h.2)
    · cases l <;> first | (simp [okE] at h; done) | skip
      rename_i o l p
      cases o <;> first | (simp [okE] at h; done) | skip
      simp only [okE, Bool.and_eq_true] at h
      exact pt_z_not (ia.pt C _ h.1.2 h.2)
  | .ands es => by
    have ie := sEs es
    refine .mk' (fun {W X} C m l h => ?_) (fun {W X} C l _ h => ?_) rfl
    · cases l <;> first | (simp [okE] at h; done) | skip
      rename_i o ls p
      cases o <;> first | (simp [okE] at h; done) | skip
      simp only [okE, Bool.and_eq_true, Bool.not_eq_true'] at h
      obtain ⟨⟨⟨h1, h2⟩, h3⟩, h4⟩ := h
      exact pe_z_ands (ne_of_dec h1) (ie.psome C h2 h4)
    · cases l <;> first | (simp [okE] at h; done) | skip
      rename_i o ls p
      cases o <;> first | (simp [okE] at h; done) | skip
      simp only [okE, Bool.and_eq_true, Bool.not_eq_true'] at h
      obtain ⟨⟨⟨h1, h2⟩, h3⟩, h4⟩ := h
      exact (pw_z_ands (ie.tsome C h2 h3 h4 ok_up)).pt
  | .ors es => by
    have ie := sEs es
    refine .mk' (fun {W X} C m l h => ?_) (fun {W X} C l _ h => ?_) rfl
    · cases l <;> first | (simp [okE] at h; done) | skip
      rename_i o ls p
      cases o <;> first | (simp [okE] at h; done) | skip
      simp only [okE, Bool.and_eq_true, Bool.not_eq_true'] at h
      obtain ⟨⟨⟨h1, h2⟩, h3⟩, h4⟩ := h
      exact pe_z_ors (ne_of_dec h1) (ie.psome C h2 h4)
    · cases l <;> first | (simp [okE] at h; done) | skip
      rename_i o ls p
      cases o <;> first | (simp [okE] at h; done) | skip
      simp only [okE, Bool.and_eq_true, Bool.not_eq_true'] at h
      obtain ⟨⟨⟨h1, h2⟩, h3⟩, h4⟩ := h
      exact (pw_z_ors (ie.tsome C h2 h3 h4 ok_up)).pt
  | .cmp op a b => by
    have ia := sE a
    have ib := sE b
    refine .mk' (fun {W X} C m l h => ?_) (fun {W X} C l _ h => ?_) rfl
    · unfold okE at h
      split at h
      · split at h
        · simp only [Bool.and_eq_true] at h
          obtain ⟨⟨h1, h2⟩, h3⟩ := h
          refine pe_z_isN (ne_of_dec h1) ?_ (ia.pe C .b _ h2)
          split at h3
          · rfl
          · cases h3
        · cases h
      · split at h
        · simp only [Bool.and_eq_true] at h
          obtain ⟨⟨h1, h2⟩, h3⟩ := h
          refine pe_z_notN (ne_of_dec h1) ?_ (ia.pe C .b _ h2)
          split at h3
          · rfl
          · cases h3
        · cases h
      · split at h
        · simp only [Bool.and_eq_true] at h
          obtain ⟨⟨⟨⟨h1, h2⟩, h3⟩, h4⟩, h5⟩ := h
          exact pe_z_cmp C (ne_of_dec h1) h2 h3 (ia.pe C .b _ h4) (ib.pe C .b _ h5)
        · cases h
    · unfold okE at h
      split at h
      · split at h
        · simp only [Bool.and_eq_true] at h
          obtain ⟨⟨h1, h2⟩, h3⟩ := h
          refine pt_z_isN ?_ (ia.pe C .b _ h2)
          split at h3
          · rfl
          · cases h3
        · cases h
      · split at h
        · simp only [Bool.and_eq_true] at h
          obtain ⟨⟨h1, h2⟩, h3⟩ := h
          refine pt_z_notN ?_ (ia.pe C .b _ h2)
          split at h3
          · rfl
          · cases h3
        · cases h
      · split at h
        · simp only [Bool.and_eq_true] at h
          obtain ⟨⟨⟨⟨h1, h2⟩, h3⟩, h4⟩, h5⟩ := h
          exact pt_z_cmp C h2 h3 (ia.pe C .b _ h4) (ib.pe C .b _ h5)
        · cases h
  | .chain o1 o2 a b c => by
    have ia := sE a
    have ib := sE b
    have ic := sE c
    refine .mk' (fun {W X} C m l h => ?_) (fun {W X} C l _ h => ?_) rfl
    · unfold okE at h
      split at h
      · simp only [Bool.and_eq_true] at h
        obtain ⟨⟨⟨⟨⟨⟨⟨⟨h1, h2⟩, h3⟩, h4⟩, h5⟩, h6⟩, h7⟩, h8⟩, h9⟩ := h
        exact pe_z_chain C (ne_of_dec h1) h2 h3 h6 (ia.pe C .b _ h7) (ib.pe C .b _ h8) (ic.pe C .b _ h9)
      · cases h
    · unfold okE at h
      split at h
      · simp only [Bool.and_eq_true] at h
        obtain ⟨⟨⟨⟨⟨⟨⟨⟨h1, h2⟩, h3⟩, h4⟩, h5⟩, h6⟩, h7⟩, h8⟩, h9⟩ := h
        exact pt_z_chain C h2 h3 h6 (ia.pe C .b _ h7) (ib.pe C .b _ h8) (ic.pe C .b _ h9)
      · cases h
  | .ite c a b => by
    have ia := sE a
    have ib := sE b
    have ic := sE c
    refine .mk' (fun {W X} C m l h => ?_) (fun {W X} C l hi h => by cases hi) rfl
    cases l <;> first | (simp [okE] at h; done) | skip
    simp only [okE, Bool.and_eq_true] at h
    obtain ⟨⟨⟨⟨h1, h2⟩, h3⟩, h4⟩, h5⟩ := h
    have up : ∀ {e : E} {l : Expr}, okE G.T bl X.N X.env.scope .x e l = true → Sd G bl n e → PE X l (tM X.K G n W m e) := fun {e l} he s => (s.pe C .x l he).zimp fun σ H Q q => by
      obtain ⟨B, F, ρ, S, q⟩ := q
      refine ⟨B, F, ρ, S, ?_⟩
      revert q
      cases G.ev n e ρ with
      | bad => exact id
      | er c k => exact id
      | ok d => exact fun q v F' H' y r => (q.step y).val (ne_of_dec h1) y.le r
    exact pe_z_ite (ne_of_dec h1) (ic.pt C _ h2 h3) (up h4 ia) (up h5 ib)
  | .lst es => by
    have ie := sEs es
    have pe : ∀ {W : WX} {X : Cx} (_ : Cn G bl n W X) (m : Md) (l : Expr), okE G.T bl X.N X.env.scope m (.lst es) l = true → PE X l (tM X.K G n W m (.lst es)) := fun {W X} C m l h => by
      cases l <;> first | (simp [okE] at h; done) | skip
      simp only [okE] at h
      exact pe_z_lst (ie.pall C h)
    exact .mk' pe (fun {W X} C l _ h => pt_plain (pe C .b l h) (by cases l <;> first | (simp [okE] at h; done) | exact fun _ => rfl)) rfl
  | .tup es => by
    have ie := sEs es
    have pe : ∀ {W : WX} {X : Cx} (_ : Cn G bl n W X) (m : Md) (l : Expr), okE G.T bl X.N X.env.scope m (.tup es) l = true → PE X l (tM X.K G n W m (.tup es)) := fun {W X} C m l h => by
      cases l <;> first | (simp [okE] at h; done) | skip
      simp only [okE, Bool.and_eq_true] at h
      exact pe_z_tup (ne_of_dec h.1) (ie.pall C h.2)
    exact .mk' pe (fun {W X} C l _ h => pt_plain (pe C .b l h) (by cases l <;> first | (simp [okE] at h; done) | exact fun _ => rfl)) rfl
  | .ix a i => by
    have ia := sE a
    have ib := sE i
    have pe : ∀ {W : WX} {X : Cx} (_ : Cn G bl n W X) (m : Md) (l : Expr), okE G.T bl X.N X.env.scope m (.ix a i) l = true → PE X l (tM X.K G n W m (.ix a i)) := fun {W X} C m l h => by
      cases l <;> first | (simp [okE] at h; done) | skip
      simp only [okE, Bool.and_eq_true] at h
      obtain ⟨⟨⟨h1, h2⟩, h3⟩, h4⟩ := h
      exact pe_z_ix (ne_of_dec h1) h2 (ia.pe C .b _ h3) (ib.pe C .x _ h4)
    exact .mk' pe (fun {W X} C l _ h => pt_plain (pe C .b l h) (by cases l <;> first | (simp [okE] at h; done) | exact fun _ => rfl)) rfl
  | .sl a lo hi => by
    have ia := sE a
    have il := sO lo
    have ih := sO hi
    have pe : ∀ {W : WX} {X : Cx} (_ : Cn G bl n W X) (m : Md) (l : Expr), okE G.T bl X.N X.env.scope m (.sl a lo hi) l = true → PE X l (tM X.K G n W m (.sl a lo hi)) := fun {W X} C m l h => by
      unfold okE at h
      split at h
      · simp only [Bool.and_eq_true] at h
        have po : ∀ {o : Option E} {y : Option Expr}, (∀ e, o = some e → Sd G bl n e) → okO G.T bl X.N X.env.scope o y = true → PO X y (tOz X.K G n W o) := fun {o y} hs ho => by
          cases o with
          | none =>
            cases y with
            | none => exact po_z_none
            | some _ => simp [okO] at ho
          | some e =>
            cases y with
            | none => simp [okO] at ho
            | some l => exact po_z_some ((hs e rfl).pe C .x l (by simpa [okO] using ho))
        exact pe_z_sl (ia.pe C .b _ h.1.1) (po il h.1.2) (po ih h.2)
      · cases h
    exact .mk' pe (fun {W X} C l _ h => pt_plain (pe C .b l h) (by cases l <;> first | (simp [okE] at h; done) | exact fun _ => rfl)) rfl
  | .call f es => by
    have ie := sEs es
    have pe : ∀ {W : WX} {X : Cx} (_ : Cn G bl n W X) (m : Md) (l : Expr), okE G.T bl X.N X.env.scope m (.call f es) l = true → PE X l (tM X.K G n W m (.call f es)) := fun {W X} C m l h => by
      unfold okE at h
      split at h
      · split at h
        · rename_i fn hf
          simp only [Bool.and_eq_true, decide_eq_true_eq, Bool.or_eq_true] at h
          obtain ⟨⟨⟨⟨h1, h2⟩, h3⟩, h4⟩, h5⟩ := h
          exact pe_z_call C hf h1 h2 (glB_gl h3) (nmOk_ne h4).1 (ie.pall C h5)
        · cases h
      · cases h
    exact .mk' pe (fun {W X} C l _ h => pt_plain (pe C .b l h) (by cases l <;> first | (simp [okE] at h; done) | exact fun _ => rfl)) rfl
  | .sel fs i es => by
    have ii := sE i
    have ie := sEs es
    have pe : ∀ {W : WX} {X : Cx} (_ : Cn G bl n W X) (m : Md) (l : Expr), okE G.T bl X.N X.env.scope m (.sel fs i es) l = true → PE X l (tM X.K G n W m (.sel fs i es)) := fun {W X} C m l h => by
      unfold okE at h
      split at h
      · simp only [Bool.and_eq_true, decide_eq_true_eq] at h
        obtain ⟨⟨⟨⟨⟨h1, h2⟩, h3⟩, h4⟩, h5⟩, h6⟩ := h
        exact pe_z_sel C h1 h2 h3 h4 (ii.pe C .x _ h5) (ie.pall C h6)
      · cases h
    exact .mk' pe (fun {W X} C l _ h => pt_plain (pe C .b l h) (by cases l <;> first | (simp [okE] at h; done) | exact fun _ => rfl)) rfl
  | .bi f es => by
    have ie := sEs es
    have pe : ∀ {W : WX} {X : Cx} (_ : Cn G bl n W X) (m : Md) (l : Expr), okE G.T bl X.N X.env.scope m (.bi f es) l = true → PE X l (tM X.K G n W m (.bi f es)) := fun {W X} C m l h => by
      unfold okE at h
      split at h
      · simp only [Bool.and_eq_true, decide_eq_true_eq] at h
        obtain ⟨⟨⟨⟨⟨h1, h2⟩, h3⟩, h4⟩, h5⟩, h6⟩ := h
        exact pe_z_bi C h1 h2 (glB_gl h3) (nmOk_ne h4).1 h5 (ie.pall C h6)
      · simp only [Bool.and_eq_true, decide_eq_true_eq] at h
        obtain ⟨⟨⟨⟨⟨h1, h2⟩, h3⟩, h4⟩, h6⟩, h5⟩ := h
        subst h2 h3
        cases es with
        | nil => simp [okEs] at h5
        | cons a es =>
          cases es with
          | nil => simp [okEs] at h5
          | cons b es =>
            cases es with
            | cons _ _ => simp [okEs] at h5
            | nil =>
              simp only [okEs, Bool.and_eq_true] at h5
              cases ie with
              | cons ia ie =>
                cases ie with
                | cons ib _ => exact pe_z_index C h1 h4 (ia.pe C .b _ h5.1) (okE_star h5.2.1) h6 (ib.pe C .b _ h5.2.1)
      · cases h
    exact .mk' pe (fun {W X} C l _ h => pt_plain (pe C .b l h) (by cases l <;> first | (simp [okE] at h; done) | exact fun _ => rfl)) rfl
  | .eat a => by
    have ia := sE a
    have pe : ∀ {W : WX} {X : Cx} (_ : Cn G bl n W X) (m : Md) (l : Expr), okE G.T bl X.N X.env.scope m (.eat a) l = true → PE X l (tM X.K G n W m (.eat a)) := fun {W X} C m l h => by
      unfold okE at h
      split at h
      · simp only [Bool.and_eq_true, decide_eq_true_eq] at h
        obtain ⟨⟨h1, h2⟩, h3⟩ := h
        subst h2
        exact pe_z_eat C.xf h1 (ia.pe C .x _ h3)
      · cases h
    exact .mk' pe (fun {W X} C l _ h => pt_plain (pe C .b l h) (by cases l <;> first | (simp [okE] at h; done) | exact fun _ => rfl)) rfl
  | .lr1 a => by
    have ia := sE a
    have pe : ∀ {W : WX} {X : Cx} (_ : Cn G bl n W X) (m : Md) (l : Expr), okE G.T bl X.N X.env.scope m (.lr1 a) l = true → PE X l (tM X.K G n W m (.lr1 a)) := fun {W X} C m l h => by
      unfold okE at h
      split at h
      · simp only [Bool.and_eq_true, decide_eq_true_eq] at h
        obtain ⟨⟨⟨⟨⟨⟨h1, h2⟩, h3⟩, h4⟩, h5⟩, h6⟩, h7⟩ := h
        subst h1 h2
        exact pe_z_lr1 C.calm (glB_gl h5) (C.blt _ h3 (by decide)) (glB_gl h6) (C.blt _ h4 (by decide)) (okE_star h7) (ia.pe C .x _ h7)
      · cases h
    exact .mk' pe (fun {W X} C l _ h => pt_plain (pe C .b l h) (by cases l <;> first | (simp [okE] at h; done) | exact fun _ => rfl)) rfl
  | .lr2 a b => by
    have ia := sE a
    have ib := sE b
    have pe : ∀ {W : WX} {X : Cx} (_ : Cn G bl n W X) (m : Md) (l : Expr), okE G.T bl X.N X.env.scope m (.lr2 a b) l = true → PE X l (tM X.K G n W m (.lr2 a b)) := fun {W X} C m l h => by
      unfold okE at h
      split at h
      · simp only [Bool.and_eq_true, decide_eq_true_eq] at h
        obtain ⟨⟨⟨⟨⟨⟨⟨h1, h2⟩, h3⟩, h4⟩, h5⟩, h6⟩, h7⟩, h8⟩ := h
        subst h1 h2
        exact pe_z_lr2 C.calm (glB_gl h5) (C.blt _ h3 (by decide)) (glB_gl h6) (C.blt _ h4 (by decide)) (okE_star h7) (okE_star h8) (ia.pe C .x _ h7) (ib.pe C .x _ h8)
      · cases h
    exact .mk' pe (fun {W X} C l _ h => pt_plain (pe C .b l h) (by cases l <;> first | (simp [okE] at h; done) | exact fun _ => rfl)) rfl
  | .rng1 a => by
    have ia := sE a
    refine ⟨fun _ _ _ h => by simp [okE] at h, fun _ _ _ h => by simp [okE] at h, fun {W X} C m tgE l hm h => ?_⟩
    simp only [okIt] at h
    split at h
    · simp only [Bool.and_eq_true, decide_eq_true_eq] at h
      obtain ⟨⟨⟨h1, h2⟩, h3⟩, h4⟩ := h
      subst h1
      exact pi_z_rng1 (glB_gl h3) (C.blt _ h2 (by decide)) (okE_star h4) (ia.pe C .x _ h4)
    · cases h
  | .rng2 a b => by
    have ia := sE a
    have ib := sE b
    refine ⟨fun _ _ _ h => by simp [okE] at h, fun _ _ _ h => by simp [okE] at h, fun {W X} C m tgE l hm h => ?_⟩
    simp only [okIt] at h
    split at h
    · simp only [Bool.and_eq_true, decide_eq_true_eq] at h
      obtain ⟨⟨⟨⟨h1, h2⟩, h3⟩, h4⟩, h5⟩ := h
      subst h1
      exact pi_z_rng2 (glB_gl h3) (C.blt _ h2 (by decide)) (okE_star h4) (okE_star h5) (ia.pe C .x _ h4) (ib.pe C .x _ h5)
    · cases h
  | .enum a => by
    have ia := sE a
    refine ⟨fun _ _ _ h => by simp [okE] at h, fun _ _ _ h => by simp [okE] at h, fun {W X} C m tgE l hm h => ?_⟩
    simp only [okIt] at h
    split at h
    · simp only [Bool.and_eq_true, decide_eq_true_eq] at h
      obtain ⟨⟨⟨⟨h1, h2⟩, h3⟩, h4⟩, h5⟩ := h
      subst h1
      cases tgE <;> first | (cases h4; done) | exact pi_z_enum (glB_gl h3) (C.blt _ h2 (by decide)) (okE_star h5) (ia.pe C .x _ h5)
    · cases h
  | .zip a b => by
    have ia := sE a
    have ib := sE b
    refine ⟨fun _ _ _ h => by simp [okE] at h, fun _ _ _ h => by simp [okE] at h, fun {W X} C m tgE l hm h => ?_⟩
    simp only [okIt] at h
    split at h
    · simp only [Bool.and_eq_true, decide_eq_true_eq] at h
      obtain ⟨⟨⟨⟨⟨h1, h2⟩, h3⟩, h4⟩, h5⟩, h6⟩ := h
      subst h1
      cases tgE <;> first | (cases h4; done) | exact pi_z_zip (glB_gl h3) (C.blt _ h2 (by decide)) (okE_star h5) (okE_star h6) (ia.pe C .x _ h5) (ib.pe C .x _ h6)
    · cases h
  | .lc tg own it cs e => by
    have ii := sE it
    have ic := sEs cs
    have ie := sE e
    have pe : ∀ {W : WX} {X : Cx} (_ : Cn G bl n W X) (m : Md) (l : Expr), okE G.T bl X.N X.env.scope m (.lc tg own it cs e) l = true → PE X l (tM X.K G n W m (.lc tg own it cs e)) := fun {W X} C m l h => by
      cases l <;> first | (simp [okE] at h; done) | skip
      rename_i el gs scope p
      cases gs with
      | nil => simp [okE] at h
      | cons g gs =>
        cases gs with
        | cons _ _ => simp [okE] at h
        | nil =>
          obtain ⟨tgE, itE, ifs, k⟩ := g
          rw [okE_lc] at h
          simp only [Bool.and_eq_true, decide_eq_true_eq] at h
          obtain ⟨⟨⟨⟨h1, h2⟩, h3⟩, h4⟩, h5⟩ := h
          subst h1
          refine pe_z_lc C h2 (ii.pi C .b tgE itE (by decide) h5) (fun {Y} CY hN hS hK => ?_) fun {Y} CY hN hS hK => ?_
          · rw [← hK]
            rw [← hN, ← hS] at h3
            cases cs with
            | nil =>
              cases ifs with
              | nil => exact pts_z_nil
              | cons _ _ => simp [okTs] at h3
            | cons c cs =>
              unfold okTs at h3
              split at h3
              · simp only [Bool.and_eq_true] at h3
                obtain ⟨⟨g1, g2⟩, g3⟩ := h3
                have e0 : cs = [] := by simpa using g1
                subst e0
                cases ic with
                | cons ic _ => exact pts_z_one (ic.pt CY _ g2 g3)
              · cases h3
          · rw [← hK]
            rw [← hN, ← hS] at h4
            exact ie.pe CY .x el h4
    exact .mk' pe (fun {W X} C l _ h => pt_plain (pe C .b l h) (by cases l <;> first | (simp [okE] at h; done) | exact fun _ => rfl)) rfl
theorem sEs : ∀ es : List E, SdAll G bl n es
  | [] => .nil
  | e :: es => .cons (sE e) (sEs es)
theorem sO : ∀ o : Option E, ∀ e, o = some e → Sd G bl n e
  | none => fun _ h => by cases h
  | some e => fun e' h => by
    cases h
    exact sE e
end
end
end Z

/-! Z14: statements: their readings, and when a text is one of the language. -/
namespace Z
open PySem PySem.Spec PyProof.Rows L2

/-- the frame's work: what stood at the entry (B) stays -/
structure ExB (B : Addr → Prop) (F H F' H' : Hp) : Prop where
  same : ∀ a, B a → H' a = H a
  up : Le F F'
  old : ∀ a, B a → F' a = F a
section
variable {K : PySem.W.Frag} {cl : Nat → Addr} {B : Addr → Prop} {F H F1 H1 F2 H2 : Hp} {fr : Bool} {W : WX} {Dn : Ends}
theorem ExB.refl : ExB B F H F H := ⟨fun _ _ => rfl, Le.rfl' _, fun _ _ => rfl⟩
theorem ExB.trans (x : ExB B F H F1 H1) (y : ExB B F1 H1 F2 H2) : ExB B F H F2 H2 := ⟨fun a b => (y.same a b).trans (x.same a b), x.up.trans y.up, fun a b => (y.old a b).trans (x.old a b)⟩
theorem Ext.toB (bd : ∀ a, B a → H a ≠ none) (x : Ext F H F1 H1) : ExB B F H F1 H1 := ⟨fun a b => by
  cases q : H a with
  | none => exact absurd q (bd a b)
  | some o => exact x.same a o q, x.up, fun a b => x.old a (bd a b)⟩
/-- what is told back -/
def RV (K : PySem.W.Frag) (cl : Nat → Addr) (fr : Bool) (B : Addr → Prop) (F H : Hp) (v : V) (d : D) : Prop := if fr = true then ∃ a, v = .ref a ∧ ¬ B a ∧ Own K cl F H a d else Rep K cl F v d
/-- what an outcome wishes of the ends -/
def Af (K : PySem.W.Frag) (cl : Nat → Addr) (fr : Bool) (W : WX) (Dn : Ends) (B : Addr → Prop) (F H : Hp) : Rs Out → Prop
  | .ok (.nx ρ') => ∀ F' H' σ', ExB B F H F' H' → Stt K cl B F' H' ρ' σ' → Dn.nx σ' H'
  | .ok (.rt d) => ∀ v F' H', ExB B F H F' H' → Le F' H' → RV K cl fr B F' H' v d → Dn.rt v H'
  | .er c k => ∀ F' H' σ' dx, ExB B F H F' H' → Le F' H' → F' dx = some (exF k) → W (.ref (cl c)) (some dx) σ' H'
  | .bad => False
theorem Af.step {r : Rs Out} (x : ExB B F H F1 H1) (h : Af K cl fr W Dn B F H r) : Af K cl fr W Dn B F1 H1 r := by
  cases r with
  | bad => exact h
  | er c k => exact fun F' H' σ' dx y => h F' H' σ' dx (x.trans y)
  | ok o =>
    cases o with
    | nx ρ => exact fun F' H' σ' y => h F' H' σ' (x.trans y)
    | rt d => exact fun v F' H' y => h v F' H' (x.trans y)
def tSt (K : PySem.W.Frag) (cl : Nat → Addr) (fr : Bool) (W : WX) (f : En → Rs Out) : TS := fun Dn σ H => ∃ B F ρ, Stt K cl B F H ρ σ ∧ Af K cl fr W Dn B F H (f ρ)
theorem tSt.seq {f g : En → Rs Out} {σ : L2.St} (h : tSt K cl fr W (fun ρ => seqO (f ρ) g) Dn σ H) : tSeq (tSt K cl fr W f) (tSt K cl fr W g) Dn σ H := by
  obtain ⟨B, F, ρ, S, h⟩ := h
  dsimp only at h
  refine ⟨B, F, ρ, S, ?_⟩
  cases ef : f ρ with
  | bad => rw [ef] at h; exact h
  | er c k => rw [ef] at h; exact h
  | ok o =>
    rw [ef] at h
    cases o with
    | nx ρ1 => exact fun F' H' σ' x S' => ⟨B, F', ρ1, S', h.step x⟩
    | rt d => exact h
theorem Af.nx {ρ : En} {σ : L2.St} (h : Af K cl fr W Dn B F H (.ok (.nx ρ))) (S : Stt K cl B F H ρ σ) : Dn.nx σ H := h F H σ .refl S
end

/-- the context of a body -/
structure CnS (G : Gm) (bl : List Str) (n : Nat) (W : WX) (X : Cx) : Prop extends Cn G bl n W X where
  tk : Takes X W
  po : PassesOwn (model X.prog X.w) X.A X.env X.xe
  fnT : ∀ x, X.fn x = true
  hs : X.stack = X.env :: X.outer
  hf : X.env.frame = some X.env.locals
  knd : X.env.scope.kind = .function
  cn : ∀ (k : Nat) (p : Str × List Nat), G.T.cls[k]? = some p → X.mg p.1 = some (.ref (G.cl k))
  sb : ∀ (c k : Nat), k < G.T.cls.length → PySem.W.exmOne X.K (.ref (G.cl c)) (.ref (G.cl k)) = some (G.T.sub c k)
  mkx : ∀ (k : Nat) (p : Str × List Nat), G.T.cls[k]? = some p → ∀ (W' : WX) (Y : Cx), Cn G bl n W' Y → Y.K = X.K → Y.prog = X.prog → Y.w = X.w → Y.mg = X.mg → Y.base = X.base → ∀ (l : Expr) (te : TE) (p1 pos : Pos), Gl Y p.1 → noStar l = true → PE Y l te →
    PMk Y (.Call (.Name p.1 p1) [l] [] pos) fun σ H Q => te σ H fun v H1 => ∃ i, v = .int i ∧ ∀ dx, H1 dx = none → Q (.ref (G.cl k)) (some dx) (upd H1 dx (exF i))
def noComp : Expr → Bool
  | .ListComp .. => false
  | .SetComp .. => false
  | .DictComp .. => false
  | _ => true
theorem noComp_sw {l : Expr} {t : Option Expr} {k : Nat} {env : Env} (h : noComp l = true) : swapsWith l t k env = pure false := by
  cases l <;> first | rfl | cases h
theorem noComp_ss {l t : Expr} {k : Nat} {env : Env} (h : noComp l = true) : swapsWithSole [t] l k env = pure false := by
  show swapsWith l (some t) k env = _
  exact noComp_sw h
def noTup : Expr → Bool
  | .Tuple .. => false
  | _ => true
theorem noTup_st {ts : List Expr} {k : Nat} {p : Pos} {l : Expr} {env : Env} (h : noTup l = true) : swappedStores [.Tuple ts k p] l env = pure none := by
  cases l <;> first | rfl | cases h
section
variable {G : Gm} {bl : List Str} {n : Nat} {W : WX} {X : Cx} {fr : Bool} {B : Addr → Prop} {F H : Hp} {ρ : En} {σ : L2.St} {Dn : Ends} {e : E} {m : Md} {Q : VK} {l : Expr} {pos p q : Pos}
/-- an expression, then what comes of its value -/
theorem evV (hm : m ≠ .n) {g : D → Rs Out} (S : Stt X.K G.cl B F H ρ σ) (h : Af X.K G.cl fr W Dn B F H ((G.ev n e ρ).bind g))
    (hq : ∀ d F1 H1 v, Ext F H F1 H1 → Stt X.K G.cl B F1 H1 ρ σ → Val X.K G.cl m F1 H1 v d → Af X.K G.cl fr W Dn B F1 H1 (g d) → Q v H1) : tM X.K G n W m e σ H Q := by
  refine ⟨B, F, ρ, S, ?_⟩
  cases ea : G.ev n e ρ with
  | bad => rw [ea] at h; exact h
  | er c k =>
    rw [ea] at h
    exact fun F' H' dx x y => h F' H' σ dx (x.toB S.bd) x.le y
  | ok d =>
    rw [ea] at h
    exact Post.mk hm fun v F1 H1 x r => hq d F1 H1 v x (S.ext x) r (h.step (x.toB S.bd))
theorem evN {g : D → Rs Out} (S : Stt X.K G.cl B F H ρ σ) (h : Af X.K G.cl fr W Dn B F H ((G.ev n e ρ).bind g))
    (hq : ∀ d F1 H1 a, Ext F H F1 H1 → Stt X.K G.cl B F1 H1 ρ σ → H a = none → Own X.K G.cl F1 H1 a d → Af X.K G.cl fr W Dn B F1 H1 (g d) → Q (.ref a) H1) : tM X.K G n W .n e σ H Q := by
  refine ⟨B, F, ρ, S, ?_⟩
  cases ea : G.ev n e ρ with
  | bad => rw [ea] at h; exact h
  | er c k =>
    rw [ea] at h
    exact fun F' H' dx x y => h F' H' σ dx (x.toB S.bd) x.le y
  | ok d =>
    rw [ea] at h
    exact fun a F1 H1 x z r => hq d F1 H1 a x (S.ext x) z r (h.step (x.toB S.bd))
theorem Stt.nb (S : Stt X.K G.cl B F H ρ σ) {a : Addr} (h : H a = none) : ¬ B a := fun b => S.bd a b h
theorem Stt.nown (S : Stt X.K G.cl B F H ρ σ) {a : Addr} (h : H a = none) : ∀ j e, ρ.at j = .ow e → σ[j]? ≠ some (some (.ref a)) := fun j e hj hs => by
  obtain ⟨b, h1, h2, _⟩ := S.ow j e hj
  rw [hs] at h1
  cases h1
  exact h2.some h

/-! ### each form -/
abbrev tS1 (K : PySem.W.Frag) (G : Gm) (n : Nat) (W : WX) (fr : Bool) (s : S) : TS := tSt K G.cl fr W (evS (callF G.T n) G.gs G.T.sub s)
abbrev tS2 (K : PySem.W.Frag) (G : Gm) (n : Nat) (W : WX) (fr : Bool) (ss : List S) : TS := tSt K G.cl fr W (evSs (callF G.T n) G.gs G.T.sub ss)
theorem ps_z_expr (hm : m ≠ .n) (he : PE X l (tM X.K G n W m e)) (hc : noComp l = true) : PS X (.Expr l pos) (tS1 X.K G n W fr (.expr e)) :=
  (ps_expr he (noComp_sw hc)).zimp fun Dn σ H h => by
    obtain ⟨B, F, ρ, S, h⟩ := h
    exact evV (g := fun _ => .ok (.nx ρ)) hm S h fun d F1 H1 v x S1 r h1 => h1.nx S1
/-- name = e, by any road -/
theorem z_set {i : Nat} : ∀ Dn σ H, tS1 X.K G n W fr (.set i e) Dn σ H → tAsg (tM X.K G n W .x e) (gName i) Dn σ H := fun Dn σ H h => by
  obtain ⟨B, F, ρ, S, h⟩ := h
  exact evV (g := fun x => .ok (.nx (ρ.set i (.fz x)))) (by decide) S h fun d F1 H1 v x S1 r h1 => h1.nx (S1.set r)
theorem z_new {i : Nat} : ∀ Dn σ H, tS1 X.K G n W fr (.new i e) Dn σ H → tAsg (tM X.K G n W .n e) (gName i) Dn σ H := fun Dn σ H h => by
  obtain ⟨B, F, ρ, S, h⟩ := h
  exact evN (g := fun x => .ok (.nx (ρ.set i (.ow x)))) S h fun d F1 H1 a x S1 z r h1 => h1.nx (S1.setow r (S.nb z) fun j e hj hs => S.nown z j e hj hs)
mutual
theorem bindT_er : ∀ (t : Tg) (d : D) (ρ : En) {c : Nat} {k : Int}, bindT t d ρ ≠ .er c k
  | .nm i, d, ρ, c, k, h => by cases h
  | .tup ts, d, ρ, c, k, h => by
    cases d <;> first | (cases h; done) | exact bindTs_er ts _ ρ h
theorem bindTs_er : ∀ (ts : List Tg) (ds : List D) (ρ : En) {c : Nat} {k : Int}, bindTs ts ds ρ ≠ .er c k
  | [], [], ρ, c, k, h => by cases h
  | [], _ :: _, ρ, c, k, h => by cases h
  | _ :: _, [], ρ, c, k, h => by cases h
  | t :: ts, d :: ds, ρ, c, k, h => by
    have h' : (bindT t d ρ).bind (bindTs ts ds) = .er c k := h
    cases e : bindT t d ρ with
    | bad => rw [e] at h'; cases h'
    | er c k => exact bindT_er t d ρ e
    | ok ρ1 =>
      rw [e] at h'
      exact bindTs_er ts ds ρ1 h'
end
theorem ps_z_unp {tg : Tg} {ts : List Expr} {k : Nat} {pt : Pos} (he : PE X l (tM X.K G n W .x e)) (hc : noComp l = true) (ht : noTup l = true) (hg : PG X (.Tuple ts k pt) (tTg X.K G tg)) : PS X (.Assign [.Tuple ts k pt] l pos) (tS1 X.K G n W fr (.unp tg e)) :=
  (ps_asg he hg (noComp_ss hc) (noTup_st ht)).zimp fun Dn σ H h => by
    obtain ⟨B, F, ρ, S, h⟩ := h
    refine evV (g := fun x => (bindT tg x ρ).bind fun ρ' => .ok (.nx ρ')) (by decide) S h fun d F1 H1 v x S1 r h1 => ?_
    cases eb : bindT tg d ρ with
    | bad => rw [eb] at h1; exact h1.elim
    | er c k => exact absurd eb (bindT_er tg d ρ)
    | ok ρ' =>
      rw [eb] at h1
      exact ⟨B, F1, ρ, d, S1, r, ρ', eb, fun σ' S' _ => h1.nx S'⟩
theorem onOw_inv {i : Nat} {f : List D → Rs (List D)} (h : Af X.K G.cl fr W Dn B F H (onOw ρ i f)) : ∃ xs, ρ.at i = .ow (.list xs) ∧ Af X.K G.cl fr W Dn B F H ((f xs).bind fun ys => .ok (.nx (ρ.set i (.ow (.list ys))))) := by
  unfold onOw at h
  split at h
  · rename_i xs e
    exact ⟨xs, e, h⟩
  · exact h.elim
theorem rd_list {i : Nat} {ds : List D} (S : Stt X.K G.cl B F H ρ σ) (h : ρ.at i = .ow (.list ds)) : ∃ a vs, σ[i]? = some (some (.ref a)) ∧ H a = some (.lst vs) ∧ vs.length ≤ LIM ∧ Reps X.K G.cl F vs ds ∧ F a = none ∧ ¬ B a := by
  obtain ⟨a, h1, ⟨vs, h2, h3, h4, h5⟩, h6⟩ := S.ow i _ h
  exact ⟨a, vs, h1, h2, h3, h4, h5, h6⟩
end
end Z

/-! Z15: statements: lists that change, returns, branches, loops. -/
namespace Z
open PySem PySem.Spec PyProof.Rows L2

section
variable {G : Gm} {bl : List Str} {n : Nat} {W : WX} {X : Cx} {fr : Bool} {B : Addr → Prop} {F H : Hp} {ρ : En} {σ : L2.St} {Dn : Ends} {e : E} {m : Md} {Q : VK} {l : Expr} {pos p q c : Pos}
theorem Own.set_lst {a : Addr} {vs : List V} {ds : List D} (f : F a = Option.none) (z : vs.length ≤ LIM) (r : Reps X.K G.cl F vs ds) : Own X.K G.cl F (upd H a (.lst vs)) a (.list ds) := ⟨vs, upd_same, z, r, f⟩
/-- a change of an own list -/
theorem chg_ex {i : Nat} {ds es : List D} {a : Addr} {ws : List V} (S : Stt X.K G.cl B F H ρ σ) (h : ρ.at i = .ow (.list ds)) (hs : σ[i]? = some (some (.ref a))) (f : F a = none) (nb : ¬ B a) (z : ws.length ≤ LIM) (r : Reps X.K G.cl F ws es)
    (af : Af X.K G.cl fr W Dn B F H (.ok (.nx (ρ.set i (.ow (.list es)))))) : Dn.nx σ (upd H a (.lst ws)) :=
  af F _ σ ⟨fun b hb => upd_ne fun e => nb (e ▸ hb), Le.rfl' _, fun _ _ => rfl⟩ (S.chg h hs (Own.set_lst f z r))
theorem ps_z_app {i : Nat} {x : Str} (hN : X.N[i]? = some x) (hv : Vis X.env.scope x) (h1 : (x == ("__debug__" : Str)) = false) (h2 : (x == ("__classdict__" : Str)) = false) (hl : (p.endLine == c.line) = true) (hs : noStar l = true) (he : PE X l (tM X.K G n W .x e)) :
    PS X (.Expr (.Call (.Attribute (.Name x q) "append" p) [l] [] c) pos) (tS1 X.K G n W fr (.app i e)) := by
  have sr : starEach [l] X.env = (false, eval l X.env) :: starEach [] X.env := star_of hs
  refine (ps_expr (pe_bm PySem.F.plainAttrs_list PySem.F.slot_list_append PySem.F.type_list_append mt_append (pe_var hN hv h1 h2) (pa_cons he pa_nil sr) (by rfl) (by rw [sr]; rfl) hl sr (by rfl)) (by rfl)).zimp fun Dn σ H h => ?_
  obtain ⟨B, F, ρ, S, h⟩ := h
  obtain ⟨xs, hi, h⟩ := onOw_inv (show Af X.K G.cl fr W Dn B F H (onOw ρ i fun xs => (G.ev n e ρ).bind fun x => if xs.length < LIM then .ok (xs ++ [x]) else .bad) from h)
  rw [Rs.bind_assoc] at h
  obtain ⟨a, vs, hs, hH, hz, hr, hf, nb⟩ := rd_list S hi
  refine ⟨.ref a, hs, .inl ⟨rfl, vs, .inl (.inl hH)⟩, ?_⟩
  refine evV (by decide) S h fun d F1 H1 v x1 S1 r1 h1 => ?_
  by_cases hlt : xs.length < LIM
  · rw [if_pos hlt] at h1
    obtain ⟨a', vs', hs', hH', hz', hr', hf', nb'⟩ := rd_list S1 hi
    rw [hs] at hs'
    cases hs'
    have hl := hr'.length
    have hL := LIM_eq
    exact ⟨a, vs', v, rfl, rfl, hH', by omega, chg_ex S1 hi hs hf' nb' (by rw [List.length_append]; simp only [List.length_cons, List.length_nil]; omega) (hr'.append (.cons r1 .nil)) h1⟩
  · rw [if_neg hlt] at h1
    exact h1.elim
theorem ps_z_ext {i : Nat} {x : Str} (hN : X.N[i]? = some x) (hv : Vis X.env.scope x) (h1 : (x == ("__debug__" : Str)) = false) (h2 : (x == ("__classdict__" : Str)) = false) (hl : (p.endLine == c.line) = true) (hs : noStar l = true) (he : PE X l (tM X.K G n W .n e)) :
    PS X (.Expr (.Call (.Attribute (.Name x q) "extend" p) [l] [] c) pos) (tS1 X.K G n W fr (.ext i e)) := by
  have sr : starEach [l] X.env = (false, eval l X.env) :: starEach [] X.env := star_of hs
  refine (ps_expr (pe_bm PySem.F.plainAttrs_list PySem.F.slot_list_extend PySem.F.type_list_extend mt_extend (pe_var hN hv h1 h2) (pa_cons he pa_nil sr) (by rfl) (by rw [sr]; rfl) hl sr (by rfl)) (by rfl)).zimp fun Dn σ H h => ?_
  obtain ⟨B, F, ρ, S, h⟩ := h
  obtain ⟨xs, hi, h⟩ := onOw_inv (show Af X.K G.cl fr W Dn B F H (onOw ρ i fun xs => (G.ev n e ρ).bind fun x => match x with
    | .list ys => if xs.length + ys.length ≤ LIM then .ok (xs ++ ys) else .bad
    | _ => .bad) from h)
  rw [Rs.bind_assoc] at h
  obtain ⟨a, vs, hs, hH, hz, hr, hf, nb⟩ := rd_list S hi
  refine ⟨.ref a, hs, .inl ⟨rfl, vs, .inl (.inl hH)⟩, ?_⟩
  refine evN S h fun d F1 H1 b x1 S1 z1 r1 h1 => ?_
  cases d <;> first | (exact h1.elim) | skip
  rename_i ys
  obtain ⟨ws, g1, g2, g3, g4⟩ := r1
  dsimp only at h1
  by_cases hlt : xs.length + ys.length ≤ LIM
  · rw [if_pos hlt] at h1
    obtain ⟨a', vs', hs', hH', hz', hr', hf', nb'⟩ := rd_list S1 hi
    rw [hs] at hs'
    cases hs'
    have hl := hr'.length
    have hl2 := g3.length
    have hL := LIM_eq
    exact ⟨a, b, vs', ws, rfl, rfl, hH', g1, by omega, chg_ex S1 hi hs hf' nb' (by rw [List.length_append]; omega) (hr'.append g3) h1⟩
  · rw [if_neg hlt] at h1
    exact h1.elim
theorem ps_z_seti {i : Nat} {x : Str} {k : E} {r : Expr} (hN : X.N[i]? = some x) (hv : Vis X.env.scope x) (h1 : (x == ("__debug__" : Str)) = false) (h2 : (x == ("__classdict__" : Str)) = false) (hc : noComp l = true) (ht : noTup l = true) (hk : PE X r (tM X.K G n W .x k)) (hsl : noSlice r = true) (he : PE X l (tM X.K G n W .x e)) :
    PS X (.Assign [.Subscript (.Name x q) r p] l pos) (tS1 X.K G n W fr (.seti i k e)) := by
  refine (ps_asg he (pg_sub (pe_var hN hv h1 h2) hk set_list (by
    intro v
    cases r <;> first | rfl | cases hsl)) (noComp_ss hc) (by cases l <;> first | rfl | cases ht)).zimp fun Dn σ H h => ?_
  obtain ⟨B, F, ρ, S, h⟩ := h
  refine evV (g := fun x => onOw ρ i fun xs => (G.ev n k ρ).bind fun y => match y with
    | .int n => (match place xs.length n with
      | some j => .ok (xs.set j x)
      | none => .bad)
    | _ => .bad) (by decide) S h fun d F1 H1 v x1 S1 r1 h1 => ?_
  obtain ⟨xs, hi, h1⟩ := onOw_inv h1
  rw [Rs.bind_assoc] at h1
  obtain ⟨a, vs, hs, hH, hz, hr, hf, nb⟩ := rd_list S1 hi
  refine ⟨.ref a, hs, ?_⟩
  refine evV (by decide) S1 h1 fun y F2 H2 u x2 S2 r2 h2 => ?_
  cases y <;> first | (exact h2.elim) | skip
  rename_i j
  dsimp only at h2
  cases ep : place xs.length j with
  | none => rw [ep] at h2; exact h2.elim
  | some t =>
    rw [ep] at h2
    obtain ⟨a', vs', hs', hH', hz', hr', hf', nb'⟩ := rd_list S2 hi
    rw [hs] at hs'
    cases hs'
    have hl := hr'.length
    exact ⟨a, vs', j, t, rfl, Val.int r2, hH', by rw [hl, ← place_eq]; exact ep, chg_ex S2 hi hs hf' nb' (by rw [List.length_set]; exact hz') (hr'.set (Rep.mono x2.up r1) t) h2⟩
/-! ### return -/
theorem ps_z_ret (he : PE X l (tM X.K G n W (if fr = true then .n else .x) e)) : PS X (.Return (some l) pos) (tS1 X.K G n W fr (.ret e)) :=
  (ps_ret he).zimp fun Dn σ H h => by
    obtain ⟨B, F, ρ, S, h⟩ := h
    have h' : Af X.K G.cl fr W Dn B F H ((G.ev n e ρ).bind fun x => .ok (.rt x)) := h
    cases fr with
    | false => exact evV (g := fun x => .ok (.rt x)) (by decide) S h' fun d F1 H1 v x1 S1 r1 h1 => h1 v F1 H1 .refl S1.le r1
    | true => exact evN (g := fun x => .ok (.rt x)) S h' fun d F1 H1 a x1 S1 z r1 h1 => h1 _ F1 H1 .refl S1.le ⟨a, rfl, S.nb z, r1⟩
theorem ps_z_rto {i : Nat} {x : Str} (hN : X.N[i]? = some x) (hv : Vis X.env.scope x) (h1 : (x == ("__debug__" : Str)) = false) (h2 : (x == ("__classdict__" : Str)) = false) : PS X (.Return (some (.Name x p)) pos) (tS1 X.K G n W fr (.rto i)) :=
  (ps_ret (pe_var hN hv h1 h2)).zimp fun Dn σ H h => by
    obtain ⟨B, F, ρ, S, h⟩ := h
    have ev : evS (callF G.T n) G.gs G.T.sub (.rto i) ρ = match ρ.at i with
      | .ow d => .ok (.rt d)
      | _ => .bad := rfl
    rw [ev] at h
    split at h
    · rename_i d hd
      obtain ⟨a, hs, ho, nb⟩ := S.ow i d hd
      refine ⟨.ref a, hs, ?_⟩
      cases fr with
      | true => exact h _ F H .refl S.le ⟨a, rfl, nb, ho⟩
      | false =>
        obtain ⟨F', S', up, old⟩ := S.frz hd
        obtain ⟨v, g1, g2⟩ := S'.fz i d (by
          have hlt : i < ρ.length := by
            by_cases hlt : i < ρ.length
            · exact hlt
            · exfalso
              unfold En.at at hd
              rw [List.getD_eq_getElem?_getD, List.getElem?_eq_none (by omega)] at hd
              cases hd
          rw [En.at_set, if_pos ⟨rfl, hlt⟩])
        rw [hs] at g1
        cases g1
        exact h _ F' H ⟨fun _ _ => rfl, up, old⟩ S'.le g2
    · exact h.elim
theorem ps_z_rtn (hf : fr = false) : PS X (.Return none pos) (tS1 X.K G n W fr .rtn) :=
  ps_retN.zimp fun Dn σ H h => by
    obtain ⟨B, F, ρ, S, h⟩ := h
    subst hf
    exact h .non F H .refl S.le .non
/-! ### branches and loops -/
theorem evT {g : Bool → Rs Out} {Qt : Bool → Hp → Prop} (S : Stt X.K G.cl B F H ρ σ) (h : Af X.K G.cl fr W Dn B F H (((G.ev n e ρ).bind tr).bind g))
    (hq : ∀ b F1 H1, Ext F H F1 H1 → Stt X.K G.cl B F1 H1 ρ σ → Af X.K G.cl fr W Dn B F1 H1 (g b) → Qt b H1) : tTs X.K G n W e σ H Qt := by
  refine ⟨B, F, ρ, S, ?_⟩
  cases ea : (G.ev n e ρ).bind tr with
  | bad => rw [ea] at h; exact h
  | er c k =>
    rw [ea] at h
    exact fun F' H' dx x y => h F' H' σ dx (x.toB S.bd) x.le y
  | ok d =>
    rw [ea] at h
    exact fun F1 H1 x => hq d F1 H1 x (S.ext x) (h.step (x.toB S.bd))
theorem ps_z_if {a b : List S} {la lb : List Stmt} (hc : PT X l (tTs X.K G n W e)) (ha : PSs X la (tS2 X.K G n W fr a)) (hb : PSs X lb (tS2 X.K G n W fr b)) : PS X (.If l la lb pos) (tS1 X.K G n W fr (.ife e a b)) :=
  (ps_if hc ha hb).zimp fun Dn σ H h => by
    obtain ⟨B, F, ρ, S, h⟩ := h
    have h' : Af X.K G.cl fr W Dn B F H (((G.ev n e ρ).bind tr).bind fun t => if t then evSs (callF G.T n) G.gs G.T.sub a ρ else evSs (callF G.T n) G.gs G.T.sub b ρ) := by
      rw [Rs.bind_assoc]
      exact h
    refine evT S h' fun t F1 H1 x1 S1 h1 => ?_
    cases t with
    | true => exact ⟨B, F1, ρ, S1, h1⟩
    | false => exact ⟨B, F1, ρ, S1, h1⟩
theorem ps_z_while {N : Nat} {b : List S} {lb : List Stmt} (hp : PassesOwn (model X.prog X.w) X.A X.env X.xe) (hc : PT X l (tTs X.K G n W e)) (hb : PSs X lb (tS2 X.K G n W fr b)) : PS X (.While l lb [] pos) (tS1 X.K G n W fr (.whl N e b)) :=
  (ps_while hp hc hb).zimp fun Dn σ H h => by
    obtain ⟨B, F, ρ, S, h⟩ := h
    have h' : Af X.K G.cl fr W Dn B F H (whlGo (fun ρ => (G.ev n e ρ).bind tr) (evSs (callF G.T n) G.gs G.T.sub b) N ρ) := h
    refine ⟨fun k σ1 H1 => ∃ F1 ρ1, Stt X.K G.cl B F1 H1 ρ1 σ1 ∧ Af X.K G.cl fr W Dn B F1 H1 (whlGo (fun ρ => (G.ev n e ρ).bind tr) (evSs (callF G.T n) G.gs G.T.sub b) k ρ1), ⟨N, F, ρ, S, h'⟩, ?_⟩
    rintro k σ1 H1 ⟨F1, ρ1, S1, h1⟩
    cases k with
    | zero => exact h1.elim
    | succ k =>
      have h2 : Af X.K G.cl fr W Dn B F1 H1 (((G.ev n e ρ1).bind tr).bind fun t => if t then seqO (evSs (callF G.T n) G.gs G.T.sub b ρ1) (whlGo (fun ρ => (G.ev n e ρ).bind tr) (evSs (callF G.T n) G.gs G.T.sub b) k) else .ok (.nx ρ1)) := h1
      refine evT S1 h2 fun t F2 H2 x2 S2 h2 => ?_
      cases t with
      | false =>
        rw [if_neg Bool.false_ne_true] at h2 ⊢
        exact h2.nx S2
      | true =>
        rw [if_pos rfl] at h2 ⊢
        refine ⟨_, fun σ' H' z => ⟨k, Nat.lt_succ_self k, z⟩, B, F2, ρ1, S2, ?_⟩
        cases eb : evSs (callF G.T n) G.gs G.T.sub b ρ1 with
        | bad => rw [eb] at h2; exact h2
        | er c k => rw [eb] at h2; exact h2
        | ok o =>
          rw [eb] at h2
          cases o with
          | rt d => exact h2
          | nx ρ2 => exact fun F3 H3 σ3 x3 S3 => ⟨F3, ρ2, S3, h2.step x3⟩
theorem ps_z_for {tg : Tg} {b : List S} {lb : List Stmt} {tgE : Expr} (hp : PassesOwn (model X.prog X.w) X.A X.env X.xe) (hcm : X.calm = true) (hi : PI X tgE l (tIt X.K G n W .x e)) (hg : PG X tgE (tTg X.K G tg)) (hb : PSs X lb (tS2 X.K G n W fr b)) (hs : noSet l = true) :
    PS X (.For tgE l lb [] pos) (tS1 X.K G n W fr (.fr tg e b)) :=
  (ps_for hp hcm hi hg hb (noSet_fold hs)).zimp fun Dn σ H h => by
    obtain ⟨B, F, ρ, S, h⟩ := h
    have h' : Af X.K G.cl fr W Dn B F H (((G.ev n e ρ).bind items).bind fun ds => forGo (fun d ρ => (bindT tg d ρ).bind (evSs (callF G.T n) G.gs G.T.sub b)) ds ρ) := by
      rw [Rs.bind_assoc]
      exact h
    refine ⟨B, F, ρ, S, ?_⟩
    cases ea : (G.ev n e ρ).bind items with
    | bad => rw [ea] at h'; exact h'
    | er c k =>
      rw [ea] at h'
      exact fun F' H' dx x y => h' F' H' σ dx (x.toB S.bd) x.le y
    | ok ds =>
      rw [ea] at h'
      simp only [Rs.bind_ok] at h'
      refine fun J F1 H1 x1 wk => ?_
      refine ⟨fun i k σc Hc => k = ds.length - i ∧ i ≤ ds.length ∧ ∃ Fc ρc, Le F1 Fc ∧ Stt X.K G.cl B Fc Hc ρc σc ∧ Af X.K G.cl fr W Dn B Fc Hc (forGo (fun d ρ => (bindT tg d ρ).bind (evSs (callF G.T n) G.gs G.T.sub b)) (ds.drop i) ρc),
        ⟨ds.length, by simp, Nat.zero_le _, F1, ρ, Le.rfl' _, S.ext x1, h'.step (x1.toB S.bd)⟩, ?_⟩
      rintro i k σc Hc ⟨rfl, hi, Fc, ρc, up, Sc, hc⟩
      by_cases hlt : i < ds.length
      · obtain ⟨g1, g2⟩ := wk.go Fc Hc i (up.trans Sc.le) up Sc.le hlt
        refine .inr ⟨g1, fun σ' H' => ∃ Fc ρc, Le F1 Fc ∧ Stt X.K G.cl B Fc H' ρc σ' ∧ Af X.K G.cl fr W Dn B Fc H' (forGo (fun d ρ => (bindT tg d ρ).bind (evSs (callF G.T n) G.gs G.T.sub b)) (ds.drop (i + 1)) ρc),
          fun σ' H' z => ⟨ds.length - (i + 1), by omega, rfl, hlt, z⟩, fun v H2 y => ?_⟩
        obtain ⟨F2, x2, hr⟩ := g2 v H2 y
        have hd : ds[i]? = some ds[i] := List.getElem?_eq_getElem hlt
        rw [drop_cons hd] at hc
        have hc' : Af X.K G.cl fr W Dn B Fc Hc (seqO ((bindT tg ds[i] ρc).bind (evSs (callF G.T n) G.gs G.T.sub b)) (forGo (fun d ρ => (bindT tg d ρ).bind (evSs (callF G.T n) G.gs G.T.sub b)) (ds.drop (i + 1)))) := hc
        cases eb : bindT tg ds[i] ρc with
        | bad => rw [eb] at hc'; exact hc'.elim
        | er c k => exact absurd eb (bindT_er tg _ ρc)
        | ok ρ1 =>
          rw [eb] at hc'
          simp only [Rs.bind_ok] at hc'
          refine ⟨B, F2, ρc, ds[i], Sc.ext x2, hr _ hd, ρ1, eb, fun σ2 S2 _ => ⟨B, F2, ρ1, S2, ?_⟩⟩
          have hc2 := hc'.step (x2.toB Sc.bd)
          cases ec : evSs (callF G.T n) G.gs G.T.sub b ρ1 with
          | bad => rw [ec] at hc2; exact hc2
          | er c k => rw [ec] at hc2; exact hc2
          | ok o =>
            rw [ec] at hc2
            cases o with
            | rt d => exact hc2
            | nx ρ2 => exact fun F3 H3 σ3 x3 S3 => ⟨F3, ρ2, (up.trans x2.up).trans x3.up, S3, hc2.step x3⟩
      · have ei : i = ds.length := by omega
        subst ei
        rw [List.drop_length] at hc
        exact .inl ⟨wk.stop Hc _ (up.trans Sc.le) (Nat.le_refl _), hc.nx Sc⟩
end
end Z

/-! Z16: raise; try with several named clauses; ghosts. -/
namespace Z
open PySem PySem.Spec PyProof.Rows L2

abbrev Cl := Value × Nat × (Addr → Value → Option Addr → TS)
/-- the wish about an exception of the body: the clauses, one after the other; a clause's name is let go behind its suite -/
def wEs (L : Nat) (K : PySem.W.Frag) (Wout : WX) (Dn : Ends) : List Cl → WX
  | [] => Wout
  | (c, i, ts) :: r => fun cls d σ H => ∃ b, PySem.W.exmOne K cls c = some b ∧
      (b = true → L ≤ σ.length → ∀ a, H a = none → ts a cls d { nx := fun σ' H' => Dn.nx (σ'.set i none) H', rt := Dn.rt, bk := fun σ' H' => Dn.bk (σ'.set i none) H', ct := fun σ' H' => Dn.ct (σ'.set i none) H' } (σ.set i (some (.ref a))) H) ∧
      (b = false → wEs L K Wout Dn r cls d σ H)
inductive HdsEs (X : Cx) : List ExceptHandler → List Cl → Prop
  | nil : HdsEs X [] []
  | cons {x nm : Str} {c : Value} {i : Nat} {ts : Addr → Value → Option Addr → TS} {b₀ : Stmt} {suite : List Stmt} {np pos' : Pos} {hds : List ExceptHandler} {l : List Cl} (hi : X.N[i]? = some nm) (hln : X.env.kindOf nm = some .local) (hc : Names X x c)
      (hsu : ∀ (a : Addr) (oe : Obj) (cls : Value) (d : Option Addr) (pn : List (Addr × Obj)), Zc cls d oe → (∃ vs, oe.data = .fields vs) → PSs (X.suite a ((a, oe) :: pn)) (b₀ :: suite) (ts a cls d)) (r : HdsEs X hds l) :
      HdsEs X (.ExceptHandler (some (.Name x np)) (some nm) (b₀ :: suite) pos' :: hds) ((c, i, ts) :: l)
section
variable {X : Cx} {body : List Stmt} {h₀ : ExceptHandler} {hds : List ExceptHandler} {l : List Cl} {pos : Pos} {tb : WX → TS} {Wout : WX}
theorem ps_try_es (hN : X.N.Nodup) (hs : X.stack = X.env :: X.outer) (hf : X.env.frame = some X.env.locals) (tk : Takes X Wout)
    (hb : ∀ (W : WX) (pn : List (Addr × Obj)) (xe : Value → Shared → Prop), Takes (X.tr pn xe) W → PassesOwn (model X.prog X.w) X.A X.env xe → PSs (X.tr pn xe) body (tb W))
    (hh : HdsEs X (h₀ :: hds) l) : PS X (.Try body (h₀ :: hds) [] [] pos) (fun D σ H => tb (wEs X.N.length X.K Wout D l) D σ H) := by
  refine ⟨fun pins s σ H D I h => ?_⟩
  have ok := I.ok
  have hfr : X.A.frames = some (X.env :: X.outer) := by rw [ok.frames, hs]
  refine wpAny_Try_except ?_
  refine wpAny_mono ((hb (wEs X.N.length X.K Wout D l) (X.pn ++ pins) (fun e s₁ => wpAny (model X.prog X.w) X.A (noteFrame e X.env) (fun _ s₂ => wpAny (model X.prog X.w) X.A (setFlight e none) (fun _ s₃ =>
    wpAny (model X.prog X.w) X.A (handleBy e X.env (h₀ :: hds)) (SP X pins D) X.xe s₃) X.xe s₂) X.xe s₁) (fun u s' xx => ?_) PassesOwn.looking).run [] s σ H D (I.toTry _) h) (fun f s1 hsp => ?_) (fun e s1 he => he)
  · -- the catch
    obtain ⟨a, B, sI, pins', σ', H', cls, d, rfl, J', nb, up, sky, na, os, ag, w⟩ := xx
    have J : Inv X pins σ' H' sI := J'.ofTry ok
    have sky' : Sky B (X.env :: X.outer) a (Zc cls d) X.env.locals s'.heap := by rw [← hs]; exact sky
    show wpAny (model X.prog X.w) X.A (noteFrame (.ref a) X.env) _ _ _
    refine Sky.land Zc.steady hfr hf sky' fun h3 fl3 up3 => ?_
    have J3 : Inv X pins σ' H' { s' with heap := h3 } := J.landed nb fl3.1 (up.trans up3) os ag
    obtain ⟨oe3, vs3, he3, hz3, hd3⟩ := fl3.there
    have notFr : ∀ {h : Heap} {o : Obj} {vs : Array Value}, h.FunFrames B (X.env :: X.outer) → h.get? a = some o → o.data = .fields vs → a ∉ frs (X.env :: X.outer) := fun {h o vs} ff e dd hm => by
      obtain ⟨_, o', e', hnf⟩ := ff.mem hm
      rw [e] at e'; cases e'
      exact hnf _ dd
    have nfr := notFr fl3.2.2.1 he3 hd3
    have nL : a ≠ X.env.locals := fun z => nfr (List.mem_filterMap.mpr ⟨X.env, List.mem_cons_self, by rw [hf, z]⟩)
    have nF : a ∉ X.fs := fun hm => by
      obtain ⟨e, he, q⟩ := List.mem_filterMap.mp hm
      exact nfr (List.mem_filterMap.mpr ⟨e, List.mem_cons_of_mem _ he, q⟩)
    have S3 := J3.suite he3 hd3 na nL nF
    have go : ∀ {hds' : List ExceptHandler} {l' : List Cl}, HdsEs X hds' l' → wEs X.N.length X.K Wout D l' cls d σ' H' →
        wpAny (model X.prog X.w) X.A (handleBy (.ref a) X.env hds') (SP X pins D) X.xe { s' with heap := h3 } := by
      intro hds' l' hk
      induction hk with
      | nil =>
        intro w
        refine wpAny_handleBy_nil ?_
        obtain ⟨k1, k2, k3, oe, vs, T, oT, ts', he, hz, hd, h1, hr⟩ := id fl3
        unfold PySem.passOn
        refine wpAny_bind (wpAny_field he hd h1 ?_)
        rw [if_neg (show ¬ ((Value.ref T == Value.none) = true) from by simp)]
        have fin : wpAny (model X.prog X.w) X.A (setFlight (.ref a) X.env.frame) (fun _ s4 => wpAny (model X.prog X.w) X.A (throw (.ref a) : Sem Flow) (SP X pins D) X.xe s4) X.xe { s' with heap := h3 } := by
          rw [hf]
          refine HandSPX.setFlight_upZ fl3 fun h4 hh4 up4 => wpAny_throw (tk _ _ ?_)
          exact ⟨a, B, sI, pins, σ', H', cls, d, rfl, J, nb, (up.trans up3).trans up4, .inr (.inr (by rw [hs]; exact hh4)), na, os, ag, w⟩
        first
          | exact wpAny_bind (wpAny_pure (wpAny_bind fin))
          | exact wpAny_bind fin
      | @cons x nm c i ts b₀ suite np pos' hds2 l2 hi hln hc hsu r ih =>
        intro w
        obtain ⟨b, hb1, hyes, hno⟩ := w
        refine wpAny_handleBy_cons (codeAny_handlers_test ?_) (by intro q; cases q)
        have LT : PySem.W.Looks (model X.prog X.w) h3 (typeOf (.ref a)) cls := fun A Q E s k q => wpAny_typeOf_ref (k _ _ he3) (by rw [hz3.1]; exact q)
        have LM := PySem.W.exm_one (M := model X.prog X.w) (J3.kIn) LT hb1
        have test : ∀ {Q : Value → Shared → Prop} {E : Value → Shared → Prop}, Q c { s' with heap := h3 } → wpAny (model X.prog X.w) (X.A.mark (some (.ref a))) (eval (.Name x np) X.env) Q E { s' with heap := h3 } := fun {Q E} q => by
          obtain ⟨hg, hdbg, hm | ⟨hm, hv, hnn⟩⟩ := hc
          · exact ld_glob (X := X.suite a ((a, oe3) :: (X.pn ++ pins))) S3 hg hm q hdbg
          · exact ld_blt (X := X.suite a ((a, oe3) :: (X.pn ++ pins))) S3 hg hm hv q hnn hdbg
        refine test (LM.here ?_)
        cases b with
        | true =>
          refine codeAny_handlers_suite_as ?_
          refine HandSPX.lands_againZ fl3 fun h4 fl4 up4 => ?_
          have J4 : Inv X pins σ' H' { s' with heap := h4 } := J.landed nb fl4.1 ((up.trans up3).trans up4) os ag
          obtain ⟨oe4, vs4, he4, hz4, hd4⟩ := fl4.there
          have S4 := J4.suite he4 hd4 na nL nF
          refine store_ok (X := X.suite a ((a, oe4) :: (X.pn ++ pins))) (v := .ref a) S4 hN hi (.inl hln) rfl (fun s5 S5 => ?_) (.inr hln)
          refine wpAny_mono ((hsu a oe4 cls d (X.pn ++ pins) hz4 ⟨_, hd4⟩).run [] s5 _ H' _ S5 (hyes rfl (Nat.le_of_eq J.len.symm) a na)) (fun f s6 hsp => ?_) (fun _ _ z => False.elim z)
          have gone : ∀ {σ6 : L2.St} {H6 : Hp} {Q : Shared → Prop}, Inv (X.suite a ((a, oe4) :: (X.pn ++ pins))) [] σ6 H6 s6 → (∀ s7, Inv X pins (σ6.set i none) H6 s7 → Q s7) →
              wpAny (model X.prog X.w) X.A (do bindName X.env nm .none; unbindBehindTheSuite X.env nm pos') (fun _ s7 => Q s7) X.xe s6 := fun {σ6 H6 Q} S6 hq => gone_ok (S6.unsuite ok) hN hi hln hq
          cases f with
          | next =>
            obtain ⟨σ6, H6, S6, q6⟩ := hsp
            exact gone S6 fun s7 J7 => ⟨_, _, J7, q6⟩
          | brk =>
            obtain ⟨σ6, H6, S6, q6⟩ := hsp
            exact gone S6 fun s7 J7 => ⟨_, _, J7, q6⟩
          | cont =>
            obtain ⟨σ6, H6, S6, q6⟩ := hsp
            exact gone S6 fun s7 J7 => ⟨_, _, J7, q6⟩
          | ret u =>
            obtain ⟨v6, σ6, H6, S6, r6, q6⟩ := hsp
            exact gone S6 fun s7 J7 => ⟨_, _, _, J7, r6, q6⟩
        | false =>
          show wpAny _ X.A (handleBy (.ref a) X.env hds2) _ _ _
          exact ih (hno rfl)
    exact go hh w
  · cases f with
    | next =>
      obtain ⟨σ', H', J', q⟩ := hsp
      exact wpAny_execs_nil ⟨σ', H', J'.ofTry ok, q⟩
    | brk =>
      obtain ⟨σ', H', J', q⟩ := hsp
      exact ⟨σ', H', J'.ofTry ok, q⟩
    | cont =>
      obtain ⟨σ', H', J', q⟩ := hsp
      exact ⟨σ', H', J'.ofTry ok, q⟩
    | ret u =>
      obtain ⟨v, σ', H', J', r, q⟩ := hsp
      exact ⟨v, σ', H', J'.ofTry ok, r, q⟩
end
/-! ### the suite 'return (text, e.at)' -/
def tsAt (K : PySem.W.Frag) (i : Nat) (t : Str) (a : Addr) (cls : Value) (d : Option Addr) : TS := fun Dn σ H => ∃ (C dx : Addr) (k : Int), cls = .ref C ∧ d = some dx ∧ XfC K C ∧ PySem.W.findIn K (.ref C) "at" = some none ∧ σ[i]? = some (some (.ref a)) ∧ H dx = some (exF k) ∧
  ∀ p, H p = none → Dn.rt (.ref p) (upd H p (.tup [.str t, .int k]))
theorem pss_at {X : Cx} {i : Nat} {nm t : Str} {j k : Nat} {p1 p2 p3 p4 p5 : Pos} {pn : List (Addr × Obj)} {a : Addr} {oe : Obj} {cls : Value} {d : Option Addr} (hi : X.N[i]? = some nm) (hv : Vis X.env.scope nm) (h1 : (nm == ("__debug__" : Str)) = false) (h2 : (nm == ("__classdict__" : Str)) = false)
    (hz : Zc cls d oe) (hf : ∃ vs, oe.data = .fields vs) : PSs (X.suite a ((a, oe) :: pn)) [.Return (some (.Tuple [.Constant (.str t) j p1, .Attribute (.Name nm p2) "at" p3] k p4)) p5] (tsAt X.K i t a cls d) := by
  refine ⟨fun pins s σ H Dn I h => ?_⟩
  obtain ⟨C, dx, n, rfl, rfl, T, hno, hs, hx, q⟩ := h
  have he : PE (X.suite a ((a, oe) :: pn)) (.Name nm p2) (tVar i) := pe_var hi hv h1 h2
  have hat := pe_xf (pos := p3) T hno hz hf he (by rfl)
  have hc : PE (X.suite a ((a, oe) :: pn)) (.Constant (.str t) j p1) (tC (.str t)) := pe_str
  refine (pss_one (ps_ret (pe_tup (x1 := k) (pos := p4) (pa_cons hc (pa_cons hat pa_nil (by rfl)) (by rfl))))).run pins s σ H Dn I ?_
  refine ⟨.ref a, hs, rfl, rfl, dx, [("at", .int n)], .int n, rfl, hx, by simp [List.lookup], ?_, fun p hp => q p hp⟩
  rw [← LIM_eq]
  show 2 ≤ LIM
  unfold LIM
  decide
section
variable {G : Gm} {bl : List Str} {n : Nat} {W : WX} {X : Cx} {fr : Bool} {B : Addr → Prop} {F H : Hp} {ρ : En} {σ : L2.St} {Dn : Ends} {e : E} {m : Md} {Q : VK} {l : Expr} {pos p q c : Pos}
theorem ps_z_rse {k : Nat} {x : Str × List Nat} (C : CnS G bl n W X) (hk : G.T.cls[k]? = some x) (hg : Gl X x.1) (hs : noStar l = true) (he : PE X l (tM X.K G n W .x e)) : PS X (.Raise (some (.Call (.Name x.1 p) [l] [] q)) none pos) (tS1 X.K G n W fr (.rse k e)) :=
  (ps_raise C.calm C.tk (C.mkx k x hk W X C.toCn rfl rfl rfl rfl rfl l _ p q hg hs he)).zimp fun Dn σ H h => by
    obtain ⟨B, F, ρ, S, h⟩ := h
    refine evV (g := fun x => match x with
      | .int n => .er k n
      | _ => .bad) (by decide) S h fun d F1 H1 v x1 S1 r1 h1 => ?_
    cases d <;> first | (exact h1.elim) | skip
    rename_i i
    refine ⟨i, Val.int r1, fun dx hd => ?_⟩
    exact h1 (upd F1 dx (exF i)) (upd H1 dx (exF i)) σ dx ((Ext.new x1.le hd).toB S1.bd) (le_upd2 x1.le) upd_same
/-- the clauses, as data -/
abbrev clsOf (K : PySem.W.Frag) (G : Gm) (hs : List (Nat × Nat × Str)) : List Cl := hs.map fun h => (.ref (G.cl h.1), h.2.1, tsAt K h.2.1 h.2.2)
theorem wEs_of {Wout : WX} {c : Nat} {k : Int} (xf : ∀ c, XfC X.K (G.cl c) ∧ PySem.W.findIn X.K (.ref (G.cl c)) "at" = some none)
    (sb : ∀ (c k : Nat), k < G.T.cls.length → PySem.W.exmOne X.K (.ref (G.cl c)) (.ref (G.cl k)) = some (G.T.sub c k)) : ∀ {hs : List (Nat × Nat × Str)}, (∀ h ∈ hs, h.1 < G.T.cls.length ∧ h.2.1 < X.N.length) → (bd : ∀ a, B a → H a ≠ none) →
      Af X.K G.cl false Wout Dn B F H (evH G.T.sub c k hs) → ∀ F' H' σ' dx, ExB B F H F' H' → Le F' H' → F' dx = some (exF k) → wEs X.N.length X.K Wout Dn (clsOf X.K G hs) (.ref (G.cl c)) (some dx) σ' H'
  | [], _, bd, h, F', H', σ', dx, x, le, hd => h F' H' σ' dx x le hd
  | (k', i, t) :: hs, hh, bd, h, F', H', σ', dx, x, le, hd => by
    have hk := hh _ List.mem_cons_self
    refine ⟨_, sb c k' hk.1, fun hb hl a na => ?_, fun hb => ?_⟩
    · simp only [evH, hb, if_true] at h
      refine ⟨G.cl c, dx, k, rfl, rfl, (xf c).1, (xf c).2, List.getElem?_set_self (Nat.lt_of_lt_of_le hk.2 hl), le _ _ hd, fun p hp => ?_⟩
      have bd' : ∀ b, B b → H' b ≠ none := fun b hb => by rw [x.same b hb]; exact bd b hb
      exact h (.ref p) (upd F' p (.tup [.str t, .int k])) _ (x.trans ((Ext.new le hp).toB bd')) (le_upd2 le) (.tup (.inl (.inl upd_same)) (by show 2 ≤ LIM; unfold LIM; decide) (.cons (.str _) (.cons (.int _) .nil)))
    · simp only [evH, hb] at h
      exact wEs_of xf sb (fun z hz => hh z (List.mem_cons_of_mem _ hz)) bd h F' H' σ' dx x le hd
end
end Z

/-! Z17: which statements are of the language; each keeps its reading. -/
namespace Z
open PySem PySem.Spec PyProof.Rows L2

def lclB (sc : Scope) (x : Str) : Bool := match sc.names.lookup x with
  | some .local => true
  | _ => false
theorem lclB_ok {sc : Scope} {x : Str} (h : lclB sc x = true) : sc.names.lookup x = some .local := by
  unfold lclB at h
  split at h
  · assumption
  · cases h
/-- name = [..] that is stored by the comprehension itself -/
def lcSw (sc : Scope) (x : Str) (p : Pos) : Expr → Bool
  | .ListComp _ _ scope lp => lclB sc x && (p.line == lp.line) && !(scope.names.any fun (n, k) => n == x && (k == .local || k == .cell))
  | _ => false
def okHs (T : Tab) (N : List Str) (sc : Scope) : List (Nat × Nat × Str) → List ExceptHandler → Bool
  | [], hds => hds.isEmpty
  | (k, i, t) :: hs, hds => match hds with
    | .ExceptHandler (some (.Name x _)) (some nm) [.Return (some (.Tuple [.Constant (.str t') _ _, .Attribute (.Name nm' _) f _] _ _)) _] _ :: hds =>
      decide ((T.cls[k]?.map (·.1)) = some x) && glB sc x && nmOk x && decide (N[i]? = some nm) && lclB sc nm && nmOk nm && decide (nm' = nm) && decide (f = ("at" : Str)) && decide (t' = t) && okHs T N sc hs hds
    | _ => false
mutual
def okS (T : Tab) (bl : List Str) (N : List Str) (sc : Scope) (fr : Bool) : S → Stmt → Bool
  | .expr e, ast => match ast with
    | .Expr l _ => noComp l && okE T bl N sc .b e l
    | _ => false
  | .set i e, ast => match ast with
    | .Assign [.Name x p] l _ => decide (N[i]? = some x) && locB sc x && okE T bl N sc .x e l && (noComp l || lcSw sc x p l)
    | _ => false
  | .new i e, ast => match ast with
    | .Assign [.Name x p] l _ => decide (N[i]? = some x) && locB sc x && okE T bl N sc .n e l && (noComp l || lcSw sc x p l)
    | _ => false
  | .unp tg e, ast => match ast with
    | .Assign [.Tuple ts k pt] l _ => noComp l && noTup l && okTg N sc none tg (.Tuple ts k pt) && okE T bl N sc .x e l
    | _ => false
  | .fz _, _ => false
  | .wp _, _ => false
  | .app i e, ast => match ast with
    | .Expr (.Call (.Attribute (.Name x _) f p) [l] [] c) _ => decide (f = ("append" : Str)) && decide (N[i]? = some x) && visB sc x && nmOk x && (p.endLine == c.line) && okE T bl N sc .x e l
    | _ => false
  | .seti i k e, ast => match ast with
    | .Assign [.Subscript (.Name x _) r _] l _ => decide (N[i]? = some x) && visB sc x && nmOk x && noComp l && noTup l && noSlice r && okE T bl N sc .x k r && okE T bl N sc .x e l
    | _ => false
  | .ext i e, ast => match ast with
    | .Expr (.Call (.Attribute (.Name x _) f p) [l] [] c) _ => decide (f = ("extend" : Str)) && decide (N[i]? = some x) && visB sc x && nmOk x && (p.endLine == c.line) && okE T bl N sc .n e l
    | _ => false
  | .pop _ _, _ => false
  | .clr _, _ => false
  | .ret e, ast => match ast with
    | .Return (some l) _ => okE T bl N sc (if fr = true then .n else .x) e l
    | _ => false
  | .rto i, ast => match ast with
    | .Return (some (.Name x _)) _ => decide (N[i]? = some x) && visB sc x && nmOk x
    | _ => false
  | .rtn, ast => match ast with
    | .Return none _ => decide (fr = false)
    | _ => false
  | .ife c a b, ast => match ast with
    | .If l la lb _ => noIte c && okE T bl N sc .b c l && okSs T bl N sc fr a la && okSs T bl N sc fr b lb
    | _ => false
  | .whl _ c b, ast => match ast with
    | .While l lb [] _ => noIte c && okE T bl N sc .b c l && okSs T bl N sc fr b lb
    | _ => false
  | .fr tg it b, ast => match ast with
    | .For tgE l lb [] _ => noSet l && okTg N sc none tg tgE && okIt T bl N sc .x it tgE l && okSs T bl N sc fr b lb
    | _ => false
  | .rse k e, ast => match ast with
    | .Raise (some (.Call (.Name x _) [l] [] _)) none _ => decide ((T.cls[k]?.map (·.1)) = some x) && glB sc x && okE T bl N sc .x e l
    | _ => false
  | .try_ b hs, ast => match ast with
    | .Try lb (h :: hds) [] [] _ => decide (fr = false) && okSs T bl N sc fr b lb && okHs T N sc hs (h :: hds)
    | _ => false
def okSs (T : Tab) (bl : List Str) (N : List Str) (sc : Scope) (fr : Bool) : List S → List Stmt → Bool
  | [], ls => ls.isEmpty
  | .fz _ :: ss, ls => okSs T bl N sc fr ss ls
  | .wp _ :: ss, ls => okSs T bl N sc fr ss ls
  | s :: ss, ls => match ls with
    | l :: ls => okS T bl N sc fr s l && okSs T bl N sc fr ss ls
    | [] => false
end
section
variable {G : Gm} {bl : List Str} {n : Nat} {W : WX} {X : Cx} {fr : Bool}
theorem CnS.sto (C : CnS G bl n W X) : Sto X none := fun x h => ⟨locB_loc h, .inl (C.fnT x)⟩
theorem CnS.tr {W' : WX} {pn : List (Addr × Obj)} {xe : Value → Shared → Prop} (C : CnS G bl n W X) (tk : Takes (X.tr pn xe) W') (po : PassesOwn (model X.prog X.w) X.A X.env xe) : CnS G bl n W' (X.tr pn xe) where
  toCn := ⟨C.calm, C.nd, C.room, C.gd, C.blt, C.gcd, C.gl, C.fn, C.ok, C.xf, fun σ => passAt tk σ⟩
  tk := tk
  po := po
  fnT := C.fnT
  hs := C.hs
  hf := C.hf
  knd := C.knd
  cn := C.cn
  sb := C.sb
  mkx := C.mkx
theorem okE_set {m : Md} {e : E} {el : Expr} {gs : List Comprehension} {scope : Scope} {lp : Pos} {T : Tab} {N : List Str} {sc : Scope} (h : okE T bl N sc m e (.ListComp el gs scope lp) = true) : ∃ tg own it cs e', e = .lc tg own it cs e' := by
  cases e <;> first
    | (simp [okE] at h; done)
    | exact ⟨_, _, _, _, _, rfl⟩
    | (rename_i op _ _; cases op <;> simp [okE] at h)
theorem pts_z (C : Cn G bl n W X) : ∀ (cs : List E) (ifs : List Expr), okTs G.T bl X.N X.env.scope cs ifs = true → PTs X ifs (tTests X.K G n W cs)
  | [], ifs, h => by
    cases ifs with
    | nil => exact pts_z_nil
    | cons _ _ => simp [okTs] at h
  | c :: cs, ifs, h => by
    unfold okTs at h
    split at h
    · simp only [Bool.and_eq_true] at h
      obtain ⟨⟨g1, g2⟩, g3⟩ := h
      have e0 : cs = [] := by simpa using g1
      subst e0
      exact pts_z_one ((sE c).pt C _ g2 g3)
    · cases h
/-- a list that a comprehension stores itself -/
theorem ps_z_lc {m : Md} {i : Nat} {x : Str} {e : E} {el : Expr} {gs : List Comprehension} {scope : Scope} {lp p pos : Pos} (C : CnS G bl n W X) (hi : X.N[i]? = some x) (h : okE G.T bl X.N X.env.scope m e (.ListComp el gs scope lp) = true)
    (hx : X.env.scope.names.lookup x = some .local) (hl : (p.line == lp.line) = true) (ha : (scope.names.any fun (n, k) => n == x && (k == .local || k == .cell)) = false) : PS X (.Assign [.Name x p] (.ListComp el gs scope lp) pos) (tAsg (tM X.K G n W m e) (gName i)) := by
  obtain ⟨tg, own, it, cs, e, rfl⟩ := okE_set h
  cases gs with
  | nil => simp [okE] at h
  | cons g gs =>
    cases gs with
    | cons _ _ => simp [okE] at h
    | nil =>
      obtain ⟨tgE, itE, ifs, k⟩ := g
      rw [okE_lc] at h
      simp only [Bool.and_eq_true, decide_eq_true_eq] at h
      obtain ⟨⟨⟨⟨h1, h2⟩, h3⟩, h4⟩, h5⟩ := h
      subst h1
      unfold lcHd at h2
      simp only [Bool.and_eq_true] at h2
      obtain ⟨⟨⟨a1, a2⟩, a3⟩, a4⟩ := h2
      have hown : (own.map fun i => (X.N.getD i Str.empty, i)).map (·.2) = own := by
        rw [List.map_map]
        exact List.map_id' own
      have hs := slots_mem a3
      refine (ps_setLc C.calm C.nd hi hx (sw_true C.knd hx hl ha) ((sE it).pi C.toCn .b tgE itE (by decide) h5) (blkOk_by a1) (fun s H c cl fp => pg_z (X := X.blk s H scope (compEnvC scope cl c X.env) fp) (raw := some scope) C.calm C.nd (Sto.blk (sc := X.env.scope) rfl fun _ => rfl) tg tgE a2)
        (fun s H c cl fp => pts_z (X := X.blk s H scope (compEnvC scope cl c X.env) fp) C.toCn.blk cs ifs h3) (fun s H c cl fp => (sE e).pe (X := X.blk s H scope (compEnvC scope cl c X.env) fp) C.toCn.blk .x el h4) (noSet_fold a4)).zimp fun Dn σ H q => by
          rw [hown]
          exact lc_reads hs _ _ _ q
/-- a name's store, by either road -/
theorem ps_z_store {m : Md} {i : Nat} {x : Str} {e : E} {l : Expr} {p pos : Pos} (C : CnS G bl n W X) (hi : X.N[i]? = some x) (hx : locB X.env.scope x = true) (h : okE G.T bl X.N X.env.scope m e l = true) (hc : (noComp l || lcSw X.env.scope x p l) = true) :
    PS X (.Assign [.Name x p] l pos) (tAsg (tM X.K G n W m e) (gName i)) := by
  rw [Bool.or_eq_true] at hc
  rcases hc with hc | hc
  · exact ps_set C.nd hi (locB_loc hx) ((sE e).pe C.toCn m l h) (noComp_sw hc) (.inl (C.fnT x))
  · cases l <;> first | (cases hc; done) | skip
    simp only [lcSw, Bool.and_eq_true] at hc
    exact ps_z_lc C hi h (lclB_ok hc.1.1) hc.1.2 (by simpa using hc.2)
theorem hds_of (C : CnS G bl n W X) : ∀ {hs : List (Nat × Nat × Str)} {hds : List ExceptHandler}, okHs G.T X.N X.env.scope hs hds = true → HdsEs X hds (clsOf X.K G hs) ∧ ∀ h ∈ hs, h.1 < G.T.cls.length ∧ h.2.1 < X.N.length
  | [], hds, h => by
    cases hds with
    | nil => exact ⟨.nil, fun _ z => by cases z⟩
    | cons _ _ => simp [okHs] at h
  | (k, i, t) :: hs, hds, h => by
    unfold okHs at h
    split at h
    · rename_i x np nm t' j p1 nm' p2 f p3 kk p4 p5 p6 hds
      simp only [Bool.and_eq_true, decide_eq_true_eq] at h
      obtain ⟨⟨⟨⟨⟨⟨⟨⟨⟨h1, h2⟩, h3⟩, h4⟩, h5⟩, h6⟩, h7⟩, h8⟩, h9⟩, h10⟩ := h
      subst h7 h8 h9
      obtain ⟨i1, i2⟩ := hds_of C h10
      cases ek : G.T.cls[k]? with
      | none => rw [ek] at h1; cases h1
      | some c =>
        rw [ek] at h1
        have e1 : c.1 = x := Option.some.inj h1
        subst e1
        refine ⟨.cons h4 (lclB_ok h5) ⟨glB_gl h2, (nmOk_ne h3).1, .inl (C.cn k c ek)⟩ (fun a oe cls d pn hz hf => pss_at h4 (.inl (lclB_ok h5)) (nmOk_ne h6).1 (nmOk_ne h6).2 hz hf) i1, fun z hz => ?_⟩
        cases hz with
        | head =>
          refine ⟨?_, ?_⟩
          · exact (List.getElem?_eq_some_iff.mp ek).1
          · exact (List.getElem?_eq_some_iff.mp h4).1
        | tail _ hz => exact i2 z hz
    · cases h
mutual
theorem sS : ∀ (s : S) {W : WX} {X : Cx} (_ : CnS G bl n W X) (l : Stmt), okS G.T bl X.N X.env.scope fr s l = true → PS X l (tS1 X.K G n W fr s)
  | .expr e, W, X, C, l, h => by
    unfold okS at h
    split at h
    · simp only [Bool.and_eq_true] at h
      exact ps_z_expr (m := .b) (by decide) ((sE e).pe C.toCn .b _ h.2) h.1
    · cases h
  | .set i e, W, X, C, l, h => by
    unfold okS at h
    split at h
    · simp only [Bool.and_eq_true, decide_eq_true_eq] at h
      exact (ps_z_store C h.1.1.1 h.1.1.2 h.1.2 h.2).zimp z_set
    · cases h
  | .new i e, W, X, C, l, h => by
    unfold okS at h
    split at h
    · simp only [Bool.and_eq_true, decide_eq_true_eq] at h
      exact (ps_z_store C h.1.1.1 h.1.1.2 h.1.2 h.2).zimp z_new
    · cases h
  | .unp tg e, W, X, C, l, h => by
    unfold okS at h
    split at h
    · simp only [Bool.and_eq_true] at h
      obtain ⟨⟨⟨h1, h2⟩, h3⟩, h4⟩ := h
      exact ps_z_unp ((sE e).pe C.toCn .x _ h4) h1 h2 (pg_z C.calm C.nd C.sto tg _ h3)
    · cases h
  | .fz _, W, X, C, l, h => by simp [okS] at h
  | .wp _, W, X, C, l, h => by simp [okS] at h
  | .app i e, W, X, C, l, h => by
    unfold okS at h
    split at h
    · simp only [Bool.and_eq_true, decide_eq_true_eq] at h
      obtain ⟨⟨⟨⟨⟨h1, h2⟩, h3⟩, h4⟩, h5⟩, h6⟩ := h
      subst h1
      exact ps_z_app h2 (visB_vis h3) (nmOk_ne h4).1 (nmOk_ne h4).2 h5 (okE_star h6) ((sE e).pe C.toCn .x _ h6)
    · cases h
  | .seti i k e, W, X, C, l, h => by
    unfold okS at h
    split at h
    · simp only [Bool.and_eq_true, decide_eq_true_eq] at h
      obtain ⟨⟨⟨⟨⟨⟨⟨h1, h2⟩, h3⟩, h4⟩, h5⟩, h6⟩, h7⟩, h8⟩ := h
      exact ps_z_seti h1 (visB_vis h2) (nmOk_ne h3).1 (nmOk_ne h3).2 h4 h5 ((sE k).pe C.toCn .x _ h7) h6 ((sE e).pe C.toCn .x _ h8)
    · cases h
  | .ext i e, W, X, C, l, h => by
    unfold okS at h
    split at h
    · simp only [Bool.and_eq_true, decide_eq_true_eq] at h
      obtain ⟨⟨⟨⟨⟨h1, h2⟩, h3⟩, h4⟩, h5⟩, h6⟩ := h
      subst h1
      exact ps_z_ext h2 (visB_vis h3) (nmOk_ne h4).1 (nmOk_ne h4).2 h5 (okE_star h6) ((sE e).pe C.toCn .n _ h6)
    · cases h
  | .pop _ _, W, X, C, l, h => by simp [okS] at h
  | .clr _, W, X, C, l, h => by simp [okS] at h
  | .ret e, W, X, C, l, h => by
    unfold okS at h
    split at h
    · exact ps_z_ret ((sE e).pe C.toCn _ _ h)
    · cases h
  | .rto i, W, X, C, l, h => by
    unfold okS at h
    split at h
    · simp only [Bool.and_eq_true, decide_eq_true_eq] at h
      exact ps_z_rto h.1.1 (visB_vis h.1.2) (nmOk_ne h.2).1 (nmOk_ne h.2).2
    · cases h
  | .rtn, W, X, C, l, h => by
    unfold okS at h
    split at h
    · exact ps_z_rtn (of_decide_eq_true h)
    · cases h
  | .ife c a b, W, X, C, l, h => by
    unfold okS at h
    split at h
    · simp only [Bool.and_eq_true] at h
      obtain ⟨⟨⟨h1, h2⟩, h3⟩, h4⟩ := h
      exact ps_z_if ((sE c).pt C.toCn _ h1 h2) (sSs a C _ h3) (sSs b C _ h4)
    · cases h
  | .whl N c b, W, X, C, l, h => by
    unfold okS at h
    split at h
    · simp only [Bool.and_eq_true] at h
      obtain ⟨⟨h1, h2⟩, h3⟩ := h
      exact ps_z_while C.po ((sE c).pt C.toCn _ h1 h2) (sSs b C _ h3)
    · cases h
  | .fr tg it b, W, X, C, l, h => by
    unfold okS at h
    split at h
    · simp only [Bool.and_eq_true] at h
      obtain ⟨⟨⟨h1, h2⟩, h3⟩, h4⟩ := h
      exact ps_z_for C.po C.calm ((sE it).pi C.toCn .x _ _ (by decide) h3) (pg_z C.calm C.nd C.sto tg _ h2) (sSs b C _ h4) h1
    · cases h
  | .rse k e, W, X, C, l, h => by
    unfold okS at h
    split at h
    · simp only [Bool.and_eq_true, decide_eq_true_eq] at h
      obtain ⟨⟨h1, h2⟩, h3⟩ := h
      cases ek : G.T.cls[k]? with
      | none => rw [ek] at h1; cases h1
      | some c =>
        rw [ek] at h1
        have e1 : c.1 = _ := Option.some.inj h1
        subst e1
        exact ps_z_rse C ek (glB_gl h2) (okE_star h3) ((sE e).pe C.toCn .x _ h3)
    · cases h
  | .try_ b hs, W, X, C, l, h => by
    unfold okS at h
    split at h
    · simp only [Bool.and_eq_true, decide_eq_true_eq] at h
      obtain ⟨⟨h1, h2⟩, h3⟩ := h
      obtain ⟨hh, hk⟩ := hds_of C h3
      refine (ps_try_es (tb := fun W' => tS2 X.K G n W' fr b) C.nd C.hs C.hf C.tk (fun W' pn xe tk po => sSs b (C.tr tk po) _ h2) hh).zimp fun Dn σ H q => ?_
      obtain ⟨B, F, ρ, S, q⟩ := q
      refine ⟨B, F, ρ, S, ?_⟩
      have ev : evS (callF G.T n) G.gs G.T.sub (.try_ b hs) ρ = match evSs (callF G.T n) G.gs G.T.sub b ρ with
        | .er c n => evH G.T.sub c n hs
        | r => r := rfl
      rw [ev] at q
      cases eb : evSs (callF G.T n) G.gs G.T.sub b ρ with
      | bad => rw [eb] at q; exact q
      | ok o =>
        rw [eb] at q
        cases o with
        | nx ρ' => exact q
        | rt d => exact q
      | er c k =>
        rw [eb] at q
        rw [h1] at q
        exact fun F' H' σ' dx x le hd => wEs_of C.xf C.sb hk S.bd q F' H' σ' dx x le hd
    · cases h
theorem sSs : ∀ (ss : List S) {W : WX} {X : Cx} (_ : CnS G bl n W X) (ls : List Stmt), okSs G.T bl X.N X.env.scope fr ss ls = true → PSs X ls (tS2 X.K G n W fr ss)
  | [], W, X, C, ls, h => by
    cases ls with
    | nil =>
      refine pss_nil.zimp fun Dn σ H q => ?_
      obtain ⟨B, F, ρ, S, q⟩ := q
      exact Af.nx (ρ := ρ) q S
    | cons _ _ => simp [okSs] at h
  | s :: ss, W, X, C, ls, h => by
    have go : (∀ l ls', ls = l :: ls' → okS G.T bl X.N X.env.scope fr s l = true → okSs G.T bl X.N X.env.scope fr ss ls' = true → PSs X ls (tS2 X.K G n W fr (s :: ss))) := fun l ls' e h1 h2 => by
      subst e
      exact (pss_cons (sS s C l h1) (sSs ss C ls' h2)).zimp fun Dn σ H q => tSt.seq q
    cases s <;> first
      | (cases ls with
         | nil => simp [okSs] at h
         | cons l ls' =>
           simp only [okSs, Bool.and_eq_true] at h
           exact go l ls' rfl h.1 h.2)
      | skip
    · rename_i i
      refine (sSs ss C ls (by simpa only [okSs] using h)).zimp fun Dn σ H q => ?_
      obtain ⟨B, F, ρ, S, q⟩ := q
      have q' : Af X.K G.cl fr W Dn B F H (seqO (match ρ.at i with
        | .ow d => .ok (.nx (ρ.set i (.fz d)))
        | _ => .ok (.nx ρ)) (evSs (callF G.T n) G.gs G.T.sub ss)) := q
      cases ei : ρ.at i with
      | un => rw [ei] at q'; exact ⟨B, F, ρ, S, q'⟩
      | fz d => rw [ei] at q'; exact ⟨B, F, ρ, S, q'⟩
      | ow d =>
        rw [ei] at q'
        obtain ⟨F', S', up, old⟩ := S.frz ei
        exact ⟨B, F', _, S', q'.step ⟨fun _ _ => rfl, up, old⟩⟩
    · rename_i is
      refine (sSs ss C ls (by simpa only [okSs] using h)).zimp fun Dn σ H q => ?_
      obtain ⟨B, F, ρ, S, q⟩ := q
      exact ⟨B, F, _, S.wipe is, q⟩
end
/-- a body, with its docstring or without -/
def okBody (T : Tab) (bl : List Str) (N : List Str) (sc : Scope) (fr : Bool) (ss : List S) (ls : List Stmt) : Bool := match ls with
  | .Expr (.Constant (.str _) _ _) _ :: ls => okSs T bl N sc fr ss ls
  | ls => okSs T bl N sc fr ss ls
theorem sBody (C : CnS G bl n W X) (ss : List S) (ls : List Stmt) (h : okBody G.T bl X.N X.env.scope fr ss ls = true) : PSs X ls (tS2 X.K G n W fr ss) := by
  unfold okBody at h
  split at h
  · exact (pss_cons ps_doc (sSs ss C _ h)).zimp fun Dn σ H q => q
  · exact sSs ss C _ h
end
end Z

/-! Z18: the defs of a table keep what the table says. -/
namespace Z
open PySem PySem.Spec PyProof.Rows L2

/-- a def of the table in the program -/
structure Row where
  f : Fn
  st : Stmt
  a : Addr
  d : FuncData
structure RowOk (K : PySem.W.Frag) (mg : Str → Option Value) (T : Tab) (bl : List Str) (r : Row) : Prop where
  fn : L2.Fun K r.f.name r.f.name r.st r.a r.d
  gl : mg r.f.name = some (.ref r.a)
  sc : FnScope r.f.N (r.f.N.take r.f.np) (defScope r.st)
  bd : Binds K r.d (r.f.N.take r.f.np) []
  np : (r.f.N.take r.f.np).length = r.f.np
  ok : okBody T bl r.f.N (defScope r.st) r.f.fresh r.f.body (defBody r.st) = true
/-- what is known of the module -/
structure PrOk (P : Program) (w : World) (K : PySem.W.Frag) (mg : Str → Option Value) (G : Gm) (bl : List Str) (rs : List Row) : Prop where
  fns : G.T.fns = rs.map (·.f)
  fa : ∀ (j : Nat) (r : Row), rs[j]? = some r → G.fa j = r.a ∧ G.fd j = r.d
  row : ∀ r ∈ rs, RowOk K mg G.T bl r
  blt : ∀ x ∈ bl, x ≠ ("gcd" : Str) → mg x = none
  gcd : ("gcd" : Str) ∈ bl → mg "gcd" = some (.builtin "math.gcd")
  gl : ∀ (j : Nat) (p : Str × Int), G.T.gls[j]? = some p → ∃ t, mg p.1 = some (Value.int p.2 t)
  xf : ∀ c, XfC K (G.cl c) ∧ PySem.W.findIn K (.ref (G.cl c)) "at" = some none
  cn : ∀ (k : Nat) (p : Str × List Nat), G.T.cls[k]? = some p → mg p.1 = some (.ref (G.cl k))
  sb : ∀ (c k : Nat), k < G.T.cls.length → PySem.W.exmOne K (.ref (G.cl c)) (.ref (G.cl k)) = some (G.T.sub c k)
  mkx : ∀ (n : Nat), 3 ≤ n → ∀ (base : Heap), K.In base → base.Ns mainGlobals mg → ∀ (k : Nat) (p : Str × List Nat), G.T.cls[k]? = some p → ∀ (W' : WX) (Y : Cx), Cn G bl n W' Y → Y.K = K → Y.prog = P → Y.w = w → Y.mg = mg → Y.base = base → ∀ (l : Expr) (te : TE) (p1 pos : Pos), Gl Y p.1 → noStar l = true → PE Y l te →
    PMk Y (.Call (.Name p.1 p1) [l] [] pos) fun σ H Q => te σ H fun v H1 => ∃ i, v = .int i ∧ ∀ dx, H1 dx = none → Q (.ref (G.cl k)) (some dx) (upd H1 dx (exF i))
section
variable {P : Program} {w : World} {K : PySem.W.Frag} {mg : Str → Option Value} {G : Gm} {bl : List Str} {rs : List Row} {base : Heap}
/-- what a def of the table promises at a level -/
def spT (K : PySem.W.Frag) (G : Gm) (n : Nat) (j : Nat) (f : Fn) : Sp := fun vs H Q E =>
  ∃ F ds, Le F H ∧ Reps K G.cl F vs ds ∧ vs.length = (f.N.take f.np).length ∧ match callF G.T n j ds with
    | .ok d => Post K G.cl (if f.fresh then .n else .x) F H d Q
    | .er c k => ∀ F' H' dx, Ext F H F' H' → F' dx = some (exF k) → E (.ref (G.cl c)) (some dx) H'
    | .bad => False
theorem ExB.toE {F H F' H' : Hp} (x : ExB (fun a => H a ≠ none) F H F' H') (le : Le F' H') : Ext F H F' H' := ⟨fun a o e => by rw [x.same a (by rw [e]; simp)]; exact e, x.up, le, x.old⟩
theorem start_len (N : List Str) (vs : List V) (h : vs.length ≤ N.length) : (L2.start N vs).length = N.length := by
  unfold L2.start
  rw [List.length_append, List.length_map, List.length_replicate]
  omega
/-- the slots at a def's entry -/
theorem stt_start {cl : Nat → Addr} {F H : Hp} {N : List Str} {vs : List V} {ds : List D} (le : Le F H) (r : Reps K cl F vs ds) : Stt K cl (fun a => H a ≠ none) F H (ds.map .fz ++ List.replicate (N.length - ds.length) .un) (L2.start N vs) where
  le := le
  bd := fun a h => h
  len := by
    unfold L2.start
    rw [List.length_append, List.length_map, List.length_replicate, List.length_append, List.length_map, List.length_replicate, r.length]
    exact Nat.le_refl _
  fz := fun i d h => by
    unfold En.at at h
    rw [List.getD_eq_getElem?_getD] at h
    by_cases hi : i < ds.length
    · rw [List.getElem?_append_left (by simpa using hi), List.getElem?_map] at h
      have hd : ds[i]? = some ds[i] := List.getElem?_eq_getElem hi
      rw [hd] at h
      have e : ds[i] = d := by simpa using h
      obtain ⟨v, g1, g2⟩ := r.get hd
      refine ⟨v, ?_, e ▸ g2⟩
      unfold L2.start
      rw [List.getElem?_append_left (by rw [List.length_map, r.length]; exact hi), List.getElem?_map, g1]
      rfl
    · rw [List.getElem?_append_right (by simpa using hi)] at h
      exfalso
      by_cases h2 : i - (ds.map Sl.fz).length < N.length - ds.length
      · rw [List.getElem?_replicate_of_lt h2] at h
        cases h
      · rw [List.getElem?_eq_none (by rw [List.length_replicate]; omega)] at h
        cases h
  ow := fun i d h => by
    unfold En.at at h
    rw [List.getD_eq_getElem?_getD] at h
    exfalso
    by_cases hi : i < ds.length
    · rw [List.getElem?_append_left (by simpa using hi), List.getElem?_map, List.getElem?_eq_getElem hi] at h
      cases h
    · rw [List.getElem?_append_right (by simpa using hi)] at h
      by_cases h2 : i - (ds.map Sl.fz).length < N.length - ds.length
      · rw [List.getElem?_replicate_of_lt h2] at h
        cases h
      · rw [List.getElem?_eq_none (by rw [List.length_replicate]; omega)] at h
        cases h
  inj := fun i j d e a h _ _ _ => by
    unfold En.at at h
    rw [List.getD_eq_getElem?_getD] at h
    exfalso
    by_cases hi : i < ds.length
    · rw [List.getElem?_append_left (by simpa using hi), List.getElem?_map, List.getElem?_eq_getElem hi] at h
      cases h
    · rw [List.getElem?_append_right (by simpa using hi)] at h
      by_cases h2 : i - (ds.map Sl.fz).length < N.length - ds.length
      · rw [List.getElem?_replicate_of_lt h2] at h
        cases h
      · rw [List.getElem?_eq_none (by rw [List.length_replicate]; omega)] at h
        cases h
theorem fns_all (M : PrOk P w K mg G bl rs) (hK : K.In base) (hm : base.Ns mainGlobals mg) : ∀ (n j : Nat) (f : Fn), G.T.fns[j]? = some f → FnG P w K mg base (CX P w) n (G.fa j) (G.fd j) (f.N.take f.np) (spT K G n j f)
  | 0, j, f, hf => ⟨fun h => by obtain ⟨F, ds, _, _, hl, _⟩ := h; exact hl, fun _ _ _ _ _ h => by
      obtain ⟨F, ds, _, _, _, h⟩ := h
      exact h.elim⟩
  | n + 1, j, f, hf => by
    rw [M.fns, List.getElem?_map] at hf
    obtain ⟨r, hr, e⟩ := Option.map_eq_some_iff.mp hf
    subst e
    have R := M.row r (List.mem_of_getElem? hr)
    obtain ⟨ea, ed⟩ := M.fa j r hr
    obtain ⟨oc, od, kV, doc, pm, an, cdv, ct, osl, efd, lk, hcd⟩ := R.fn.ex
    rw [ea, ed, efd]
    rw [efd] at lk
    refine fnG_of lk hcd R.sc (fun h => by obtain ⟨F, ds, _, _, hl, _⟩ := h; exact hl) fun A out s H vs Q E room gd hsp => ?_
    obtain ⟨F, ds, le, rp, hl, h⟩ := hsp
    have hf : G.T.fns[j]? = some r.f := by rw [M.fns, List.getElem?_map, hr]; rfl
    have ev : callF G.T (n + 1) j ds = if n < 3 then .bad else runFn G.T (callF G.T n) r.f ds := by
      show (if n < 3 then Rs.bad else match G.T.fns[j]? with
        | some f => runFn G.T (callF G.T n) f ds
        | none => .bad) = _
      rw [hf]
    rw [ev] at h
    by_cases hn : n < 3
    · rw [if_pos hn] at h
      exact h.elim
    rw [if_neg hn] at h
    unfold runFn at h
    by_cases hd : ds.length = r.f.np
    · rw [if_pos hd] at h
      refine ⟨_, sBody (G := G) (bl := bl) (n := n) (W := fun cls d _ H => E cls d H) (fr := r.f.fresh) ?_ r.f.body _ R.ok, ?_⟩
      · have tk : Takes (cxOf (CX P w) P w K mg base r.f.N r.f.name (defScope r.st) r.a cdv A out s H E) (fun cls d _ H => E cls d H) := takes_of rfl rfl rfl (E₁ := fun e s' => CX P w out H s E e s') rfl
        exact {
          calm := rfl
          nd := R.sc.nd
          room := room
          gd := gd
          blt := M.blt
          gcd := M.gcd
          gl := M.gl
          fn := fun j f hj => by
            rw [M.fns, List.getElem?_map] at hj
            obtain ⟨r, hr, e⟩ := Option.map_eq_some_iff.mp hj
            subst e
            have R := M.row r (List.mem_of_getElem? hr)
            obtain ⟨ea, ed⟩ := M.fa j r hr
            rw [ea, ed]
            exact ⟨R.gl, R.fn.kp, R.bd, R.np⟩
          ok := fun j f hj => fns_all M hK hm n j f hj
          xf := M.xf
          pa := fun σ => passAt tk σ
          tk := tk
          po := passes_of rfl
          fnT := fun _ => rfl
          hs := rfl
          hf := rfl
          knd := R.sc.kind
          cn := M.cn
          sb := M.sb
          mkx := fun k p hk W' Y C e1 e2 e3 e4 e5 l te p1 pos hg hs he => M.mkx n (Nat.le_of_not_lt hn) base hK hm k p hk W' Y C e1 e2 e3 e4 e5 l te p1 pos hg hs he }
      · refine ⟨fun a => H a ≠ none, F, _, stt_start le rp, ?_⟩
        cases eo : evSs (callF G.T n) G.gs G.T.sub r.f.body (ds.map .fz ++ List.replicate (r.f.N.length - ds.length) .un) with
        | bad => rw [show evSs (callF G.T n) (G.T.gls.map (·.2)) G.T.sub r.f.body (ds.map .fz ++ List.replicate (r.f.N.length - ds.length) .un) = _ from eo] at h; exact h
        | er c k =>
          rw [show evSs (callF G.T n) (G.T.gls.map (·.2)) G.T.sub r.f.body (ds.map .fz ++ List.replicate (r.f.N.length - ds.length) .un) = _ from eo] at h
          exact fun F' H' σ' dx x le' hd => h F' H' dx (x.toE le') hd
        | ok o =>
          rw [show evSs (callF G.T n) (G.T.gls.map (·.2)) G.T.sub r.f.body (ds.map .fz ++ List.replicate (r.f.N.length - ds.length) .un) = _ from eo] at h
          cases o with
          | nx ρ =>
            dsimp only at h
            cases ef : r.f.fresh with
            | true => rw [ef] at h; exact h.elim
            | false =>
              rw [ef] at h
              exact fun F' H' σ' x S' => h .non F' H' (x.toE S'.le) .non
          | rt d =>
            dsimp only at h
            refine fun v F' H' x le' rv => ?_
            unfold RV at rv
            cases ef : r.f.fresh with
            | true =>
              rw [ef] at h rv
              obtain ⟨a, rfl, nb, ow⟩ := rv
              refine h a F' H' (x.toE le') ?_ ow
              cases q : H a with
              | none => rfl
              | some _ => exact absurd (by show H a ≠ none; rw [q]; simp) nb
            | false =>
              rw [ef] at h rv
              exact h v F' H' (x.toE le') rv
    · rw [if_neg hd] at h
      exact h.elim
end
end Z

set_option maxHeartbeats 2000000
/-! Z19: the base error class, whose __init__ asks super() and stores one field. -/
namespace Z
open PySem PySem.Spec PyProof.Rows L2

/-- the wrapper of ValueError.__init__, called -/
theorem mw_call {P : Program} {w : World} {A : Around} {Er : Value → Shared → Prop} {h : Heap} {g : Array GenState} {d : Drawn} {t : Nat} {os : OsState} {nm q : Str} {C N : Addr} {bs bm : List Value} {hdct : Bool} {sn : List Str} {sub : List Value} {ab : Bool} {col : Option Bool} {dd : Option Addr}
    {k0 k1 k2 k3 k5 : Option Value} {u e t0 : Addr} {rest : List Value} {Q : Value → Shared → Prop}
    (hC : h.get? C = some (excClassObj nm q C N bs bm hdct sn sub ab col dd k0 k1 k2 k3 k5 "ValueError.__new__")) (he : h.get? e = some (HandSPX.excO C t0)) (hu : h.get? u = some (W.kxs_mw "ValueError.__init__" e)) (hz : rest.length ≤ sizeLine)
    (hq : ∀ h' t1, (∀ b o, b ≠ e → h.get? b = some o → h'.get? b = some o) → h'.get? e = some (HandSPX.excO C t1) → Q .none ⟨h', g, d, t, os⟩) : wpAny (model P w) A (call (.ref u) rest) Q Er ⟨h, g, d, t, os⟩ := by
  have FB := F.excBase_ValueError
  refine wpAny_call (codeAny_of_tree ?_)
  show wpAny _ A.in1 (callAny (.ref u) ⟨rest, []⟩) _ _ _
  simp only [callAny]
  refine wpAny_bind (wpAny_load hu ?_)
  simp only [W.kxs_mw, show (Value.type "method-wrapper" == Value.type "method" || Value.type "method-wrapper" == Value.type "builtin_function_or_method" || Value.type "method-wrapper" == Value.type "method-wrapper") = true by decide, if_true]
  refine W.KFB.if_so (by decide) ?_
  refine wpAny_bind (W.check_bound_init FB.toExcCallFacts hC he rfl ?_)
  refine wpAny_bind (wpAny_pure (wpAny_pure ?_))
  refine ⟨Code.quiet_builtin _ (by decide +kernel), codeAny_builtin FB.initEntry ?_⟩
  rw [Around.under_plainId FB.init.plain _]
  wp_walk
  refine hq _ h.objs.size (fun b o hb ho => ?_) ?_
  · rw [Heap.get?_update_other _ _ (Ne.symm hb), Heap.get?_push_of_some _ ho]
  · rw [Heap.get?_update_self _ (Heap.get?_push_of_some _ he) rfl]
    rfl
/-- what the written part says of an error class C below D, whose __init__ stands at fI -/
structure ErrC (K : PySem.W.Frag) (D fI C : Addr) : Prop where
  T : OexC K C
  no : PySem.W.findIn K (.ref C) "at" = some none
  sub : PySem.W.subIn K (.ref C) (.type "ValueError") = some true
  mro : PySem.W.mroIn K C (.ref D) = some true
  sup : PySem.W.ks_superIn K C D "__init__" = some (some (.builtin "ValueError.__init__"))
  ini : PySem.W.findIn K (.ref C) "__init__" = some (some (.ref fI))
/-- .. and of the def itself -/
structure IniD (P : Program) (K : PySem.W.Frag) (mg : Str → Option Value) (D fI : Addr) (st : Stmt) (fd : FuncData) : Prop where
  ex : ∃ (qual : Str) (oc : Value) (od : Option Addr) (dV kV doc pm : Value) (an : Option Addr) (cda cc : Addr) (ct : Value) (osl : Array (Option Value)), fd = PySem.W.ksFn "__init__" qual (defArgs st) (defBody st) (defScope st) dV kV doc pm an (.ref cda) ct cc ∧
    K.lookup fI = some ⟨oc, od, .func fd, osl⟩ ∧ PySem.W.codeIn K (.ref cda) qual = true ∧ (∃ ccl cdd vs ccs file tf, K.lookup cda = some ⟨ccl, cdd, .fields vs, ccs⟩ ∧ vs[2]? = some (.str file tf) ∧ ((P.main.file : Str) == file) = true) ∧
    ∃ cl cld csl, K.lookup cc = some ⟨cl, cld, .cell (some (.ref D)), csl⟩
  ty : PySem.W.typeIn K (.ref fI) = some (.type "function")
  cls : (PySem.W.clsIn K D).isSome = true
  sc : NdefX.NScope ["self", "at", "__class__"] ["self", "at"] ["__class__"] (defScope st)
  ks : (defScope st).names.lookup ("super" : Str) = some .globalImplicit
  top : (P.main.scope.names.lookup ("super" : Str)).isSome = false
  ms : mg "super" = none
  op : PySem.W.nsIn K cStatics "thirdparty.any" = some none
  ar : ∃ a, ((defArgs st).posonlyargs ++ (defArgs st).args).head? = some a ∧ a.arg = "self"
  bd : ∃ p0 p1 p2 p3 p4 p5 p6 p7 p8 p9, defBody st = [.Expr (.Call (.Attribute (.Call (.Name "super" p0) [] [] p1) "__init__" p2) [.Name "at" p3] [] p4) p5, .Assign [.Attribute (.Name "self" p6) "at" p7] (.Name "at" p8) p9] ∧
    ∀ env : Env, ∃ pl : Sem Bool, eval (.Call (.Attribute (.Call (.Name "super" p0) [] [] p1) "__init__" p2) [.Name "at" p3] [] p4) env = (do
      let ov ← attributeBase (.Call (.Name "super" p0) [] [] p1) "__init__" env (eval (.Call (.Name "super" p0) [] [] p1) env)
      standAt p2.atName
      let (f, first) ← holding [ov] (getMethod ov "__init__" pl)
      callWith p4 f first (backTo p4 (starEach [.Name "at" p3] env)) [])
  bi : Binds K fd ["self", "at"] []
def spIni (K : PySem.W.Frag) (D fI : Addr) : Sp := fun vs H Q _ => ∃ a C i, vs = [.ref a, .int i] ∧ ErrC K D fI C ∧ H a = some (exo a C none) ∧ ∀ d, H d = none → d ≠ a → Q .non (upd (upd H d (exd d [("at", .int i)])) a (exo a C (some d)))
theorem boot_super : bootBuiltins "super" = some (.type "super") := by decide +kernel
theorem ini_ok {P : Program} {w : World} {K : PySem.W.Frag} {mg : Str → Option Value} {base : Heap} {cx : CXT} {k : Nat} {D fI : Addr} {st : Stmt} {fd : FuncData} (M : IniD P K mg D fI st fd) : FnOk P w K mg base cx (k + 1) fI fd ["self", "at"] (spIni K D fI) := by
  refine ⟨fun vs H Q E h => by obtain ⟨a, C, i, rfl, _⟩ := h; rfl, fun A outer s H args us vs Q E hr e0 hb r hsp => ?_⟩
  obtain ⟨a, C, i, rfl, EC, ea, hq⟩ := hsp
  obtain ⟨qual, oc, od, dV, kV, doc, pm, an, cda, cc, ct, osl, rfl, lk, hcd, ⟨ccl, cdd, cvs, ccs, file, tf, lcd, hcv, hfile⟩, cl, cld, csl, lcc⟩ := M.ex
  obtain ⟨ar, har, earg⟩ := M.ar
  obtain ⟨p0, p1, p2, p3, p4, p5, p6, p7, p8, p9, hbody, hev⟩ := M.bd
  have KX : K.In s.heap := e0.mod.kin.keeps fun b o q => (e0.bs b o q).1
  have lim : s.heap.NoLimit := e0.mod.nolimit.keeps fun b o q => (e0.bs b o q).1
  have S := M.sc
  let Fn : NdefX.NF := ⟨"__init__", qual, defArgs st, defBody st, defScope st, [("__class__", cc)], cda⟩
  refine ks_codeAny_call_defAt (binds := (["self", "at"] : List Str).zip us) (body := defBody st) hr.depth (KX fI _ lk) rfl lim (PySem.W.codeRec_of KX hcd) rfl hb S.nocell (fun ⟨n, _⟩ hy => S.par n (List.of_mem_zip hy).1) (fun h₁ hns kp => ?_) S.co S.gen S.kind
  have hcc : H cc = none := (e0.bs cc _ (e0.mod.kin _ _ lcc)).2
  have CA : NdefX.CellsAt Fn.cl ["__class__"] [none] s.heap H := {
    len := rfl
    all := fun y c e => by
      have e' : (if (y == ("__class__" : Str)) = true then some cc else none) = some c := by
        have e2 : ([("__class__", cc)] : List (Str × Addr)).lookup y = some c := e
        simp only [List.lookup] at e2
        cases hy : (y == ("__class__" : Str)) with
        | true => rw [hy] at e2; simpa using e2
        | false => rw [hy] at e2; cases e2
      split at e'
      · cases e'
        exact ⟨hcc, _, _, KX _ _ lcc, rfl⟩
      · cases e'
    inj := fun x y c h1 h2 => by
      have key : ∀ {x : Str}, ([("__class__", cc)] : List (Str × Addr)).lookup x = some c → x = "__class__" := fun {x} h => by
        simp only [List.lookup] at h
        cases hx : (x == ("__class__" : Str)) with
        | true => exact eq_of_beq hx
        | false => rw [hx] at h; cases h
      rw [key h1, key h2]
    has := fun j y hy => by
      cases j with
      | zero =>
        cases hy
        exact ⟨cc, by simp [Fn, List.lookup], fun v hv => by cases hv⟩
      | succ j => cases hy }
  have I : Inv (NdefX.ncx cx P w K mg base ["self", "at", "__class__"] Fn fI A outer s H E) [] (NdefX.startF ["self", "at", "__class__"] [.ref a, .int i] [none]) H { s with heap := h₁, toks := s.toks + ((["self", "at"] : List Str).zip us).length } := NdefX.inv_startN S hr.hd e0 rfl r CA hns kp
  have goal_of : ∀ b, defBody st = b → PySem.wpAt (model P w) (A.deeper (NdefX.envF Fn fI s.heap.objs.size)) (.func (defBody st) (NdefX.envF Fn fI s.heap.objs.size)) (execs b (NdefX.envF Fn fI s.heap.objs.size)) (fun f s' => CR cx outer P w H s Q E (.ok (.ret (match f with | .ret v => v | _ => .none))) s')
      (fun e s' => wpAny (model P w) (A.deeper (NdefX.envF Fn fI s.heap.objs.size)) (leaving (NdefX.envF Fn fI s.heap.objs.size) e) (fun _ s'' => CR cx outer P w H s Q E (.error e) s'') (fun e' s'' => CR cx outer P w H s Q E (.error e') s'') s')
      { s with heap := h₁, toks := s.toks + ((["self", "at"] : List Str).zip us).length } := fun b hb' => ?_
  · exact goal_of _ rfl
  rw [hb'.symm.trans hbody]
  have hkc : (defScope st).names.lookup ("__class__" : Str) = some .free := S.frk "__class__" (by simp)
  have hks : (defScope st).names.lookup ("self" : Str) = some .local := S.par "self" (by simp)
  have hka : (defScope st).names.lookup ("at" : Str) = some .local := S.par "at" (by simp)
  obtain ⟨pl, hev⟩ := hev (NdefX.envF Fn fI s.heap.objs.size)
  -- the object's class, as it is written
  obtain ⟨nm, q, NN, bs, bm, sn, sub, ab, col, dd, k0, k1, k2, k3, k5, hC, hbm⟩ := EC.T.cls
  have hcl : PySem.W.clsIn K C = some { name := nm, bases := bs, mro := .ref C :: bm, ns := NN, qualname := q, hasDict := true, slotNames := sn, subclasses := sub, abstract := ab, collection := col, hasDel := false } := by unfold PySem.W.clsIn; rw [hC] <;> rfl
  obtain ⟨cdD, hD⟩ := Option.isSome_iff_exists.mp M.cls
  obtain ⟨oD, hD1, hD2⟩ : ∃ oD, K.lookup D = some oD ∧ oD.data = .cls cdD := by
    unfold PySem.W.clsIn at hD
    split at hD
    · rename_i c d cd' sl ho
      cases hD
      exact ⟨_, ho, rfl⟩
    · cases hD
  obtain ⟨mb, hmb, hbb⟩ := I.mod.blt
  obtain ⟨mL, hnL, hlL⟩ := id I.loc
  have selfAt : mL ar.arg = some (.ref a) := by
    obtain ⟨u, ru, lk⟩ := hlL 0 "self" (.ref a) rfl rfl (.inl hks)
    cases ru
    rw [earg]
    rcases lk with ⟨_, e⟩ | ⟨z, _⟩
    · exact e
    · rcases z with z | z <;> exact absurd (z.symm.trans hks) (by simp)
  obtain ⟨t1, hxa⟩ := exo_at I.hok ea
  refine ks_wpAt_execs_cons (ks_wpAt_Expr_any (ks_wpAt_MethodCall (ks_wpAt_super_base (f := fI) (cc := cda) (ar := ar) M.ks hkc (by decide) rfl (I.kIn _ _ lk) rfl har rfl (I.kIn _ _ lcd) rfl hcv hfile M.top ?_) hev) I.quiet)
  refine PySem.W.ks_loadName_global S.kind M.ks (Calls.loadGlobal_builtin (I.mod.glob.keeps I.bk) M.ms (hmb.keeps I.bk) ((hbb _ (by decide)).trans boot_super) ⟨rfl, ?_⟩)
  refine wpAny_loadName_free S.kind hkc rfl ⟨_, I.kIn _ _ lcc, rfl⟩ ?_
  refine wpAny_loadName_local S.kind (by rw [earg]; exact hks) hnL selfAt ?_
  refine ks_wpAny_isType_cls (I.kIn _ _ hD1) hD2 ⟨rfl, ?_⟩
  refine ks_wpAny_call_super (I.kIn _ _ hD1) hD2 hxa rfl (fun c z => by cases z) (PySem.W.looks_mroIn I.kIn EC.mro) fun h' eso kso => ?_
  have I1 : Inv (NdefX.ncx cx P w K mg base ["self", "at", "__class__"] Fn fI A outer s H E) [] (NdefX.startF ["self", "at", "__class__"] [.ref a, .int i] [none]) H { s with heap := h', toks := s.toks + ((["self", "at"] : List Str).zip us).length } := I.kept (t' := s.toks + ((["self", "at"] : List Str).zip us).length) kso
  obtain ⟨t2, hxa2⟩ := exo_at I1.hok ea
  have IA : PySem.W.InstAt h' a { cls := .ref C, dict := none, data := .fields #[.ref t2, .none, .none, .none, .bool false, .none] } C none := ⟨hxa2, rfl, rfl, trivial⟩
  have hsup : PySem.W.alongIn K "__init__" (((Value.ref C :: bm).dropWhile (· != .ref D)).drop 1) = some (some (.builtin "ValueError.__init__")) := by
    have z := EC.sup
    unfold PySem.W.ks_superIn at z
    rw [hcl] at z
    exact z
  refine PySem.W.kxs_getMethod PySem.W.kxs_ValueError (so := h₁.objs.size) eso (PySem.W.looks_opaque I1.kIn M.op) (l₀ := .ref C :: bm) (fun A Q E s k q => wpAny_bind ((PySem.W.looks_clsIn I1.kIn hcl) A _ E s k (wpAny_pure q))) rfl I1.kIn hsup
    (IA.type.andThen (PySem.W.looks_subIn I1.kIn EC.sub)) (PySem.W.ks_ne I1.kIn IA hcl) (by decide) ?_
  -- the argument, the call
  have hu0 : (h'.push (PySem.W.kxs_mw "ValueError.__init__" a)).get? h'.objs.size = some (PySem.W.kxs_mw "ValueError.__init__" a) := Heap.get?_push_size _ rfl
  have I2 : Inv (NdefX.ncx cx P w K mg base ["self", "at", "__class__"] Fn fI A outer s H E) [(h'.objs.size, PySem.W.kxs_mw "ValueError.__init__" a)] (NdefX.startF ["self", "at", "__class__"] [.ref a, .int i] [none]) H { s with heap := h'.push (PySem.W.kxs_mw "ValueError.__init__" a), toks := s.toks + ((["self", "at"] : List Str).zip us).length + 1 } :=
    (I1.kept (t' := s.toks + ((["self", "at"] : List Str).zip us).length + 1) fun b o e => Heap.get?_push_of_some _ e).pins_of fun p hp => by
      have ep : p = (h'.objs.size, PySem.W.kxs_mw "ValueError.__init__" a) := by simpa using hp
      subst ep
      exact ⟨hu0, I1.hok.fresh (Nat.le_refl _), Nat.ne_of_gt I1.lt, I1.nofs (Nat.le_refl _), fun v z => by cases z⟩
  refine PySem.W.kxs_callWith (i := "ValueError.__init__") (x := a) (by rfl) (Calls.evalArgs_plain ?_)
  have pa := pa_cons (X := NdefX.ncx cx P w K mg base ["self", "at", "__class__"] Fn fI A outer s H E) (e := .Name "at" p3) (pe_var (i := 1) rfl (.inl hka)) pa_nil (by rfl)
  refine thn (pa.run p4 _ _ _ H (fun vs H' => vs = [.int i] ∧ H' = H) I2 ⟨.int i, rfl, rfl, rfl⟩) fun vs s3 hvs => ?_
  obtain ⟨ws, H3, I3, rv, rfl, rfl⟩ := hvs
  have hu3 := (I3.pin _ (List.mem_append_right _ (List.mem_singleton.mpr rfl))).1
  refine ⟨hu3, ?_⟩
  obtain ⟨t3, hxa3⟩ := exo_at I3.hok ea
  obtain ⟨hp3, g3, d3, tk3, os3⟩ := s3
  refine mw_call (I3.kIn _ _ hC) hxa3 hu3 (by
    show vs.length ≤ sizeLine
    rw [← Paired.length rv, sizeLine_eq]
    show 1 ≤ _
    omega) fun h4 t4 k4 hx4 => ?_
  have J4 := I3.write (t' := tk3) (x := a) (e := a) (o := exo a C none) (by rw [ea]; exact True.intro) (.inl rfl) k4 ⟨_, hx4⟩ (exo_ok hx4)
  have eu : upd H3 a (exo a C none) = H3 := by
    funext b
    by_cases hb : b = a
    · rw [hb, upd_same, ea]
    · rw [upd_ne hb]
  rw [eu] at J4
  have J5 := J4.pins_of (pins' := []) fun p hp => by cases hp
  -- self.at = at
  have st2 : PSs (NdefX.ncx cx P w K mg base ["self", "at", "__class__"] Fn fI A outer s H3 E) [.Assign [.Attribute (.Name "self" p6) "at" p7] (.Name "at" p8) p9] (tOst K "at" (tVar 0) (tVar 1)) :=
    pss_one (ps_ost (pe_var (i := 0) rfl (.inl hks)) (pe_var (i := 1) rfl (.inl hka)))
  have run := st2.run [] _ _ H3 { nx := fun _ H' => Q .non H', rt := Q } J5 ⟨.int i, rfl, .ref a, rfl, a, C, rfl, EC.T, EC.no, .inl ⟨ea, fun dx n ne => hq dx n ne⟩⟩
  refine wpAt_of_wpAny (wpAny_mono run (fun fl s' hs => ?_) fun e s' z => ?_)
  · cases fl with
    | ret u =>
      obtain ⟨v, σ', H', J, rv, q⟩ := hs
      exact ⟨v, H', J.os, J.bare, J.base, J.hok, rv, q⟩
    | next =>
      obtain ⟨σ', H', J, q⟩ := hs
      exact ⟨.non, H', J.os, J.bare, J.base, J.hok, rfl, q⟩
    | brk => exact hs.elim fun _ z => z.elim fun _ z => z.2.elim
    | cont => exact hs.elim fun _ z => z.elim fun _ z => z.2.elim
  · exact z
/-- a reading, closed under weaker wishes -/
def tUp (te : TE) : TE := fun σ H Q => ∃ R : VK, te σ H R ∧ ∀ v H', R v H' → Q v H'
theorem pe_up {Y : Cx} {l : Expr} {te : TE} (h : PE Y l te) : PE Y l (tUp te) := ⟨fun pins s σ H Q I q => by
  obtain ⟨R, q, w⟩ := q
  exact thn (h.run pins s σ H R I q) fun u s1 ⟨v, H1, I1, r, z⟩ => ⟨v, H1, I1, r, w v H1 z⟩⟩
/-- an error of a class below it, made -/
theorem err_mk {G : Gm} {bl : List Str} {n : Nat} {W : WX} {Y : Cx} {D fI C : Addr} {st : Stmt} {fd : FuncData} {x : Str} {l : Expr} {te : TE} {p1 pos : Pos} (hn : 3 ≤ n) (Cy : Cn G bl n W Y) (M : IniD Y.prog Y.K Y.mg D fI st fd) (EC : ErrC Y.K D fI C) (hg : Gl Y x) (hm : Y.mg x = some (.ref C)) (hx : (x == ("__debug__" : Str)) = false)
    (hs : noStar l = true) (he : PE Y l te) : PMk Y (.Call (.Name x p1) [l] [] pos) fun σ H Q => te σ H fun v H1 => ∃ i, v = .int i ∧ ∀ dx, H1 dx = none → Q (.ref C) (some dx) (upd H1 dx (exF i)) := by
  have sr : starEach [l] Y.env = (false, eval l Y.env) :: starEach [] Y.env := star_of hs
  have mk := pmk_oex (CX := CX0) (x := x) (p := p1) (pos := pos) EC.T EC.ini M.ty (ini_ok (w := Y.w) (base := Y.base) (cx := CX0) (k := 0) M) (Cy.room.mono (by omega)) M.bi (.nil) pass0 hg hm (pa_cons (pe_up he) pa_nil sr) hx sr (by rfl)
  intro pins s σ H Q I q
  refine mk pins s σ H Q I ⟨_, q, fun v H1 z => ?_⟩
  obtain ⟨i, rfl, z⟩ := z
  refine ⟨by show 1 ≤ 1000; omega, fun a ha => ⟨a, C, i, rfl, EC, upd_same, fun d hd hda => ⟨rfl, d, [("at", .int i)], upd_same, ?_, ?_, ?_⟩⟩⟩
  · rw [upd_ne hda, upd_same]
  · rw [upd_ne hda] at hd
    exact hd
  · rw [upd_ne hda] at hd
    have e : upd (del (upd (upd (upd H1 a (exo a C none)) d (exd d [("at", .int i)])) a (exo a C (some d))) a) d (.xd [("at", .int i)]) = upd H1 d (exF i) := by
      funext b
      by_cases hb : b = d
      · rw [hb, upd_same, upd_same]
        rfl
      · rw [upd_ne hb, upd_ne hb]
        by_cases hba : b = a
        · rw [hba, del_same, ha]
        · rw [del_ne hba, upd_ne hba, upd_ne hb, upd_ne hba]
    rw [e]
    exact z d hd
end Z

/-! Z20: the law's own call. -/
namespace Z
open PySem PySem.Spec PyProof.Rows L2

theorem law_callG {P : Program} {w : World} {K : PySem.W.Frag} {mg mb : Str → Option Value} {cx : CXT} {k : Nat} {fa a : Addr} {fd : FuncData} {x : Str} {sp : Sp} {s0 : Shared} {vs : List Value} {ns : List Int}
    (kx : K.In s0.heap) (nsg : s0.heap.Ns mainGlobals mg) (nsb : s0.heap.Ns builtinsNs mb) (nsv : ∀ x : Str, x ≠ "__name__" → mb x = bootBuiltins x) (nlm : s0.heap.NoLimit) (gs0 : s0.gens = #[])
    (at0 : s0.heap.get? a = some { cls := .type "list", data := .seq vs.toArray }) (ia : IntsAre vs ns) (sz : ns.length ≤ sizeLine) (rm : Room k callerA)
    (F : ∀ base : Heap, K.In base → base.Ns mainGlobals mg → FnG P w K mg base cx k fa fd [x] sp) (hbind : ∀ u : Value, BindsTo s0 fd ⟨[u], []⟩ [(x, u)])
    (hsp : ∀ H : Hp, Only H → SqL K H a (ns.map V.int) → sp [.ref a] H (fun v _ => v = .bl true) fun _ _ _ => False)
    (hCX : ∀ H e s', cx [] H s0 (fun _ _ _ => False) e s' → False) :
    codeAny (model P w) callerA (.call (.ref fa) ⟨[.ref a], []⟩) (fun r s' => r = .ok (.ret (.bool true)) ∧ OldK s0.heap s'.heap ∧ s'.os = s0.os ∧ AllBare s'.gens) s0 := by
  have vv := vals_ints ia
  have ln := ia.length
  -- from an abstract heap in which nothing but the script may be tracked
  have core : ∀ H : Hp, Only H → SqL K H a (ns.map V.int) → HOk P w H s0.heap → (∀ b, H b ≠ none → b = a) → (H a ≠ none → K.lookup a = none) →
      codeAny (model P w) callerA (.call (.ref fa) ⟨[.ref a], []⟩) (fun r s' => r = .ok (.ret (.bool true)) ∧ OldK s0.heap s'.heap ∧ s'.os = s0.os ∧ AllBare s'.gens) s0 := by
    intro H oo sq ho onl nok
    have inB : ∀ {b : Addr} {o : Obj}, s0.heap.get? b = some o → H b = none → (hidT s0.heap H).get? b = some o := fun e n => hidT_get e n
    have nodict : ∀ {b : Addr} {o : Obj} {es : Array DictEntry} {ep : Nat}, s0.heap.get? b = some o → o.data = .dict es ep → H b = none := fun {b o es ep} e d => by
      cases q : H b with
      | none => rfl
      | some u =>
        have e' : b = a := onl b (by rw [q]; simp)
        subst e'
        rw [at0] at e; cases e
        have d' : Data.seq vs.toArray _ = Data.dict es ep := d
        cases d'
    have nsB : ∀ {b : Addr} {m : Str → Option Value}, s0.heap.Ns b m → (hidT s0.heap H).Ns b m := fun {b m} ⟨o, es, ep, e, d, r⟩ => ⟨o, es, ep, inB e (nodict e d), d, r⟩
    have kB : K.In (hidT s0.heap H) := fun b o e => inB (kx b o e) (by
      cases q : H b with
      | none => rfl
      | some u =>
        have e' : b = a := onl b (by rw [q]; simp)
        subst e'
        rw [nok (by rw [q]; simp)] at e; cases e)
    have md : Mod K mg (hidT s0.heap H) := ⟨kB, nsB nsg, ⟨mb, nsB nsb, nsv⟩, let ⟨mc, h1, h2⟩ := nlm; ⟨mc, nsB h1, h2⟩⟩
    have e0 : Env0 P w K mg (hidT s0.heap H) callerA [] s0 H := ⟨rfl, md, fun b o e => of_hidT e, Nat.le_of_eq (hidT_size _ _), trivial, fun b nsb => absurd (show b ∈ ([] : List Addr) from nsb) (by simp), ho, .of_eq gs0⟩
    refine codeAny_mono ((F _ kB (nsB nsg)).run (us := [.ref a]) (vs := [.ref a]) rm rfl e0 (hbind (.ref a)) (.cons rfl .nil) (hsp H oo sq)) fun r s' h => ?_
    cases r with
    | error e => exact (hCX H e s' h).elim
    | ok fl =>
      cases fl with
      | next => exact False.elim h
      | brk => exact False.elim h
      | cont => exact False.elim h
      | ret u =>
        obtain ⟨v, H', os, br, uu, ho', r', q⟩ := h
        have q' : v = .bl true := q
        subst q'
        obtain rfl : u = Value.bool true := r'
        refine ⟨rfl, OldK.of_keep fun b o e => ?_, os, br⟩
        cases q : H b with
        | none => exact uu.keep b o e q (by intro z; exact absurd (show b ∈ ([] : List Addr) from z) (by simp)) (by simp)
        | some u =>
          rcases oo b with z | ⟨ob, xs, z⟩
          · rw [q] at z; cases z
          · have z2 := uu.frzs b ob _ z
            obtain ⟨e1, _⟩ := ho b _ z
            obtain ⟨e2, _⟩ := ho' b _ z2
            rw [e] at e1; cases e1
            exact e2
  cases hk : K.lookup a with
  | some o =>
    -- the script is one of the module's own objects
    have e := kx a o hk
    rw [at0] at e
    cases e
    refine core (fun _ => none) (fun _ => .inl rfl) (.inr ⟨_, vs.toArray, _, hk, rfl, rfl, rfl, by rw [List.size_toArray, ln]; exact sz, by simpa using vv⟩) (fun b u z => by have z' : (none : Option HO) = some u := z; cases z') (fun b z => absurd rfl z) fun z => absurd rfl z
  | none =>
    refine core (fun b => if b = a then some (.frz { cls := .type "list", data := .seq vs.toArray } (.lst (ns.map V.int))) else none) (fun b => ?_) (.inl (.inr ⟨{ cls := .type "list", data := .seq vs.toArray }, if_pos rfl⟩)) (fun b u z => ?_) (fun b z => ?_) fun _ => hk
    · by_cases nsb : b = a
      · exact .inr ⟨_, _, if_pos nsb⟩
      · exact .inl (if_neg nsb)
    · by_cases nsb : b = a
      · have z' := (if_pos nsb).symm.trans z
        cases z'
        subst nsb
        exact ⟨at0, by rw [List.length_map]; exact sz, vs, _, vv, at0⟩
      · have z' := (if_neg nsb).symm.trans z
        cases z'
    · by_cases nsb : b = a
      · exact nsb
      · exact absurd (if_neg nsb) z

/-- the head's goal, of a law that is a def of the table -/
theorem walk_ofG {l : PySem.W.OpenLaw} {n k : Nat} {q : Program} {loose : List Str} {XP : (Str → Option Value) → Heap → Prop} {YP : World → Heap → Prop} {d : DefRec} {K : Params → PySem.W.Frag} {x : Str}
    (hn : l.most = some n) (hn2 : n ≤ LIM) (hdf : d.params.defaults = []) (rm : Room k callerA) (hY : ∀ (w : World) (h : Heap), YP w h → (K w.params).In h)
    (F : ∀ (w : World) (mg : Str → Option Value) (fa : Addr) (h : Heap), (K w.params).In h → h.Ns mainGlobals mg → mg d.name = some (.ref fa) →
      ∃ (G : Gm) (bl : List Str) (rs : List Row) (j : Nat) (r : Row), PrOk l.prog w (K w.params) mg G bl rs ∧ rs[j]? = some r ∧ r.f.name = d.name ∧ r.f.N.take r.f.np = [x] ∧ r.f.fresh = false ∧ ∀ ns : List Int, ns.length ≤ n → callF G.T k j [scD (ns.map PyData.int)] = .ok (.bool true)) :
    PySem.W.WalkO q loose XP YP l.row.toRowW d [] (fun f vs => PySem.call f vs) := by
  refine Att.attach_call hn hdf fun w s₀ s₁ mg mb fa o pm cd doc a vs ns G Y ho hd hcd hmg hobj hints hlen hg => ?_
  have kx := hY w _ Y
  obtain ⟨Gm, bl, rs, j, r, M, hr, hname, hps, hfr, law⟩ := F w mg fa _ kx G.T.g hmg
  have R := M.row r (List.mem_of_getElem? hr)
  obtain ⟨ea, ed⟩ := M.fa j r hr
  have hfa : fa = r.a := by
    have e := R.gl
    rw [hname, hmg] at e
    cases e
    rfl
  have hfj : Gm.T.fns[j]? = some r.f := by rw [M.fns, List.getElem?_map, hr]; rfl
  have fn := fun (base : Heap) (hb : (K w.params).In base) (hs : base.Ns mainGlobals mg) => fns_all M hb hs k j r.f hfj
  rw [ea, ed, hps] at fn
  subst hfa
  refine law_callG kx G.T.g G.T.b G.T.builtins G.T.nolimit hg hobj hints (by rw [← LIM_eq]; omega) rm fn (fun u => ?_) (fun H oo sq => ?_) fun H e s' z => cx_no z
  · have z := R.bd
    rw [hps] at z
    exact z s₁ [u] kx rfl
  · refine ⟨H, [scD (ns.map PyData.int)], Le.rfl' _, .cons (.scr sq (by rw [List.length_map]; omega) Reps.ints) .nil, by rw [hps]; rfl, ?_⟩
    rw [law ns hlen, hfr]
    exact fun v F' H' x r => by
      cases r
      rfl
end Z

/-! Z21: what the written part says, put together. -/
namespace Z
open PySem PySem.Spec PyProof.Rows L2

theorem along_ve (K : PySem.W.Frag) : PySem.W.alongIn K "__init__" [.type "ValueError", .type "Exception", .type "BaseException", .type "object"] = some (some (.builtin "ValueError.__init__")) := by kernel_rfl
/-- an error class below D -/
structure ClsK (K : PySem.W.Frag) (D fI C : Addr) : Prop where
  err : ErrC K D fI C
  xf : XfC K C
  hd : PySem.W.hasDictIn K C = true
  ty : PySem.W.typeIn K (.ref C) = some (.type "type")
theorem clsK_mk {K : PySem.W.Frag} {D fI C : Addr} {nm q : Str} {N : Addr} {bs : List Value} {sn : List Str} {sub : List Value} {ab : Bool} {col : Option Bool} {dd : Option Addr} {k0 k1 k2 k3 k5 : Option Value}
    (xL : K.lookup C = some (excClassObj nm q C N bs [.ref D, .type "ValueError", .type "Exception", .type "BaseException", .type "object"] true sn sub ab col dd k0 k1 k2 k3 k5 "ValueError.__new__"))
    (sa : PySem.W.findIn K (.ref C) "__setattr__" = some (some (.builtin "object.__setattr__"))) (exC : PySem.W.subIn K (.ref C) (.type "BaseException") = some true) (tyC : PySem.W.typeIn K (.ref C) = some (.type "type")) (kC : PySem.W.keepIn K (.ref C) = true)
    (no : PySem.W.findIn K (.ref C) "at" = some none) (sv : PySem.W.subIn K (.ref C) (.type "ValueError") = some true) (mro : PySem.W.mroIn K C (.ref D) = some true) (ini : PySem.W.findIn K (.ref C) "__init__" = some (some (.ref fI)))
    (ga : PySem.W.findIn K (.ref C) "__getattribute__" = some (some (.builtin "BaseException.__getattribute__"))) (gg : PySem.W.findIn K (.ref C) "__getattr__" = some none) (hd : PySem.W.hasDictIn K C = true) (ne : (C == D) = false) : ClsK K D fI C where
  err := {
    T := ⟨⟨_, _, _, _, _, _, _, _, _, _, _, _, _, _, _, xL, rfl⟩, sa, exC, tyC, kC⟩
    no := no
    sub := sv
    mro := mro
    sup := by
      have hcl : PySem.W.clsIn K C = some { name := nm, bases := bs, mro := [.ref C, .ref D, .type "ValueError", .type "Exception", .type "BaseException", .type "object"], ns := N, qualname := q, hasDict := true, slotNames := sn, subclasses := sub, abstract := ab, collection := col, hasDel := false } := by unfold PySem.W.clsIn; rw [xL] <;> rfl
      have hne : (Value.ref C != Value.ref D) = true := by
        have : ¬ C = D := by simpa using ne
        simp [this]
      unfold PySem.W.ks_superIn
      rw [hcl]
      show PySem.W.alongIn K "__init__" (List.drop 1 (List.dropWhile (fun x => x != Value.ref D) [.ref C, .ref D, .type "ValueError", .type "Exception", .type "BaseException", .type "object"])) = _
      rw [List.dropWhile_cons, if_pos hne, List.dropWhile_cons, if_neg (by simp)]
      exact along_ve K
    ini := ini }
  xf := ⟨ga, gg, exC, hd⟩
  hd := hd
  ty := tyC
theorem ClsK.exm {K : PySem.W.Frag} {D fI C : Addr} {cls : Value} {b : Bool} (c : ClsK K D fI C) (h : PySem.W.subIn K cls (.ref C) = some b) : PySem.W.exmOne K cls (.ref C) = some b := PySem.W.exm_ref c.xf.exC c.hd c.ty h
/-- a row of the table -/
theorem row_mk {K : PySem.W.Frag} {h : Heap} {mg : Str → Option Value} {T : Tab} {bl : List Str} {f : Fn} {st : Stmt} {a : Addr} {oc : Value} {od an : Option Addr} {osl : Array (Option Value)} {kV doc pm cdv ct : Value} (X : K.In h) (G : h.Ns mainGlobals mg)
    (n : PySem.W.nsIn K mainGlobals f.name = some (some (.ref a)))
    (l : K.lookup a = some ⟨oc, od, .func (PySem.W.fnOf f.name f.name (defArgs st) (defBody st) (defScope st) .none kV doc pm an cdv ct), osl⟩) (c : PySem.W.codeIn K cdv f.name = true) (k : PySem.W.keepIn K (.ref a) = true)
    (sc : C8.scC f.N (f.N.take f.np) (defScope st) = true) (np : (f.N.take f.np).length = f.np)
    (bi : ∀ (kV doc pm : Value) (an : Option Addr) (cdv ct : Value) (us : List Value), us.length = (f.N.take f.np).length → bindArgs (PySem.W.fnOf f.name f.name (defArgs st) (defBody st) (defScope st) .none kV doc pm an cdv ct) ⟨us, []⟩ = pure ((f.N.take f.np).zip us))
    (ok : okBody T bl f.N (defScope st) f.fresh f.body (defBody st) = true) : RowOk K mg T bl ⟨f, st, a, PySem.W.fnOf f.name f.name (defArgs st) (defBody st) (defScope st) .none kV doc pm an cdv ct⟩ where
  fn := fun_mk l c k
  gl := PySem.W.mg_of X G n
  sc := C8.fnScope_by sc
  bd := .all (bi kV doc pm an cdv ct)
  np := np
  ok := ok
/-- the written part of the module -/
theorem prOk_mk {P : Program} {w : World} {K : PySem.W.Frag} {h : Heap} {mg : Str → Option Value} {T : Tab} {bl : List Str} {rs : List Row} {cs : List Addr} {D fI c0 : Addr} {sti : Stmt} {fdi : FuncData} {d0 : FuncData} (X : K.In h) (G : h.Ns mainGlobals mg)
    (fns : T.fns = rs.map (·.f)) (row : ∀ r ∈ rs, RowOk K mg T bl r) (blt : ∀ x ∈ bl, x ≠ ("gcd" : Str) → PySem.W.nsIn K mainGlobals x = some none) (gcd : ("gcd" : Str) ∈ bl → PySem.W.nsIn K mainGlobals "gcd" = some (some (.builtin "math.gcd")))
    (gl : ∀ p ∈ T.gls, ∃ t, PySem.W.nsIn K mainGlobals p.1 = some (some (.int p.2 t))) (h0 : cs.head? = some c0) (cls : ∀ c ∈ cs, ClsK K D fI c) (cn : ∀ (k : Nat) (p : Str × List Nat), T.cls[k]? = some p → ∃ c, cs[k]? = some c ∧ PySem.W.nsIn K mainGlobals p.1 = some (some (.ref c)) ∧ (p.1 == ("__debug__" : Str)) = false)
    (sb : ∀ (c k : Nat), k < T.cls.length → ∃ b, cs[k]? = some b ∧ PySem.W.subIn K (.ref (cs.getD c c0)) (.ref b) = some (T.sub c k)) (ini : IniD P K mg D fI sti fdi) :
    PrOk P w K mg ⟨T, fun c => cs.getD c c0, fun j => (rs.map (·.a)).getD j 0, fun j => (rs.map (·.d)).getD j d0⟩ bl rs where
  fns := fns
  fa := fun j r hr => by
    refine ⟨?_, ?_⟩
    · show (rs.map (·.a)).getD j 0 = r.a
      rw [List.getD_eq_getElem?_getD, List.getElem?_map, hr]
      rfl
    · show (rs.map (·.d)).getD j d0 = r.d
      rw [List.getD_eq_getElem?_getD, List.getElem?_map, hr]
      rfl
  row := row
  blt := fun x hx hn => PySem.W.mg_none_of X G (blt x hx hn)
  gcd := fun hx => PySem.W.mg_of X G (gcd hx)
  gl := fun j p hp => by
    obtain ⟨t, e⟩ := gl p (List.mem_of_getElem? hp)
    exact ⟨t, PySem.W.mg_of X G e⟩
  xf := fun c => by
    have hm : cs.getD c c0 ∈ cs := by
      rw [List.getD_eq_getElem?_getD]
      cases e : cs[c]? with
      | none => exact List.mem_of_head? h0
      | some a => exact List.mem_of_getElem? e
    exact ⟨(cls _ hm).xf, (cls _ hm).err.no⟩
  cn := fun k p hp => by
    obtain ⟨c, e1, e2, _⟩ := cn k p hp
    have e : cs.getD k c0 = c := by rw [List.getD_eq_getElem?_getD, e1]; rfl
    show mg p.1 = some (.ref (cs.getD k c0))
    rw [e]
    exact PySem.W.mg_of X G e2
  sb := fun c k hk => by
    obtain ⟨b, e1, e2⟩ := sb c k hk
    have e : cs.getD k c0 = b := by rw [List.getD_eq_getElem?_getD, e1]; rfl
    show PySem.W.exmOne K (.ref (cs.getD c c0)) (.ref (cs.getD k c0)) = _
    rw [e]
    exact (cls b (List.mem_of_getElem? e1)).exm e2
  mkx := fun n hn base hb hm k p hp W' Y C e1 e2 e3 e4 e5 l te p1 pos hg hs he => by
    obtain ⟨c, q1, q2, q3⟩ := cn k p hp
    have e : cs.getD k c0 = c := by rw [List.getD_eq_getElem?_getD, q1]; rfl
    show PMk Y _ fun σ H Q => te σ H fun v H1 => ∃ i, v = .int i ∧ ∀ dx, H1 dx = none → Q (.ref (cs.getD k c0)) (some dx) (upd H1 dx (exF i))
    rw [e]
    exact err_mk (st := sti) (fd := fdi) hn C (by rw [e1, e2, e4]; exact ini) (by rw [e1]; exact (cls c (List.mem_of_getElem? q1)).err) hg (by rw [e4]; exact PySem.W.mg_of X G q2) q3 hs he
end Z

/-! Zm: plain laws of the evaluator. -/
namespace Z
open PySem

theorem call_fn {T : Tab} {n j : Nat} {f : Fn} {ds : List D} (hn : 3 ≤ n) (hf : T.fns[j]? = some f) : callF T (n + 1) j ds = runFn T (callF T n) f ds := by
  show (if n < 3 then Rs.bad else match T.fns[j]? with
    | some f => runFn T (callF T n) f ds
    | none => .bad) = _
  rw [if_neg (by omega), hf]
/-- the end of a def -/
def fin (fr : Bool) : Rs Out → Rs D
  | .ok (.nx _) => if fr then .bad else .ok .none
  | .ok (.rt d) => .ok d
  | .er c n => .er c n
  | .bad => .bad
@[simp] theorem fin_nx (ρ : En) : fin false (.ok (.nx ρ)) = .ok .none := Eq.trans rfl rfl
@[simp] theorem fin_rt (b : Bool) (d : D) : fin b (.ok (.rt d)) = .ok d := Eq.trans rfl rfl
@[simp] theorem fin_er (b : Bool) (c : Nat) (n : Int) : fin b (.er c n) = .er c n := Eq.trans rfl rfl
theorem run_fn {T : Tab} {cf : Nat → List D → Rs D} {f : Fn} {ds : List D} {ρ : En} (h : ds.length = f.np) (hρ : ds.map .fz ++ List.replicate (f.N.length - ds.length) .un = ρ) : runFn T cf f ds = fin f.fresh (evSs cf (T.gls.map (·.2)) T.sub f.body ρ) := by
  unfold runFn
  rw [if_pos h, hρ]
  cases evSs cf (T.gls.map (·.2)) T.sub f.body ρ with
  | bad => rfl
  | er c n => rfl
  | ok o => cases o <;> rfl
section
variable {cf : Nat → List D → Rs D} {gs : List Int} {sub : Nat → Nat → Bool} {ρ : En}
/-- a turn of a for -/
def stp (cf : Nat → List D → Rs D) (gs : List Int) (sub : Nat → Nat → Bool) (tg : Tg) (b : List S) (d : D) (ρ : En) : Rs Out := (bindT tg d ρ).bind (evSs cf gs sub b)
def brn (cf : Nat → List D → Rs D) (gs : List Int) (sub : Nat → Nat → Bool) (a b : List S) (ρ : En) : Bool → Rs Out
  | true => evSs cf gs sub a ρ
  | false => evSs cf gs sub b ρ
@[simp] theorem brn_t (a b : List S) : brn cf gs sub a b ρ true = evSs cf gs sub a ρ := Eq.trans rfl rfl
@[simp] theorem brn_f (a b : List S) : brn cf gs sub a b ρ false = evSs cf gs sub b ρ := Eq.trans rfl rfl
def cnd (cf : Nat → List D → Rs D) (gs : List Int) (c : E) (ρ : En) : Rs Bool := (evE cf gs c ρ).bind tr
def lcs (cf : Nat → List D → Rs D) (gs : List Int) (tg : Tg) (own : List Nat) (cs : List E) (e : E) (ρ : En) (d : D) : Rs (Option D) :=
  (bindT tg d (ρ.wipe own)).bind fun ρ1 => (evTs cf gs cs ρ1).bind fun t => if t then (evE cf gs e ρ1).bind fun y => .ok (some y) else .ok none
@[simp] theorem x_nil : evSs cf gs sub [] ρ = .ok (.nx ρ) := Eq.trans rfl rfl
@[simp] theorem x_cons (s : S) (ss : List S) : evSs cf gs sub (s :: ss) ρ = seqO (evS cf gs sub s ρ) (evSs cf gs sub ss) := Eq.trans rfl rfl
@[simp] theorem x_expr (e : E) : evS cf gs sub (.expr e) ρ = (evE cf gs e ρ).bind fun _ => .ok (.nx ρ) := Eq.trans rfl rfl
@[simp] theorem x_set (i : Nat) (e : E) : evS cf gs sub (.set i e) ρ = (evE cf gs e ρ).bind fun x => .ok (.nx (ρ.set i (.fz x))) := Eq.trans rfl rfl
@[simp] theorem x_new (i : Nat) (e : E) : evS cf gs sub (.new i e) ρ = (evE cf gs e ρ).bind fun x => .ok (.nx (ρ.set i (.ow x))) := Eq.trans rfl rfl
@[simp] theorem x_unp (tg : Tg) (e : E) : evS cf gs sub (.unp tg e) ρ = (evE cf gs e ρ).bind fun x => (bindT tg x ρ).bind fun ρ' => .ok (.nx ρ') := Eq.trans rfl rfl
@[simp] theorem x_app (i : Nat) (e : E) : evS cf gs sub (.app i e) ρ = onOw ρ i fun xs => (evE cf gs e ρ).bind fun x => if xs.length < LIM then .ok (xs ++ [x]) else .bad := Eq.trans rfl rfl
@[simp] theorem x_ret (e : E) : evS cf gs sub (.ret e) ρ = (evE cf gs e ρ).bind fun x => .ok (.rt x) := Eq.trans rfl rfl
@[simp] theorem x_rto (i : Nat) : evS cf gs sub (.rto i) ρ = match ρ.at i with
  | .ow d => .ok (.rt d)
  | _ => .bad := Eq.trans rfl rfl
@[simp] theorem x_ife (c : E) (a b : List S) : evS cf gs sub (.ife c a b) ρ = (evE cf gs c ρ).bind fun x => (tr x).bind (brn cf gs sub a b ρ) := by
  show ((evE cf gs c ρ).bind fun x => (tr x).bind fun t => if t then evSs cf gs sub a ρ else evSs cf gs sub b ρ) = _
  congr 1
  funext x
  congr 1
  funext t
  cases t <;> rfl
@[simp] theorem x_whl (n : Nat) (c : E) (b : List S) : evS cf gs sub (.whl n c b) ρ = whlGo (cnd cf gs c) (evSs cf gs sub b) n ρ := Eq.trans rfl rfl
@[simp] theorem x_fr (tg : Tg) (it : E) (b : List S) : evS cf gs sub (.fr tg it b) ρ = (evE cf gs it ρ).bind fun x => (items x).bind fun ds => forGo (stp cf gs sub tg b) ds ρ := Eq.trans rfl rfl
@[simp] theorem x_rse (c : Nat) (e : E) : evS cf gs sub (.rse c e) ρ = (evE cf gs e ρ).bind fun x => match x with
  | .int n => .er c n
  | _ => .bad := Eq.trans rfl rfl
@[simp] theorem x_try (b : List S) (hs : List (Nat × Nat × Str)) : evS cf gs sub (.try_ b hs) ρ = match evSs cf gs sub b ρ with
  | .er c n => evH sub c n hs
  | r => r := Eq.trans rfl rfl
@[simp] theorem onOw_ow {i : Nat} {f : List D → Rs (List D)} {xs : List D} (h : ρ.at i = .ow (.list xs)) : onOw ρ i f = (f xs).bind fun ys => .ok (.nx (ρ.set i (.ow (.list ys)))) := by
  unfold onOw
  rw [h]
/-! expressions -/
@[simp] theorem y_var (i : Nat) : evE cf gs (.var i) ρ = match ρ.at i with
  | .fz d => .ok d
  | _ => .bad := Eq.trans rfl rfl
@[simp] theorem y_bv (i : Nat) : evE cf gs (.bv i) ρ = match ρ.at i with
  | .fz d => .ok d
  | .ow d => .ok d
  | _ => .bad := Eq.trans rfl rfl
@[simp] theorem y_c (d : D) : evE cf gs (.c d) ρ = .ok d := Eq.trans rfl rfl
@[simp] theorem y_gl (i : Nat) : evE cf gs (.gl i) ρ = match gs[i]? with
  | some n => .ok (.int n)
  | none => .bad := Eq.trans rfl rfl
@[simp] theorem y_bin (op : Bop) (a b : E) : evE cf gs (.bin op a b) ρ = (evE cf gs a ρ).bind fun x => (evE cf gs b ρ).bind fun y => evBin op x y := Eq.trans rfl rfl
@[simp] theorem y_cat (a b : E) : evE cf gs (.cat a b) ρ = (evE cf gs a ρ).bind fun x => (evE cf gs b ρ).bind fun y => evCat x y := Eq.trans rfl rfl
@[simp] theorem y_rep (a b : E) : evE cf gs (.rep a b) ρ = (evE cf gs a ρ).bind fun x => (evE cf gs b ρ).bind fun y => evRep x y := Eq.trans rfl rfl
@[simp] theorem y_neg (a : E) : evE cf gs (.neg a) ρ = (evE cf gs a ρ).bind evNeg := Eq.trans rfl rfl
@[simp] theorem y_not (a : E) : evE cf gs (.not a) ρ = (evE cf gs a ρ).bind fun x => (tr x).bind fun t => .ok (.bool (!t)) := Eq.trans rfl rfl
@[simp] theorem y_ands (es : List E) : evE cf gs (.ands es) ρ = evA cf gs es ρ := Eq.trans rfl rfl
@[simp] theorem y_ors (es : List E) : evE cf gs (.ors es) ρ = evR cf gs es ρ := Eq.trans rfl rfl
@[simp] theorem y_cmp (op : Cop) (a b : E) : evE cf gs (.cmp op a b) ρ = (evE cf gs a ρ).bind fun x => (evE cf gs b ρ).bind fun y => evCmp op x y := Eq.trans rfl rfl
/-- the second half of a chain -/
def ch2 (cf : Nat → List D → Rs D) (gs : List Int) (o2 : Cop) (c : E) (ρ : En) (y : D) : D → Rs D
  | .bool true => (evE cf gs c ρ).bind fun z => evCmp o2 y z
  | .bool false => .ok (.bool false)
  | _ => .bad
@[simp] theorem ch2_t (o2 : Cop) (c : E) (y : D) : ch2 cf gs o2 c ρ y (.bool true) = (evE cf gs c ρ).bind fun z => evCmp o2 y z := Eq.trans rfl rfl
@[simp] theorem ch2_f (o2 : Cop) (c : E) (y : D) : ch2 cf gs o2 c ρ y (.bool false) = .ok (.bool false) := Eq.trans rfl rfl
@[simp] theorem y_chain (o1 o2 : Cop) (a b c : E) : evE cf gs (.chain o1 o2 a b c) ρ = (evE cf gs a ρ).bind fun x => (evE cf gs b ρ).bind fun y => (evCmp o1 x y).bind (ch2 cf gs o2 c ρ y) := by
  show ((evE cf gs a ρ).bind fun x => (evE cf gs b ρ).bind fun y => (evCmp o1 x y).bind fun r => match r with
      | .bool true => (evE cf gs c ρ).bind fun z => evCmp o2 y z
      | .bool false => .ok (.bool false)
      | _ => .bad) = _
  rfl
def brE (cf : Nat → List D → Rs D) (gs : List Int) (a b : E) (ρ : En) : Bool → Rs D
  | true => evE cf gs a ρ
  | false => evE cf gs b ρ
@[simp] theorem brE_t (a b : E) : brE cf gs a b ρ true = evE cf gs a ρ := Eq.trans rfl rfl
@[simp] theorem brE_f (a b : E) : brE cf gs a b ρ false = evE cf gs b ρ := Eq.trans rfl rfl
@[simp] theorem y_ite (c a b : E) : evE cf gs (.ite c a b) ρ = (evE cf gs c ρ).bind fun x => (tr x).bind (brE cf gs a b ρ) := by
  show ((evE cf gs c ρ).bind fun x => (tr x).bind fun t => if t then evE cf gs a ρ else evE cf gs b ρ) = _
  congr 1
  funext x
  congr 1
  funext t
  cases t <;> rfl
@[simp] theorem y_lst (es : List E) : evE cf gs (.lst es) ρ = (evEs cf gs es ρ).bind fun ds => if ds.length ≤ LIM then .ok (.list ds) else .bad := Eq.trans rfl rfl
@[simp] theorem y_tup (es : List E) : evE cf gs (.tup es) ρ = (evEs cf gs es ρ).bind fun ds => if ds.length ≤ LIM then .ok (.tuple ds) else .bad := Eq.trans rfl rfl
@[simp] theorem y_ix (a i : E) : evE cf gs (.ix a i) ρ = (evE cf gs a ρ).bind fun x => (evE cf gs i ρ).bind fun y => evIx x y := Eq.trans rfl rfl
@[simp] theorem y_sl (a : E) (lo hi : Option E) : evE cf gs (.sl a lo hi) ρ = (evE cf gs a ρ).bind fun x => (evO cf gs lo ρ).bind fun l => (evO cf gs hi ρ).bind fun h => evSl x l h := Eq.trans rfl rfl
@[simp] theorem y_call (f : Nat) (es : List E) : evE cf gs (.call f es) ρ = (evEs cf gs es ρ).bind (cf f) := Eq.trans rfl rfl
@[simp] theorem y_sel (fs : List Nat) (i : E) (es : List E) : evE cf gs (.sel fs i es) ρ = (evE cf gs i ρ).bind fun x => match x with
    | .int n => (match (place fs.length n).bind fun j => fs[j]? with
      | some f => (evEs cf gs es ρ).bind fun ds => cf f ds
      | none => .bad)
    | _ => .bad := Eq.trans rfl rfl
@[simp] theorem y_bi (f : Bi) (es : List E) : evE cf gs (.bi f es) ρ = (evEs cf gs es ρ).bind (evBi f) := Eq.trans rfl rfl
@[simp] theorem y_lr1 (a : E) : evE cf gs (.lr1 a) ρ = (evE cf gs a ρ).bind fun x => match x with
    | .int n => evRng 0 n
    | _ => .bad := Eq.trans rfl rfl
@[simp] theorem y_lr2 (a b : E) : evE cf gs (.lr2 a b) ρ = (evE cf gs a ρ).bind fun x => (evE cf gs b ρ).bind fun y => match x, y with
    | .int m, .int n => evRng m n
    | _, _ => .bad := Eq.trans rfl rfl
@[simp] theorem y_rng1 (a : E) : evE cf gs (.rng1 a) ρ = (evE cf gs a ρ).bind fun x => match x with
    | .int n => evRng 0 n
    | _ => .bad := Eq.trans rfl rfl
@[simp] theorem y_rng2 (a b : E) : evE cf gs (.rng2 a b) ρ = (evE cf gs a ρ).bind fun x => (evE cf gs b ρ).bind fun y => match x, y with
    | .int m, .int n => evRng m n
    | _, _ => .bad := Eq.trans rfl rfl
@[simp] theorem y_enum (a : E) : evE cf gs (.enum a) ρ = (evE cf gs a ρ).bind fun x => match x with
    | .list xs => .ok (.list (enumL 0 xs))
    | _ => .bad := Eq.trans rfl rfl
@[simp] theorem y_zip (a b : E) : evE cf gs (.zip a b) ρ = (evE cf gs a ρ).bind fun x => (evE cf gs b ρ).bind fun y => match x, y with
    | .list xs, .list ys => .ok (.list (zipL xs ys))
    | _, _ => .bad := Eq.trans rfl rfl
@[simp] theorem y_lc (tg : Tg) (own : List Nat) (it : E) (cs : List E) (e : E) : evE cf gs (.lc tg own it cs e) ρ = (evE cf gs it ρ).bind fun x => (items x).bind fun ds => (lcGo (lcs cf gs tg own cs e ρ) ds).bind fun r => .ok (.list r) := Eq.trans rfl rfl
@[simp] theorem z_nil : evEs cf gs [] ρ = .ok [] := Eq.trans rfl rfl
@[simp] theorem z_cons (e : E) (es : List E) : evEs cf gs (e :: es) ρ = (evE cf gs e ρ).bind fun x => (evEs cf gs es ρ).bind fun r => .ok (x :: r) := Eq.trans rfl rfl
@[simp] theorem a_one (e : E) : evA cf gs [e] ρ = evE cf gs e ρ := by
  show (evE cf gs e ρ).bind (fun x => if ([] : List E).isEmpty then .ok x else _) = _
  cases evE cf gs e ρ <;> rfl
def andK (cf : Nat → List D → Rs D) (gs : List Int) (es : List E) (ρ : En) (x : D) : Bool → Rs D
  | true => evA cf gs es ρ
  | false => .ok x
@[simp] theorem andK_t (es : List E) (x : D) : andK cf gs es ρ x true = evA cf gs es ρ := Eq.trans rfl rfl
@[simp] theorem andK_f (es : List E) (x : D) : andK cf gs es ρ x false = .ok x := Eq.trans rfl rfl
@[simp] theorem a_cons (e e2 : E) (es : List E) : evA cf gs (e :: e2 :: es) ρ = (evE cf gs e ρ).bind fun x => (tr x).bind (andK cf gs (e2 :: es) ρ x) := by
  show ((evE cf gs e ρ).bind fun x => if (e2 :: es).isEmpty then .ok x else (tr x).bind fun t => if t then evA cf gs (e2 :: es) ρ else .ok x) = _
  congr 1
  funext x
  show ((tr x).bind fun t => if t then evA cf gs (e2 :: es) ρ else .ok x) = _
  congr 1
  funext t
  cases t <;> rfl
@[simp] theorem r_one (e : E) : evR cf gs [e] ρ = evE cf gs e ρ := by
  show (evE cf gs e ρ).bind (fun x => if ([] : List E).isEmpty then .ok x else _) = _
  cases evE cf gs e ρ <;> rfl
def orK (cf : Nat → List D → Rs D) (gs : List Int) (es : List E) (ρ : En) (x : D) : Bool → Rs D
  | true => .ok x
  | false => evR cf gs es ρ
@[simp] theorem orK_t (es : List E) (x : D) : orK cf gs es ρ x true = .ok x := Eq.trans rfl rfl
@[simp] theorem orK_f (es : List E) (x : D) : orK cf gs es ρ x false = evR cf gs es ρ := Eq.trans rfl rfl
@[simp] theorem r_cons (e e2 : E) (es : List E) : evR cf gs (e :: e2 :: es) ρ = (evE cf gs e ρ).bind fun x => (tr x).bind (orK cf gs (e2 :: es) ρ x) := by
  show ((evE cf gs e ρ).bind fun x => if (e2 :: es).isEmpty then .ok x else (tr x).bind fun t => if t then .ok x else evR cf gs (e2 :: es) ρ) = _
  congr 1
  funext x
  show ((tr x).bind fun t => if t then .ok x else evR cf gs (e2 :: es) ρ) = _
  congr 1
  funext t
  cases t <;> rfl
@[simp] theorem t_nil : evTs cf gs [] ρ = .ok true := Eq.trans rfl rfl
def tsK (cf : Nat → List D → Rs D) (gs : List Int) (es : List E) (ρ : En) : Bool → Rs Bool
  | true => evTs cf gs es ρ
  | false => .ok false
@[simp] theorem tsK_t (es : List E) : tsK cf gs es ρ true = evTs cf gs es ρ := Eq.trans rfl rfl
@[simp] theorem tsK_f (es : List E) : tsK cf gs es ρ false = .ok false := Eq.trans rfl rfl
@[simp] theorem t_cons (e : E) (es : List E) : evTs cf gs (e :: es) ρ = (evE cf gs e ρ).bind fun x => (tr x).bind (tsK cf gs es ρ) := by
  show ((evE cf gs e ρ).bind fun x => (tr x).bind fun t => if t then evTs cf gs es ρ else .ok false) = _
  congr 1
  funext x
  congr 1
  funext t
  cases t <;> rfl
@[simp] theorem o_none : evO cf gs none ρ = .ok none := Eq.trans rfl rfl
@[simp] theorem o_some (e : E) : evO cf gs (some e) ρ = (evE cf gs e ρ).bind fun x => match x with
    | .int i => .ok (some i)
    | _ => .bad := Eq.trans rfl rfl
end
/-! values -/
@[simp] theorem at_z (s : Sl) (l : En) : En.at (s :: l) 0 = s := Eq.trans rfl rfl
@[simp] theorem at_s (s : Sl) (l : En) (n : Nat) : En.at (s :: l) (n + 1) = En.at l n := Eq.trans rfl rfl
@[simp] theorem b_add (a b : Int) : evBin .add (.int a) (.int b) = .ok (.int (a + b)) := Eq.trans rfl rfl
@[simp] theorem b_sub (a b : Int) : evBin .sub (.int a) (.int b) = .ok (.int (a - b)) := Eq.trans rfl rfl
theorem b_mul {a b : Int} (h : mulOk a b = true) : evBin .mul (.int a) (.int b) = .ok (.int (a * b)) := if_pos h
theorem b_fdiv {a b : Int} (h : divOk b = true) : evBin .fdiv (.int a) (.int b) = .ok (.int (a.fdiv b)) := if_pos h
theorem b_mod {a b : Int} (h : b ≠ 0) : evBin .mod (.int a) (.int b) = .ok (.int (a.fmod b)) := if_neg h
@[simp] theorem n_int (a : Int) : evNeg (.int a) = .ok (.int (-a)) := Eq.trans rfl rfl
@[simp] theorem tr_b (b : Bool) : tr (.bool b) = .ok b := Eq.trans rfl rfl
@[simp] theorem tr_i (i : Int) : tr (.int i) = .ok (i != 0) := Eq.trans rfl rfl
@[simp] theorem tr_l (xs : List D) : tr (.list xs) = .ok (!xs.isEmpty) := Eq.trans rfl rfl
@[simp] theorem tr_t (xs : List D) : tr (.tuple xs) = .ok (!xs.isEmpty) := Eq.trans rfl rfl
@[simp] theorem tr_n : tr .none = .ok false := Eq.trans rfl rfl
@[simp] theorem c_lt (a b : Int) : evCmp .lt (.int a) (.int b) = .ok (.bool (decide (a < b))) := Eq.trans rfl rfl
@[simp] theorem c_le (a b : Int) : evCmp .le (.int a) (.int b) = .ok (.bool (decide (a ≤ b))) := Eq.trans rfl rfl
@[simp] theorem c_gt (a b : Int) : evCmp .gt (.int a) (.int b) = .ok (.bool (decide (b < a))) := Eq.trans rfl rfl
@[simp] theorem c_ge (a b : Int) : evCmp .ge (.int a) (.int b) = .ok (.bool (decide (b ≤ a))) := Eq.trans rfl rfl
@[simp] theorem it_l (xs : List D) : items (.list xs) = .ok xs := Eq.trans rfl rfl
@[simp] theorem it_t (xs : List D) : items (.tuple xs) = .ok xs := Eq.trans rfl rfl
@[simp] theorem len_l (xs : List D) : evBi .len [.list xs] = .ok (.int xs.length) := Eq.trans rfl rfl
@[simp] theorem len_t (xs : List D) : evBi .len [.tuple xs] = .ok (.int xs.length) := Eq.trans rfl rfl
@[simp] theorem len_s (xs : List D) : evBi .len [scD xs] = .ok (.int xs.length) := Eq.trans rfl rfl
@[simp] theorem int_i (a : Int) : evBi .int [.int a] = .ok (.int a) := Eq.trans rfl rfl
@[simp] theorem int_b (b : Bool) : evBi .int [.bool b] = .ok (.int (if b then 1 else 0)) := Eq.trans rfl rfl
@[simp] theorem bt_nm (i : Nat) (d : D) (ρ : En) : bindT (.nm i) d ρ = .ok (ρ.set i (.fz d)) := Eq.trans rfl rfl
@[simp] theorem bt_tup (ts : List Tg) (ds : List D) (ρ : En) : bindT (.tup ts) (.tuple ds) ρ = bindTs ts ds ρ := Eq.trans rfl rfl
@[simp] theorem bts_nil (ρ : En) : bindTs [] [] ρ = .ok ρ := Eq.trans rfl rfl
@[simp] theorem bts_cons (t : Tg) (ts : List Tg) (d : D) (ds : List D) (ρ : En) : bindTs (t :: ts) (d :: ds) ρ = (bindT t d ρ).bind (bindTs ts ds) := Eq.trans rfl rfl
/-- == of numbers -/
theorem eqv_int (a b : Int) : PyData.eqv (.int a) (.int b) = decide (a = b) := by
  show (a == b) = _
  rfl
theorem eo_int (i : Int) : eqOk (.int i) = true := rfl
theorem lay_ints : ∀ xs : List Int, PyData.canLayAll0 (xs.map .int) = true
  | [] => rfl
  | x :: xs => by
    show (true && PyData.canLayAll0 (xs.map .int)) = true
    rw [lay_ints xs]
    rfl
theorem dep_ints : ∀ xs : List Int, PyData.depthAll (xs.map .int) = 0
  | [] => rfl
  | x :: xs => by
    show max 0 (PyData.depthAll (xs.map .int)) = 0
    rw [dep_ints xs]
    rfl
theorem eo_ints (xs : List Int) : eqOk (.list (xs.map .int)) = true := by
  show (PyData.canLayAll0 (xs.map .int) && decide (PyData.depthAll (xs.map .int) + 1 ≤ 64)) = true
  rw [lay_ints, dep_ints]
  rfl
@[simp] theorem c_eq (a b : Int) : evCmp .eq (.int a) (.int b) = .ok (.bool (decide (a = b))) := by
  show (if eqOk (.int a) && eqOk (.int b) then Rs.ok (PyData.bool (PyData.eqv (.int a) (.int b))) else .bad) = _
  rw [eqv_int]
  rfl
@[simp] theorem c_ne (a b : Int) : evCmp .ne (.int a) (.int b) = .ok (.bool (!decide (a = b))) := by
  show (if eqOk (.int a) && eqOk (.int b) then Rs.ok (PyData.bool (!PyData.eqv (.int a) (.int b))) else .bad) = _
  rw [eqv_int]
  rfl
theorem eqvAll_ints : ∀ xs ys : List Int, PyData.eqvAll (xs.map .int) (ys.map .int) = decide (xs = ys)
  | [], [] => rfl
  | x :: xs, [] => by simp [PyData.eqvAll]
  | [], y :: ys => by simp [PyData.eqvAll]
  | x :: xs, y :: ys => by
    show (PyData.eqv (.int x) (.int y) && PyData.eqvAll (xs.map .int) (ys.map .int)) = _
    rw [eqv_int, eqvAll_ints xs ys]
    by_cases h1 : x = y <;> by_cases h2 : xs = ys <;> simp [h1, h2]
theorem eqv_ints (xs ys : List Int) : PyData.eqv (.list (xs.map .int)) (.list (ys.map .int)) = decide (xs = ys) := eqvAll_ints xs ys
theorem c_eqL (xs ys : List Int) : evCmp .eq (.list (xs.map .int)) (.list (ys.map .int)) = .ok (.bool (decide (xs = ys))) := by
  show (if eqOk (.list (xs.map .int)) && eqOk (.list (ys.map .int)) then Rs.ok (PyData.bool (PyData.eqv (.list (xs.map .int)) (.list (ys.map .int)))) else .bad) = _
  rw [eqv_ints, eo_ints, eo_ints]
  rfl
theorem c_neL (xs ys : List Int) : evCmp .ne (.list (xs.map .int)) (.list (ys.map .int)) = .ok (.bool (!decide (xs = ys))) := by
  show (if eqOk (.list (xs.map .int)) && eqOk (.list (ys.map .int)) then Rs.ok (PyData.bool (!PyData.eqv (.list (xs.map .int)) (.list (ys.map .int)))) else .bad) = _
  rw [eqv_ints, eo_ints, eo_ints]
  rfl
theorem any_ints (a : Int) : ∀ xs : List Int, ((xs.map PyData.int).any fun y => PyData.eqv y (.int a)) = decide (a ∈ xs)
  | [] => by simp
  | x :: xs => by
    rw [List.map_cons, List.any_cons, any_ints a xs, eqv_int]
    by_cases h : x = a
    · simp [h]
    · have : ¬ a = x := fun z => h z.symm
      simp [h, this]
theorem c_mem (a : Int) (xs : List Int) : evCmp .mem (.int a) (.list (xs.map .int)) = .ok (.bool (decide (a ∈ xs))) := by
  show (if eqOk (.int a) && eqOk (.list (xs.map .int)) then Rs.ok (PyData.bool ((xs.map PyData.int).any fun y => PyData.eqv y (.int a))) else .bad) = _
  rw [any_ints, eo_ints]
  rfl
/-- an index in its bounds -/
theorem ix_l {xs : List D} {i : Nat} {d : D} (h : xs[i]? = some d) : evIx (.list xs) (.int i) = .ok d := by
  have hi := (List.getElem?_eq_some_iff.mp h).1
  have e : place xs.length (i : Int) = some i := by
    unfold place
    rw [if_pos (by omega), if_pos (by omega)]
    simp
  show (match (place xs.length (i : Int)).bind fun j => xs[j]? with
    | some d => Rs.ok d
    | none => Rs.bad) = _
  rw [e]
  show (match xs[i]? with
    | some d => Rs.ok d
    | none => .bad) = _
  rw [h]
theorem ix_i {xs : List Int} {i : Int} (h0 : 0 ≤ i) (h1 : i < xs.length) : evIx (.list (xs.map .int)) (.int i) = .ok (.int (xs.getD i.toNat 0)) := by
  have e : ((i.toNat : Nat) : Int) = i := by omega
  have hl : i.toNat < xs.length := by omega
  have z := ix_l (xs := xs.map .int) (i := i.toNat) (d := .int (xs.getD i.toNat 0)) (by
    rw [List.getElem?_map, List.getD_eq_getElem?_getD, List.getElem?_eq_getElem hl]
    rfl)
  rw [e] at z
  exact z
theorem idxOf_ints (a : Int) : ∀ xs : List Int, Z.idxOf (.int a) (xs.map .int) = if a ∈ xs then some (xs.idxOf a) else none
  | [] => rfl
  | x :: xs => by
    show (if PyData.eqv (.int x) (.int a) then some 0 else (Z.idxOf (.int a) (xs.map .int)).map (· + 1)) = _
    rw [eqv_int, idxOf_ints a xs]
    by_cases h : x = a
    · subst h
      simp
    · have h2 : ¬ a = x := fun z => h z.symm
      by_cases hm : a ∈ xs
      · have hb : (x == a) = false := by simpa using h
        simp [h, h2, hm, List.idxOf_cons, hb]
      · simp [h, h2, hm]
theorem index_i {a : Int} {xs : List Int} (h : a ∈ xs) : evBi .index [.list (xs.map .int), .int a] = .ok (.int (xs.idxOf a : Nat)) := by
  show (if eqOk (.int a) && eqOk (.list (xs.map .int)) then (match Z.idxOf (.int a) (xs.map .int) with | some j => Rs.ok (PyData.int (j : Nat)) | none => .bad) else .bad) = _
  rw [eo_int, eo_ints, idxOf_ints, if_pos h]
  rfl
/-! loops -/
theorem forGo_inv {f : D → En → Rs Out} (P : Nat → En → Prop) : ∀ {ds : List D} {ρ : En} (i : Nat), P i ρ → (∀ k d ρ, ds[k]? = some d → P (i + k) ρ → ∃ ρ', f d ρ = .ok (.nx ρ') ∧ P (i + k + 1) ρ') → ∃ ρ', forGo f ds ρ = .ok (.nx ρ') ∧ P (i + ds.length) ρ'
  | [], ρ, i, h, _ => ⟨ρ, rfl, h⟩
  | d :: ds, ρ, i, h, hs => by
    obtain ⟨ρ1, e1, p1⟩ := hs 0 d ρ rfl h
    obtain ⟨ρ2, e2, p2⟩ := forGo_inv P (i + 1) p1 (fun k d' ρ' hk hp => by
      have := hs (k + 1) d' ρ' (by simpa using hk) (by rw [show i + (k + 1) = i + 1 + k by omega]; exact hp)
      rw [show i + 1 + k + 1 = i + (k + 1) + 1 by omega]
      exact this)
    refine ⟨ρ2, ?_, by rw [List.length_cons, show i + (ds.length + 1) = i + 1 + ds.length by omega]; exact p2⟩
    show seqO (f d ρ) (forGo f ds) = _
    rw [e1]
    exact e2
theorem lcGo_map {f : D → Rs (Option D)} {g : D → D} : ∀ {ds : List D}, (∀ d ∈ ds, f d = .ok (some (g d))) → lcGo f ds = .ok (ds.map g)
  | [], _ => rfl
  | d :: ds, h => by
    show (match f d with
      | .ok (some x) => (lcGo f ds).bind fun r => .ok (x :: r)
      | .ok none => lcGo f ds
      | _ => .bad) = _
    rw [h d (.head _), lcGo_map fun d hd => h d (.tail _ hd)]
    rfl
theorem whlGo_t {c : En → Rs Bool} {b : En → Rs Out} {n : Nat} {ρ ρ' : En} (hc : c ρ = .ok true) (hb : b ρ = .ok (.nx ρ')) : whlGo c b (n + 1) ρ = whlGo c b n ρ' := by
  show (c ρ).bind (fun t => if t then seqO (b ρ) (whlGo c b n) else .ok (.nx ρ)) = _
  rw [hc]
  show seqO (b ρ) (whlGo c b n) = _
  rw [hb]
  rfl
theorem whlGo_f {c : En → Rs Bool} {b : En → Rs Out} {n : Nat} {ρ : En} (hc : c ρ = .ok false) : whlGo c b (n + 1) ρ = .ok (.nx ρ) := by
  show (c ρ).bind (fun t => if t then seqO (b ρ) (whlGo c b n) else .ok (.nx ρ)) = _
  rw [hc]
  rfl
/-- it goes on, and Q holds of the slots -/
def Nx (r : Rs Out) (Q : En → Prop) : Prop := ∃ ρ', r = .ok (.nx ρ') ∧ Q ρ'
@[simp] theorem Nx_ok {ρ : En} {Q : En → Prop} : Nx (.ok (.nx ρ)) Q ↔ Q ρ := ⟨fun ⟨_, e, q⟩ => by cases e; exact q, fun q => ⟨_, rfl, q⟩⟩
theorem forGo_nx {f : D → En → Rs Out} (P : Nat → En → Prop) {ds : List D} {ρ : En} (h0 : P 0 ρ) (hs : ∀ i d ρ, ds[i]? = some d → P i ρ → Nx (f d ρ) (P (i + 1))) : Nx (forGo f ds ρ) (P ds.length) := by
  obtain ⟨ρ', e, p⟩ := forGo_inv P 0 h0 (fun k d ρ hk hp => by
    rw [Nat.zero_add] at hp ⊢
    exact hs k d ρ hk hp)
  rw [Nat.zero_add] at p
  exact ⟨ρ', e, p⟩
theorem forGo_then {f : D → En → Rs Out} (P : Nat → En → Prop) {ds : List D} {ρ : En} {R : Rs Out} {k : En → Rs Out} (h0 : P 0 ρ) (hs : ∀ i d ρ, ds[i]? = some d → P i ρ → Nx (f d ρ) (P (i + 1))) (he : ∀ ρ, P ds.length ρ → k ρ = R) : seqO (forGo f ds ρ) k = R := by
  obtain ⟨ρ', e, p⟩ := forGo_nx P h0 hs
  rw [e]
  exact he ρ' p
theorem forGo_fin {f : D → En → Rs Out} (P : Nat → En → Prop) {ds : List D} {ρ : En} {b : Bool} {R : Rs D} {k : En → Rs Out} (h0 : P 0 ρ) (hs : ∀ i d ρ, ds[i]? = some d → P i ρ → Nx (f d ρ) (P (i + 1))) (he : ∀ ρ, P ds.length ρ → fin b (k ρ) = R) : fin b (seqO (forGo f ds ρ) k) = R := by
  obtain ⟨ρ', e, p⟩ := forGo_nx P h0 hs
  rw [e]
  exact he ρ' p
theorem forGo_stop {f : D → En → Rs Out} {r : Rs Out} (hr : ∀ ρ, r ≠ .ok (.nx ρ)) (P : Nat → En → Prop) : ∀ {ds : List D} {ρ : En} (i k : Nat) (d : D), ds[k]? = some d → P i ρ → (∀ j d ρ, j < k → ds[j]? = some d → P (i + j) ρ → Nx (f d ρ) (P (i + j + 1))) → (∀ ρ, P (i + k) ρ → f d ρ = r) → forGo f ds ρ = r
  | [], ρ, i, k, d, hd, _, _, _ => by simp at hd
  | x :: ds, ρ, i, 0, d, hd, h0, hs, he => by
    have e : x = d := by simpa using hd
    subst e
    show seqO (f x ρ) (forGo f ds) = _
    rw [he ρ h0]
    cases r with
    | bad => rfl
    | er c v => rfl
    | ok o =>
      cases o with
      | rt d => rfl
      | nx ρ' => exact absurd rfl (hr ρ')
  | x :: ds, ρ, i, k + 1, d, hd, h0, hs, he => by
    obtain ⟨ρ1, e1, p1⟩ := hs 0 x ρ (by omega) rfl h0
    show seqO (f x ρ) (forGo f ds) = _
    rw [e1]
    exact forGo_stop hr P (i + 1) k d (by simpa using hd) p1 (fun j d' ρ' hj hd' hp => by
      have z := hs (j + 1) d' ρ' (by omega) (by simpa using hd') (by rw [show i + (j + 1) = i + 1 + j by omega]; exact hp)
      rw [show i + 1 + j + 1 = i + (j + 1) + 1 by omega]
      exact z) fun ρ' hp => he ρ' (by rw [show i + (k + 1) = i + 1 + k by omega]; exact hp)
theorem forGo_er {f : D → En → Rs Out} (P : Nat → En → Prop) {ds : List D} {ρ : En} {c : Nat} {v : Int} (k : Nat) (d : D) (hd : ds[k]? = some d) (h0 : P 0 ρ) (hs : ∀ j d ρ, j < k → ds[j]? = some d → P j ρ → Nx (f d ρ) (P (j + 1))) (he : ∀ ρ, P k ρ → f d ρ = .er c v) : forGo f ds ρ = .er c v :=
  forGo_stop (fun ρ z => by cases z) P 0 k d hd h0 (fun j d ρ hj hd hp => by rw [Nat.zero_add] at hp ⊢; exact hs j d ρ hj hd hp) fun ρ hp => he ρ (by rw [Nat.zero_add] at hp; exact hp)
/-! lists of numbers -/
theorem fmod_nat {x m : Int} (h0 : 0 ≤ x) (h1 : 0 < m) : x.fmod m = ((x.toNat % m.toNat : Nat) : Int) := by
  obtain ⟨a, rfl⟩ := Int.eq_ofNat_of_zero_le h0
  obtain ⟨b, rfl⟩ := Int.eq_ofNat_of_zero_le (Int.le_of_lt h1)
  rw [Int.fmod_eq_emod_of_nonneg _ (by omega)]
  simp
theorem bnd_to {n d : Nat} {i : Int} (h : 0 ≤ i) : bnd n d (some i) = min i.toNat n := if_pos h
theorem sl_to {xs : List Int} {a : Int} (h : 0 ≤ a) : evSl (.list (xs.map .int)) none (some a) = .ok (.list ((xs.take a.toNat).map .int)) := by
  show Rs.ok (PyData.list (cut (xs.map .int) none (some a))) = _
  unfold cut
  rw [bnd_to h]
  show Rs.ok (PyData.list (List.take (min a.toNat (xs.map PyData.int).length - 0) (List.drop 0 (xs.map PyData.int)))) = _
  rw [List.drop_zero, Nat.sub_zero, List.map_take]
  congr 2
  rw [Nat.min_def]
  split
  · rfl
  · rw [List.take_of_length_le (Nat.le_refl _), List.take_of_length_le (by omega)]
theorem sl_from {xs : List Int} {a : Int} (h : 0 ≤ a) : evSl (.list (xs.map .int)) (some a) none = .ok (.list ((xs.drop a.toNat).map .int)) := by
  show Rs.ok (PyData.list (cut (xs.map .int) (some a) none)) = _
  unfold cut
  rw [bnd_to h]
  show Rs.ok (PyData.list (List.take ((xs.map PyData.int).length - min a.toNat (xs.map PyData.int).length) (List.drop (min a.toNat (xs.map PyData.int).length) (xs.map PyData.int)))) = _
  rw [List.map_drop]
  congr 2
  rw [Nat.min_def]
  split
  · rw [List.take_of_length_le (by rw [List.length_drop]; omega)]
  · rw [List.drop_of_length_le (Nat.le_refl _), List.drop_of_length_le (i := a.toNat) (by omega), List.take_nil]
theorem cat_i {xs ys : List Int} (h : xs.length + ys.length ≤ LIM) : evCat (.list (xs.map .int)) (.list (ys.map .int)) = .ok (.list ((xs ++ ys).map .int)) := by
  show (if (xs.map PyData.int).length + (ys.map PyData.int).length ≤ LIM then Rs.ok (PyData.list (xs.map PyData.int ++ ys.map PyData.int)) else .bad) = _
  rw [if_pos (by simpa using h), List.map_append]
theorem rangeL_ints (n : Nat) : rangeL 0 (n : Int) = ((List.range n).map fun (k : Nat) => (k : Int)).map .int := by
  unfold rangeL
  rw [List.map_map]
  congr 1
  funext k
  show PyData.int (0 + (k : Int)) = .int k
  rw [Int.zero_add]
theorem whlGo_nx {c : En → Rs Bool} {b : En → Rs Out} (P : Nat → En → Prop) (m : Nat) (hs : ∀ i ρ, i < m → P i ρ → c ρ = .ok true ∧ Nx (b ρ) (P (i + 1))) (he : ∀ ρ, P m ρ → c ρ = .ok false) : ∀ (k i N : Nat) (ρ : En), i + k = m → k < N → P i ρ → Nx (whlGo c b N ρ) (P m)
  | 0, i, N, ρ, e, hN, p => by
    have ei : i = m := by omega
    subst ei
    obtain ⟨N, rfl⟩ : ∃ M, N = M + 1 := ⟨N - 1, by omega⟩
    rw [whlGo_f (he ρ p)]
    exact Nx_ok.mpr p
  | k + 1, i, N, ρ, e, hN, p => by
    obtain ⟨N, rfl⟩ : ∃ M, N = M + 1 := ⟨N - 1, by omega⟩
    obtain ⟨h1, ρ1, h2, p1⟩ := hs i ρ (by omega) p
    rw [whlGo_t h1 h2]
    exact whlGo_nx P m hs he k (i + 1) N ρ1 (by omega) (by omega) p1
theorem whl_fin {c : En → Rs Bool} {b : En → Rs Out} (P : Nat → En → Prop) (m : Nat) {N : Nat} {ρ : En} {fr : Bool} {R : Rs D} {k : En → Rs Out} (hN : m < N) (h0 : P 0 ρ) (hs : ∀ i ρ, i < m → P i ρ → c ρ = .ok true ∧ Nx (b ρ) (P (i + 1))) (he : ∀ ρ, P m ρ → c ρ = .ok false) (hk : ∀ ρ, P m ρ → fin fr (k ρ) = R) :
    fin fr (seqO (whlGo c b N ρ) k) = R := by
  obtain ⟨ρ', e, p⟩ := whlGo_nx P m hs he m 0 N ρ (by omega) hN h0
  rw [e]
  exact hk ρ' p
theorem Nx_seq {r : Rs Out} {k : En → Rs Out} {P Q : En → Prop} (h : Nx r P) (hk : ∀ ρ, P ρ → Nx (k ρ) Q) : Nx (seqO r k) Q := by
  obtain ⟨ρ, e, p⟩ := h
  rw [e]
  exact hk ρ p
@[simp] theorem seq_nil {cf : Nat → List D → Rs D} {gs : List Int} {sub : Nat → Nat → Bool} (r : Rs Out) : seqO r (evSs cf gs sub []) = r := by
  cases r with
  | bad => rfl
  | er c v => rfl
  | ok o => cases o <;> rfl
theorem Nx_mono {r : Rs Out} {P Q : En → Prop} (h : Nx r P) (hk : ∀ ρ, P ρ → Q ρ) : Nx r Q := ⟨h.choose, h.choose_spec.1, hk _ h.choose_spec.2⟩
theorem whlGo_dec {c : En → Rs Bool} {b : En → Rs Out} (P : Nat → En → Prop) (B : Nat) (hs : ∀ i ρ, i ≤ B → P i ρ → c ρ = .ok false ∨ (c ρ = .ok true ∧ i < B ∧ Nx (b ρ) (P (i + 1)))) : ∀ (k i N : Nat) (ρ : En), i + k = B → k < N → P i ρ → Nx (whlGo c b N ρ) (fun ρ => ∃ j, P j ρ)
  | k, i, 0, ρ, _, hN, _ => by omega
  | 0, i, N + 1, ρ, e, hN, p => by
    rcases hs i ρ (by omega) p with h | ⟨_, h, _⟩
    · rw [whlGo_f h]
      exact Nx_ok.mpr ⟨i, p⟩
    · omega
  | k + 1, i, N + 1, ρ, e, hN, p => by
    rcases hs i ρ (by omega) p with h | ⟨h1, _, ρ1, h2, p1⟩
    · rw [whlGo_f h]
      exact Nx_ok.mpr ⟨i, p⟩
    · rw [whlGo_t h1 h2]
      exact whlGo_dec P B hs k (i + 1) N ρ1 (by omega) (by omega) p1
theorem lcGo_filter {f : D → Rs (Option D)} {p : Int → Bool} : ∀ {xs : List Int}, (∀ x ∈ xs, f (.int x) = if p x then .ok (some (.int x)) else .ok none) → lcGo f (xs.map .int) = .ok ((xs.filter p).map .int)
  | [], _ => rfl
  | x :: xs, h => by
    have ih := lcGo_filter (xs := xs) fun y hy => h y (.tail _ hy)
    have hx := h x (.head _)
    show (match f (.int x) with
      | .ok (some x) => (lcGo f (xs.map .int)).bind fun r => .ok (x :: r)
      | .ok none => lcGo f (xs.map .int)
      | _ => .bad) = _
    rw [hx, ih]
    cases hp : p x with
    | true =>
      rw [List.filter_cons_of_pos hp]
      rfl
    | false =>
      rw [List.filter_cons_of_neg (by rw [hp]; exact Bool.false_ne_true)]
      rfl
theorem maxOf_ge : ∀ (m : Int) (xs : List Int), m ≤ maxOf m xs ∧ (∀ x ∈ xs, x ≤ maxOf m xs)
  | m, [] => ⟨Int.le_refl _, fun _ h => nomatch h⟩
  | m, x :: xs => by
    have e : maxOf m (x :: xs) = maxOf (if m < x then x else m) xs := rfl
    rw [e]
    by_cases hx : m < x
    · obtain ⟨h1, h2⟩ := maxOf_ge x xs
      rw [if_pos hx]
      refine ⟨by omega, fun y hy => ?_⟩
      cases hy with
      | head => exact h1
      | tail _ hy => exact h2 y hy
    · obtain ⟨h1, h2⟩ := maxOf_ge m xs
      rw [if_neg hx]
      refine ⟨h1, fun y hy => ?_⟩
      cases hy with
      | head => omega
      | tail _ hy => exact h2 y hy
theorem max_l {xs : List Int} (h : xs ≠ []) : ∃ m, evBi .maxl [.list (xs.map .int)] = .ok (.int m) ∧ ∀ x ∈ xs, x ≤ m := by
  cases xs with
  | nil => exact absurd rfl h
  | cons x r =>
    refine ⟨maxOf x r, ?_, fun y hy => ?_⟩
    · show (match Z.intsOf ((x :: r).map .int) with
        | some ns => evMaxl ns
        | none => .bad) = _
      rw [intsOf_map]
      rfl
    · obtain ⟨h1, h2⟩ := maxOf_ge x r
      cases hy with
      | head => exact h1
      | tail _ hy => exact h2 y hy
end Z

/-! Zs: the texts that repr tells. -/
namespace Z
open PySem

def cpOk (x : Str) : Prop := ∀ c ∈ x.cps.toList, c < 1114112
theorem cpOk_str {x : Str} (h : cpOk x) : PyData.strOk x = true := by
  unfold PyData.strOk
  rw [← Array.all_toList, List.all_eq_true]
  intro c hc
  exact decide_eq_true (h c hc)
theorem cpOk_of (s : String) : cpOk (Str.ofString s) := by
  intro c hc
  rw [Str.ofString_eq_toList] at hc
  have hc' : c ∈ s.toList.map Char.toNat := by simpa using hc
  obtain ⟨ch, _, rfl⟩ := List.mem_map.mp hc'
  have := ch.valid
  have h2 : ch.toNat.isValidChar := this
  unfold Nat.isValidChar at h2
  omega
theorem cpOk_app {x y : Str} (hx : cpOk x) (hy : cpOk y) : cpOk (x ++ y) := by
  intro c hc
  have hc' : c ∈ x.cps.toList ++ y.cps.toList := by
    have : (x ++ y).cps = x.cps ++ y.cps := rfl
    rw [this] at hc
    simpa using hc
  rcases List.mem_append.mp hc' with h | h
  · exact hx c h
  · exact hy c h
theorem cpOk_from : ∀ (ts : List Str) (k : Nat) (acc : Str), cpOk acc → (∀ t ∈ ts, cpOk t) → cpOk (textFrom k acc ts)
  | [], k, acc, h, _ => h
  | t :: r, k, acc, h, ht => cpOk_from r (k + 1) _ (cpOk_app (cpOk_app h (cpOk_of _)) (ht t (.head _))) fun u hu => ht u (.tail _ hu)
theorem cpOk_join (sep : Str) (hs : cpOk sep) : ∀ ts : List Str, (∀ t ∈ ts, cpOk t) → cpOk (Str.join sep ts)
  | [], _ => fun c hc => by cases hc
  | [x], h => h x (.head _)
  | x :: y :: r, h => cpOk_app (cpOk_app (h x (.head _)) hs) (cpOk_join sep hs (y :: r) fun t ht => h t (.tail _ ht))
mutual
def noStr : D → Bool
  | .str _ => false
  | .dict _ => false
  | .list xs => noStrs xs
  | .tuple xs => noStrs xs
  | _ => true
def noStrs : List D → Bool
  | [] => true
  | x :: xs => noStr x && noStrs xs
end
mutual
theorem shown_cp : ∀ d : D, noStr d = true → cpOk d.shown
  | .none, _ => cpOk_of _
  | .bool b, _ => by
    cases b
    · exact cpOk_of _
    · exact cpOk_of _
  | .int i, _ => cpOk_of _
  | .str _, h => by cases h
  | .dict _, h => by cases h
  | .list xs, h => cpOk_app (cpOk_from _ _ _ (cpOk_of _) (shownAll_cp xs h)) (cpOk_of _)
  | .tuple xs, h => cpOk_app (cpOk_app (cpOk_of _) (cpOk_join _ (cpOk_of _) _ (shownAll_cp xs h))) (cpOk_of _)
theorem shownAll_cp : ∀ xs : List D, noStrs xs = true → ∀ t ∈ PyData.shownAll xs, cpOk t
  | [], _, t, ht => by cases ht
  | x :: xs, h, t, ht => by
    have h' : noStr x = true ∧ noStrs xs = true := by simpa [noStrs] using h
    rcases List.mem_cons.mp ht with e | e
    · rw [e]
      exact shown_cp x h'.1
    · exact shownAll_cp xs h'.2 t e
end
theorem noStrs_ints : ∀ xs : List Int, noStrs (xs.map .int) = true
  | [] => rfl
  | x :: xs => by
    show (true && noStrs (xs.map .int)) = true
    rw [noStrs_ints xs]
    rfl
/-- repr of the same twice -/
theorem c_ne_repr {d : D} (h : noStr d = true) : evCmp .ne (.str d.shown) (.str d.shown) = .ok (.bool false) := by
  have e : eqOk (.str d.shown) = true := by
    show (PyData.strOk d.shown && decide (0 ≤ 64)) = true
    rw [cpOk_str (shown_cp d h)]
    rfl
  show (if eqOk (.str d.shown) && eqOk (.str d.shown) then Rs.ok (PyData.bool (!PyData.eqv (.str d.shown) (.str d.shown))) else .bad) = _
  rw [e]
  have e2 : PyData.eqv (.str d.shown) (.str d.shown) = true := by
    show (d.shown == d.shown) = true
    simp
  rw [e2]
  rfl
theorem log2_40 {i : Int} (h : i.natAbs < 10 ^ 12) : i.natAbs.log2 < 40 := by
  by_cases h0 : i.natAbs = 0
  · rw [h0]
    decide
  · exact (Nat.log2_lt h0).mpr (by omega)
theorem repr_int {i : Int} (h : i.natAbs < 10 ^ 12) : evBi .repr [.int i] = .ok (.str (PyData.shown (.int i))) := by
  have h1 := log2_40 h
  have h2 := PyData.shown_int_le h
  have e : reprOk (.int i) = true := by
    show ((decide (i.natAbs.log2 < 1920) && !false) && decide (0 ≤ 64) && decide ((PyData.shown (.int i)).length ≤ LIM)) = true
    have h3 : i.natAbs.log2 < 1920 := by omega
    have h4 : (PyData.shown (.int i)).length ≤ LIM := by unfold LIM; omega
    simp [h3, h4]
  exact if_pos e
theorem show_ints : ∀ xs : List Int, (∀ x ∈ xs, x.natAbs < 10 ^ 12) → PyData.showableAll (xs.map .int) = true
  | [], _ => rfl
  | x :: xs, h => by
    have h1 := log2_40 (h x (.head _))
    show (decide (x.natAbs.log2 < 1920) && PyData.showableAll (xs.map .int)) = true
    rw [show_ints xs fun y hy => h y (.tail _ hy), decide_eq_true (by omega)]
    rfl
theorem weight_ints : ∀ xs : List Int, (∀ x ∈ xs, x.natAbs < 10 ^ 12) → PyData.weightAll (xs.map .int) ≤ 50 * xs.length
  | [], _ => Nat.le_refl _
  | x :: xs, h => by
    have h1 := log2_40 (h x (.head _))
    have ih := weight_ints xs fun y hy => h y (.tail _ hy)
    rw [List.map_cons, List.length_cons]
    unfold PyData.weightAll PyData.weight
    split <;> omega
theorem repr_ints {xs : List Int} (h : ∀ x ∈ xs, x.natAbs < 10 ^ 12) (hl : xs.length ≤ 10000) : evBi .repr [.list (xs.map .int)] = .ok (.str (PyData.shown (.list (xs.map .int)))) := by
  have hw := weight_ints xs h
  have lay : PyData.layable0 (.list (xs.map .int)) = true := by
    show (PyData.canLayAll0 (xs.map .int) && decide (PyData.depthAll (xs.map .int) + 1 ≤ 64) && decide (PyData.weightAll (xs.map .int) ≤ 2 ^ 20)) = true
    have h3 : PyData.weightAll (xs.map .int) ≤ 2 ^ 20 := by omega
    rw [lay_ints, dep_ints, decide_eq_true h3]
    rfl
  have fits := PyData.shown_fits_of_layable0 (B := 13) (by omega) (by omega) lay (PyData.intsShortAll_ints xs h)
  have e : reprOk (.list (xs.map .int)) = true := by
    show ((PyData.showableAll (xs.map .int) && !PyData.hasDictAll (xs.map .int)) && decide (PyData.depthAll (xs.map .int) + 1 ≤ 64) && decide ((PyData.shown (.list (xs.map .int))).length ≤ LIM)) = true
    have h4 : (PyData.shown (.list (xs.map .int))).length ≤ LIM := by rw [LIM_eq]; exact fits
    have h5 : PyData.hasDictAll (xs.map .int) = false := PyData.hasDict_of_canLay (.list (xs.map .int)) (lay_ints xs)
    rw [show_ints xs h, dep_ints, h5, decide_eq_true h4]
    rfl
  exact if_pos e
end Z

/-! Zl: the numbers that the laws draw. -/
namespace Z
open PySem

def fDraws : Fn := { name := "_law_draws", np := 1, N := ["script", "draws", "k", "rest", "turn", "stirred"], fresh := false, body := [.new 1 (.lst []), .fr (.nm 2) (.rng1 (.bi .min2 [.c (.int 63), .bi .len [.var 0]])) [.set 3 (.bi .abs [.ix (.var 0) (.var 2)]), .ife (.cmp .ge (.var 3) (.bin .pow (.c (.int 10)) (.c (.int 18)))) [.fr (.nm 4) (.rng1 (.c (.int 60))) [.ife (.cmp .gt (.var 3) (.c (.int 0))) [.app 1 (.bin .mod (.bi .int [.var 3]) (.c (.int 65536))), .set 3 (.bin .fdiv (.var 3) (.c (.int 65536)))] []]] [.set 5 (.bin .mod (.bi .int [.bin .add (.bin .mul (.var 3) (.c (.int 48271))) (.bin .mul (.bin .add (.var 2) (.c (.int 1))) (.c (.int 69621)))]) (.c (.int 2147483647))), .set 5 (.bin .mod (.bi .int [.bin .add (.bin .add (.bin .mul (.var 5) (.c (.int 16807))) (.bin .mul (.c (.int 11)) (.var 2))) (.c (.int 5))]) (.c (.int 2147483629))), .app 1 (.bin .mod (.bi .int [.var 5]) (.c (.int 65536))), .app 1 (.bin .mod (.bi .int [.bin .fdiv (.var 5) (.c (.int 65536))]) (.c (.int 32768)))]], .rto 1] }
def fMix : Fn := { name := "_law_mix", np := 3, N := ["draws", "k", "many", "cell"], fresh := false, body := [.set 3 (.c (.int 0)), .ife (.cmp .gt (.bi .len [.var 0]) (.c (.int 0))) [.set 3 (.ix (.var 0) (.bin .mod (.bi .int [.var 1]) (.bi .len [.var 0])))] [], .ife (.cmp .lt (.var 1) (.bi .len [.var 0])) [.ret (.bin .mod (.bi .int [.var 3]) (.var 2))] [], .ret (.bin .mod (.bi .int [.bin .fdiv (.bi .int [.bin .add (.bin .mul (.var 3) (.c (.int 7919))) (.bin .mul (.var 1) (.c (.int 104729)))]) (.c (.int 3))]) (.var 2))] }
theorem mulOk_30 {a b : Int} (ha : a.natAbs < 10 ^ 30) (hb : b.natAbs < 10 ^ 30) : mulOk a b = true := by
  have l : ∀ x : Nat, x < 10 ^ 30 → x.log2 < 100 := fun x hx => by
    by_cases h0 : x = 0
    · rw [h0]
      decide
    · exact (Nat.log2_lt h0).mpr (by omega)
  have h1 := l _ ha
  have h2 := l _ hb
  unfold mulOk
  exact decide_eq_true (by omega)
theorem divOk_c {b : Int} (h0 : 0 < b) (h : b < 10 ^ 30) : divOk b = true := by
  have : b.natAbs.log2 < 100 := (Nat.log2_lt (by omega)).mpr (by omega)
  unfold divOk
  exact decide_eq_true ⟨by omega, by omega⟩
theorem abs_i (a : Int) : evBi .abs [.int a] = .ok (.int (if a < 0 then -a else a)) := rfl
theorem min_i (a b : Int) : evBi .min2 [.int a, .int b] = .ok (.int (if b < a then b else a)) := rfl
theorem pow18 : evBin .pow (.int 10) (.int 18) = .ok (.int 1000000000000000000) := by
  show (if (0 : Int) ≤ 18 ∧ (18 : Int) ≤ 1000000 ∧ (10 : Int).natAbs < 18446744073709551616 then Rs.ok (PyData.int ((10 : Int) ^ (18 : Int).toNat)) else .bad) = _
  rw [if_pos (by decide)]
  rfl
theorem fmod_bd (a : Int) {b : Int} (h : 0 < b) : 0 ≤ a.fmod b ∧ a.fmod b < b := by
  rw [Int.fmod_eq_emod_of_nonneg _ (by omega)]
  exact ⟨Int.emod_nonneg _ (by omega), Int.emod_lt_of_pos _ h⟩
theorem fdiv_bd {a b : Int} (ha : 0 ≤ a) (h : 0 < b) : 0 ≤ a.fdiv b ∧ a.fdiv b ≤ a := by
  rw [Int.fdiv_eq_ediv_of_nonneg _ (by omega)]
  exact ⟨Int.ediv_nonneg ha (by omega), Int.ediv_le_self _ ha⟩
/-- drawn numbers -/
def Dr (ds : List Int) (m : Nat) : Prop := (∀ d ∈ ds, 0 ≤ d ∧ d < 65536) ∧ ds.length ≤ m
theorem Dr.add {ds : List Int} {m : Nat} {x : Int} (h : Dr ds m) (hx : 0 ≤ x ∧ x < 65536) : Dr (ds ++ [x]) (m + 1) := ⟨fun d hd => by
  rcases List.mem_append.mp hd with z | z
  · exact h.1 d z
  · rw [List.mem_singleton.mp z]
    exact hx, by rw [List.length_append]; exact Nat.succ_le_succ h.2⟩
theorem Dr.le {ds : List Int} {m m' : Nat} (h : Dr ds m) (l : m ≤ m') : Dr ds m' := ⟨h.1, Nat.le_trans h.2 l⟩
theorem scIx {ns : List Int} {k : Nat} {z : Int} (h : ns[k]? = some z) : evIx (scD (ns.map .int)) (.int k) = .ok (.int z) := by
  have hi := (List.getElem?_eq_some_iff.mp h).1
  have e : place (ns.map PyData.int).length (k : Int) = some k := by
    unfold place
    rw [if_pos (by omega), if_pos (by rw [List.length_map]; omega)]
    simp
  show (match (place (ns.map PyData.int).length (k : Int)).bind fun j => (ns.map PyData.int)[j]? with
    | some d => Rs.ok d
    | none => Rs.bad) = _
  rw [e]
  show (match (ns.map PyData.int)[k]? with
    | some d => Rs.ok d
    | none => Rs.bad) = _
  rw [List.getElem?_map, h]
  rfl
def DI (ns : List Int) (k : Nat) (dd : Sl) (j : Nat) (ρ : En) : Prop := ∃ ds r c, ρ = [.fz (scD (ns.map .int)), .ow (.list (ds.map .int)), .fz (.int k), .fz (.int r), c, dd] ∧ Dr ds (60 * k + j) ∧ 0 ≤ r
def DO (ns : List Int) (k : Nat) (ρ : En) : Prop := ∃ ds a b c d, ρ = [.fz (scD (ns.map .int)), .ow (.list (ds.map .int)), a, b, c, d] ∧ Dr ds (60 * k)
theorem draws_spec {T : Tab} {cf : Nat → List D → Rs D} {ns : List Int} (hl : ns.length ≤ 63) : ∃ ds, runFn T cf fDraws [scD (ns.map .int)] = .ok (.list (ds.map .int)) ∧ Dr ds 3780 := by
  have hlim : LIM = 16777216 := rfl
  have hmin : (if (ns.length : Int) < 63 then (ns.length : Int) else 63) = ns.length := by split <;> omega
  have hr0 : evRng 0 (ns.length : Int) = .ok (.list (rangeL 0 (ns.length : Int))) := if_pos (by omega)
  have hr1 : evRng 0 60 = .ok (.list (rangeL 0 60)) := if_pos (by omega)
  have key : Nx (forGo (stp cf (T.gls.map (·.2)) T.sub (.nm 2) [.set 3 (.bi .abs [.ix (.var 0) (.var 2)]), .ife (.cmp .ge (.var 3) (.bin .pow (.c (.int 10)) (.c (.int 18)))) [.fr (.nm 4) (.rng1 (.c (.int 60))) [.ife (.cmp .gt (.var 3) (.c (.int 0))) [.app 1 (.bin .mod (.bi .int [.var 3]) (.c (.int 65536))), .set 3 (.bin .fdiv (.var 3) (.c (.int 65536)))] []]] [.set 5 (.bin .mod (.bi .int [.bin .add (.bin .mul (.var 3) (.c (.int 48271))) (.bin .mul (.bin .add (.var 2) (.c (.int 1))) (.c (.int 69621)))]) (.c (.int 2147483647))), .set 5 (.bin .mod (.bi .int [.bin .add (.bin .add (.bin .mul (.var 5) (.c (.int 16807))) (.bin .mul (.c (.int 11)) (.var 2))) (.c (.int 5))]) (.c (.int 2147483629))), .app 1 (.bin .mod (.bi .int [.var 5]) (.c (.int 65536))), .app 1 (.bin .mod (.bi .int [.bin .fdiv (.var 5) (.c (.int 65536))]) (.c (.int 32768)))]]) (rangeL 0 (ns.length : Int)) [.fz (scD (ns.map .int)), .ow (.list []), .un, .un, .un, .un])
      (DO ns (rangeL 0 (ns.length : Int)).length) := by
    refine forGo_nx (DO ns) ⟨[], .un, .un, .un, .un, rfl, ⟨(fun _ h => nomatch h), Nat.zero_le _⟩⟩ (fun k d ρ hd hP => ?_)
    obtain ⟨ds, a, b, c, dd, rfl, hD⟩ := hP
    have hk : k < ns.length := by
      have := (List.getElem?_eq_some_iff.mp hd).1
      rw [rangeL_len] at this
      omega
    have e := rangeL_get hd
    subst e
    have hz : ns[k]? = some ns[k] := List.getElem?_eq_getElem hk
    generalize ns[k] = z at hz
    have e1 := scIx hz
    have hle := hD.2
    unfold stp
    simp [e1, abs_i, pow18]
    obtain ⟨r, hr⟩ : ∃ r : Int, r = if z < 0 then -z else z := ⟨_, rfl⟩
    have hr0' : 0 ≤ r := by rw [hr]; split <;> omega
    rw [← hr]
    by_cases hbig : (1000000000000000000 : Int) ≤ r
    · simp [hbig, hr1]
      refine Nx_mono (forGo_nx (DI ns k dd) ⟨ds, r, c, rfl, hD, hr0'⟩ (fun j d ρ hd hP => ?_)) (fun ρ hP => ?_)
      · obtain ⟨ds, r, c, rfl, hD, hr0'⟩ := hP
        have hj : j < 60 := by
          have := (List.getElem?_eq_some_iff.mp hd).1
          rw [rangeL_len] at this
          exact this
        have hle := hD.2
        unfold stp
        simp
        by_cases hp : 0 < r
        · simp [hp]
          rw [b_mod (by decide)]
          simp
          rw [if_pos (by rw [hlim]; omega)]
          simp
          rw [b_fdiv (divOk_c (by decide) (by decide))]
          simp
          exact ⟨ds ++ [r.fmod 65536], r.fdiv 65536, _, by rw [List.map_append]; rfl, hD.add (fmod_bd r (by decide)), (fdiv_bd hr0' (by decide)).1⟩
        · simp [hp]
          exact ⟨ds, _, _, rfl, hD.le (by omega), hr0'⟩
      · obtain ⟨ds, r, c, rfl, hD, hr0'⟩ := hP
        rw [rangeL_len] at hD
        exact ⟨ds, _, _, _, _, rfl, hD.le (by show 60 * k + 60 ≤ 60 * (k + 1); omega)⟩
    · simp [hbig]
      have hk63 : k < 63 := by omega
      rw [b_mul (mulOk_30 (by omega) (by decide))]
      simp
      rw [b_mul (mulOk_30 (by omega) (by decide))]
      simp
      rw [b_mod (by decide)]
      simp
      have f1 := fmod_bd (r * 48271 + (k + 1) * 69621) (b := 2147483647) (by decide)
      generalize (r * 48271 + ((k : Int) + 1) * 69621).fmod 2147483647 = x at f1
      rw [b_mul (mulOk_30 (by omega) (by decide))]
      simp
      rw [b_mul (mulOk_30 (by decide) (by omega))]
      simp
      rw [b_mod (by decide)]
      simp
      have f2 := fmod_bd (x * 16807 + 11 * k + 5) (b := 2147483629) (by decide)
      generalize (x * 16807 + 11 * (k : Int) + 5).fmod 2147483629 = y at f2
      rw [b_mod (by decide)]
      simp
      rw [if_pos (by rw [hlim]; omega)]
      simp
      rw [b_fdiv (divOk_c (by decide) (by decide))]
      simp
      rw [b_mod (by decide)]
      simp
      rw [if_pos (by rw [hlim]; omega)]
      simp
      have f3 := fmod_bd (y.fdiv 65536) (b := 32768) (by decide)
      have hd2 := ((hD.add (fmod_bd y (b := 65536) (by decide))).add (x := (y.fdiv 65536).fmod 32768) ⟨f3.1, by omega⟩).le (show 60 * k + 1 + 1 ≤ 60 * (k + 1) by omega)
      rw [List.append_assoc] at hd2
      exact ⟨ds ++ ([y.fmod 65536] ++ [(y.fdiv 65536).fmod 32768]), _, _, _, _, by rw [List.map_append]; rfl, hd2⟩
  obtain ⟨ρ, e, ds, a, b, c, d, rfl, hD⟩ := key
  refine ⟨ds, ?_, hD.le (by rw [rangeL_len]; omega)⟩
  rw [run_fn (ρ := [.fz (scD (ns.map .int)), .un, .un, .un, .un, .un]) rfl rfl]
  simp [fDraws, min_i, hmin, hr0]
  rw [e]
  simp
theorem mix_spec {T : Tab} {cf : Nat → List D → Rs D} {ds : List Int} {m : Nat} {k many : Int} (hD : Dr ds m) (hk : 0 ≤ k) (hk2 : k ≤ 100000000) (hm : 0 < many) : ∃ r, runFn T cf fMix [.list (ds.map .int), .int k, .int many] = .ok (.int r) ∧ 0 ≤ r ∧ r < many := by
  rw [run_fn (ρ := [.fz (.list (ds.map .int)), .fz (.int k), .fz (.int many), .un]) rfl rfl]
  have end_ : ∀ c : Int, 0 ≤ c → c < 65536 → ∃ r, fin fMix.fresh (evSs cf (T.gls.map (·.2)) T.sub [.ife (.cmp .lt (.var 1) (.bi .len [.var 0])) [.ret (.bin .mod (.bi .int [.var 3]) (.var 2))] [], .ret (.bin .mod (.bi .int [.bin .fdiv (.bi .int [.bin .add (.bin .mul (.var 3) (.c (.int 7919))) (.bin .mul (.var 1) (.c (.int 104729)))]) (.c (.int 3))]) (.var 2))] [.fz (.list (ds.map .int)), .fz (.int k), .fz (.int many), .fz (.int c)]) = .ok (.int r) ∧ 0 ≤ r ∧ r < many := fun c c0 c1 => by
    by_cases hlt : k < (ds.length : Int)
    · refine ⟨c.fmod many, ?_, fmod_bd c hm⟩
      simp [hlt]
      rw [b_mod (by omega)]
      simp
    · refine ⟨((c * 7919 + k * 104729).fdiv 3).fmod many, ?_, fmod_bd _ hm⟩
      simp [hlt]
      rw [b_mul (mulOk_30 (by omega) (by decide)), b_mul (mulOk_30 (by omega) (by decide))]
      simp
      rw [b_fdiv (divOk_c (by decide) (by decide))]
      simp
      rw [b_mod (by omega)]
      simp
  by_cases h0 : 0 < ds.length
  · have h0' : (0 : Int) < (ds.length : Int) := by omega
    have hb := fmod_bd k h0'
    have hi := ix_i (xs := ds) (i := k.fmod ds.length) hb.1 hb.2
    have hlt : (k.fmod ds.length).toNat < ds.length := by omega
    have hcm : ds.getD (k.fmod ds.length).toNat 0 ∈ ds := by
      rw [List.getD_eq_getElem?_getD, List.getElem?_eq_getElem hlt]
      exact List.getElem_mem hlt
    obtain ⟨c0, c1⟩ := hD.1 _ hcm
    obtain ⟨r, e, b⟩ := end_ _ c0 c1
    refine ⟨r, ?_, b⟩
    rw [← e]
    generalize ds.getD (k.fmod ds.length).toNat 0 = c at hi ⊢
    simp only [fMix, x_cons, x_set, y_c, Rs.bind_ok, seqO_nx, List.set_cons_succ, List.set_cons_zero, x_ife, y_cmp, y_bi, z_cons, z_nil, y_var, at_z, at_s, len_l, List.length_map, c_gt, tr_b, decide_eq_true h0', brn_t, y_ix, y_bin, int_i]
    rw [b_mod (by omega)]
    simp only [Rs.bind_ok, hi, seqO_nx, List.set_cons_succ, List.set_cons_zero, x_nil]
    simp only [x_cons, x_ife, y_cmp, y_bi, z_cons, z_nil, y_var, at_z, at_s, len_l, List.length_map, Rs.bind_ok]
  · have h0' : ¬ (0 : Int) < (ds.length : Int) := by omega
    obtain ⟨r, e, b⟩ := end_ 0 (by omega) (by omega)
    refine ⟨r, ?_, b⟩
    rw [← e]
    simp only [fMix, x_cons, x_set, y_c, Rs.bind_ok, seqO_nx, List.set_cons_succ, List.set_cons_zero, x_ife, y_cmp, y_bi, z_cons, z_nil, y_var, at_z, at_s, len_l, List.length_map, c_gt, tr_b, decide_eq_false h0', brn_f, x_nil]
end Z

namespace K64
open PySem PySem.Spec PyProof.Rows L2 Z
abbrev prg : Program := PySem.Challenge.pw_diceandtracks_k64_whole_rings_counted_ou
def topS (i : Nat) : Stmt := prg.main.body.getD i (.Pass ⟨0, 0, 0, 0⟩)
/-- check_ring -/
def f_check_ring : Fn := { name := "check_ring", np := 2, N := ["people", "rhyme", "k", "number"], fresh := false, body := [.ife (.not (.chain .le .le (.c (.int 1)) (.var 0) (.gl 0))) [.rse 0 (.var 0)] [], .ife (.cmp .eq (.bi .len [.var 1]) (.c (.int 0))) [.rse 3 (.c (.int 0))] [], .fr (.tup [.nm 2, .nm 3]) (.enum (.sl (.var 1) none (some (.gl 1)))) [.ife (.not (.chain .le .le (.c (.int 1)) (.var 3) (.gl 2))) [.rse 3 (.var 2)] []], .ife (.cmp .gt (.bi .len [.var 1]) (.gl 1)) [.rse 3 (.gl 1)] []] }
/-- order_of -/
def f_order_of : Fn := { name := "order_of", np := 2, N := ["people", "rhyme", "left", "found", "at", "turn"], fresh := false, body := [.set 2 (.lr1 (.var 0)), .new 3 (.lst []), .set 4 (.c (.int 0)), .fr (.nm 5) (.rng1 (.var 0)) [.set 4 (.bin .mod (.bin .sub (.bin .add (.var 4) (.ix (.var 1) (.bin .mod (.var 5) (.bi .len [.var 1])))) (.c (.int 1))) (.bi .len [.var 2])), .app 3 (.ix (.var 2) (.var 4)), .set 2 (.cat (.sl (.var 2) none (some (.var 4))) (.sl (.var 2) (some (.bin .add (.var 4) (.c (.int 1)))) none))], .rto 3] }
/-- order -/
def f_order : Fn := { name := "order", np := 2, N := ["people", "rhyme"], fresh := false, body := [.expr (.call 0 [.var 0, .var 1]), .ret (.call 1 [.var 0, .var 1])] }
/-- last -/
def f_last : Fn := { name := "last", np := 2, N := ["people", "rhyme"], fresh := false, body := [.ret (.ix (.call 2 [.var 0, .var 1]) (.neg (.c (.int 1))))] }
/-- out_at -/
def f_out_at : Fn := { name := "out_at", np := 3, N := ["people", "rhyme", "person", "told"], fresh := false, body := [.set 3 (.call 2 [.var 0, .var 1]), .ife (.not (.chain .le .lt (.c (.int 0)) (.var 2) (.var 0))) [.rse 4 (.var 2)] [], .ret (.bi .index [.var 3, .var 2])] }
/-- alone -/
def f_alone : Fn := { name := "alone", np := 2, N := ["people", "step", "found", "many"], fresh := false, body := [.set 2 (.c (.int 0)), .fr (.nm 3) (.rng2 (.c (.int 2)) (.bin .add (.var 0) (.c (.int 1)))) [.set 2 (.bin .mod (.bin .add (.var 2) (.var 1)) (.var 3))], .ret (.var 2)] }
/-- last_by_one -/
def f_last_by_one : Fn := { name := "last_by_one", np := 2, N := ["people", "step", "number"], fresh := false, body := [.fr (.nm 2) (.tup [.var 0, .var 1]) [.ife (.not (.chain .le .le (.c (.int 1)) (.var 2) (.gl 3))) [.rse 0 (.var 2)] []], .ret (.call 5 [.var 0, .var 1])] }
/-- least_step -/
def f_least_step : Fn := { name := "least_step", np := 2, N := ["people", "person", "step"], fresh := false, body := [.ife (.not (.chain .le .le (.c (.int 1)) (.var 0) (.gl 4))) [.rse 0 (.var 0)] [], .ife (.not (.chain .le .lt (.c (.int 0)) (.var 1) (.var 0))) [.rse 4 (.var 1)] [], .set 2 (.c (.int 1)), .whl 1000000 (.cmp .ne (.call 5 [.var 0, .var 2]) (.var 1)) [.set 2 (.bin .add (.var 2) (.c (.int 1)))], .ret (.var 2)] }
/-- rhyme_of -/
def f_rhyme_of : Fn := { name := "rhyme_of", np := 1, N := ["told", "k", "person", "left", "found", "at", "place"], fresh := false, body := [.ife (.not (.chain .le .le (.c (.int 1)) (.bi .len [.var 0]) (.gl 0))) [.rse 1 (.bi .len [.var 0])] [], .fr (.tup [.nm 1, .nm 2]) (.enum (.var 0)) [.ife (.ors [.not (.chain .le .lt (.c (.int 0)) (.var 2) (.bi .len [.var 0])), .cmp .mem (.var 2) (.sl (.var 0) none (some (.var 1)))]) [.rse 2 (.var 1)] []], .set 3 (.lr1 (.bi .len [.var 0])), .new 4 (.lst []), .set 5 (.c (.int 0)), .fr (.nm 2) (.var 0) [.set 6 (.bi .index [.var 3, .var 2]), .app 4 (.bin .add (.bin .mod (.bin .sub (.var 6) (.var 5)) (.bi .len [.var 3])) (.c (.int 1))), .set 3 (.cat (.sl (.var 3) none (some (.var 6))) (.sl (.var 3) (some (.bin .add (.var 6) (.c (.int 1)))) none)), .set 5 (.var 6)], .rto 4] }
/-- _law_draws -/
def f__law_draws : Fn := { name := "_law_draws", np := 1, N := ["script", "draws", "k", "rest", "turn", "stirred"], fresh := false, body := [.new 1 (.lst []), .fr (.nm 2) (.rng1 (.bi .min2 [.c (.int 63), .bi .len [.var 0]])) [.set 3 (.bi .abs [.ix (.var 0) (.var 2)]), .ife (.cmp .ge (.var 3) (.bin .pow (.c (.int 10)) (.c (.int 18)))) [.fr (.nm 4) (.rng1 (.c (.int 60))) [.ife (.cmp .gt (.var 3) (.c (.int 0))) [.app 1 (.bin .mod (.bi .int [.var 3]) (.c (.int 65536))), .set 3 (.bin .fdiv (.var 3) (.c (.int 65536)))] []]] [.set 5 (.bin .mod (.bi .int [.bin .add (.bin .mul (.var 3) (.c (.int 48271))) (.bin .mul (.bin .add (.var 2) (.c (.int 1))) (.c (.int 69621)))]) (.c (.int 2147483647))), .set 5 (.bin .mod (.bi .int [.bin .add (.bin .add (.bin .mul (.var 5) (.c (.int 16807))) (.bin .mul (.c (.int 11)) (.var 2))) (.c (.int 5))]) (.c (.int 2147483629))), .app 1 (.bin .mod (.bi .int [.var 5]) (.c (.int 65536))), .app 1 (.bin .mod (.bi .int [.bin .fdiv (.var 5) (.c (.int 65536))]) (.c (.int 32768)))]], .rto 1] }
/-- _law_mix -/
def f__law_mix : Fn := { name := "_law_mix", np := 3, N := ["draws", "k", "many", "cell"], fresh := false, body := [.set 3 (.c (.int 0)), .ife (.cmp .gt (.bi .len [.var 0]) (.c (.int 0))) [.set 3 (.ix (.var 0) (.bin .mod (.bi .int [.var 1]) (.bi .len [.var 0])))] [], .ife (.cmp .lt (.var 1) (.bi .len [.var 0])) [.ret (.bin .mod (.bi .int [.var 3]) (.var 2))] [], .ret (.bin .mod (.bi .int [.bin .fdiv (.bi .int [.bin .add (.bin .mul (.var 3) (.c (.int 7919))) (.bin .mul (.var 1) (.c (.int 104729)))]) (.c (.int 3))]) (.var 2))] }
/-- _law_order -/
def f__law_order : Fn := { name := "_law_order", np := 2, N := ["people", "rhyme", "ring", "found", "turn", "step"], fresh := false, body := [.set 2 (.lr1 (.var 0)), .new 3 (.lst []), .set 4 (.c (.int 0)), .whl 1000000 (.cmp .ne (.var 2) (.lst [])) [.fr (.nm 5) (.rng1 (.bin .sub (.ix (.var 1) (.bin .mod (.bi .int [.var 4]) (.bi .len [.var 1]))) (.c (.int 1)))) [.set 2 (.cat (.sl (.var 2) (some (.c (.int 1))) none) (.sl (.var 2) none (some (.c (.int 1)))))], .app 3 (.ix (.var 2) (.c (.int 0))), .set 2 (.sl (.var 2) (some (.c (.int 1))) none), .set 4 (.bin .add (.var 4) (.c (.int 1)))], .rto 3] }
/-- _law_fault -/
def f__law_fault : Fn := { name := "_law_fault", np := 4, N := ["way", "one", "two", "three", "e"], fresh := false, body := [.try_ [.ife (.cmp .lt (.var 0) (.c (.int 2))) [.expr (.sel [2, 3] (.var 0) [.var 1, .var 2])] [.ife (.cmp .eq (.var 0) (.c (.int 2))) [.expr (.call 4 [.var 1, .var 2, .var 3])] [.ife (.cmp .lt (.var 0) (.c (.int 5))) [.expr (.sel [6, 7] (.bin .sub (.var 0) (.c (.int 3))) [.var 1, .var 2])] [.expr (.call 8 [.var 1])]]]] [(0, 4, "range"), (3, 4, "rhyme"), (4, 4, "person"), (1, 4, "size"), (2, 4, "order")], .ret (.tup [.c (.str "none"), .c (.int 0)])] }
/-- _law_faults -/
def f__law_faults : Fn := { name := "_law_faults", np := 3, N := ["draws", "people", "rhyme", "k", "way", "bad", "one", "two", "at", "due", "told"], fresh := false, body := [.set 3 (.call 10 [.var 0, .c (.int 200), .bi .len [.var 2]]), .fr (.nm 4) (.rng1 (.c (.int 3))) [.fr (.nm 5) (.lst [.c (.int 0), .c (.int 61), .neg (.c (.int 1))]) [.ife (.cmp .ne (.call 12 [.var 4, .var 5, .lst [], .c (.int 99)]) (.tup [.c (.str "range"), .var 5])) [.ret (.c (.bool false))] []], .ife (.ors [.cmp .ne (.call 12 [.var 4, .var 1, .lst [], .c (.int 99)]) (.tup [.c (.str "rhyme"), .c (.int 0)]), .cmp .ne (.call 12 [.var 4, .var 1, .rep (.lst [.c (.int 1)]) (.c (.int 7)), .c (.int 99)]) (.tup [.c (.str "rhyme"), .c (.int 6)]), .cmp .ne (.call 12 [.var 4, .var 1, .cat (.lst [.c (.int 1), .c (.int 0)]) (.rep (.lst [.c (.int 1)]) (.c (.int 5))), .c (.int 99)]) (.tup [.c (.str "rhyme"), .c (.int 1)])]) [.ret (.c (.bool false))] [], .fr (.nm 5) (.lst [.c (.int 0), .c (.int 101)]) [.ife (.cmp .ne (.call 12 [.var 4, .var 1, .cat (.cat (.sl (.var 2) none (some (.var 3))) (.lst [.var 5])) (.sl (.var 2) (some (.bin .add (.var 3) (.c (.int 1)))) none), .c (.int 99)]) (.tup [.c (.str "rhyme"), .var 3])) [.ret (.c (.bool false))] []]], .fr (.nm 5) (.lst [.neg (.c (.int 1)), .var 1]) [.ife (.cmp .ne (.call 12 [.c (.int 2), .var 1, .var 2, .var 5]) (.tup [.c (.str "person"), .var 5])) [.ret (.c (.bool false))] []], .fr (.tup [.nm 6, .nm 7, .nm 8]) (.lst [.tup [.c (.int 0), .c (.int 0), .c (.int 0)], .tup [.c (.int 1000001), .c (.int 0), .c (.int 1000001)], .tup [.c (.int 5), .c (.int 0), .c (.int 0)], .tup [.c (.int 5), .c (.int 1000001), .c (.int 1000001)]]) [.ife (.cmp .ne (.call 12 [.c (.int 3), .var 6, .var 7, .c (.int 0)]) (.tup [.c (.str "range"), .var 8])) [.ret (.c (.bool false))] []], .fr (.tup [.nm 6, .nm 7, .nm 9]) (.lst [.tup [.c (.int 0), .c (.int 9), .tup [.c (.str "range"), .c (.int 0)]], .tup [.c (.int 10), .c (.int 99), .tup [.c (.str "range"), .c (.int 10)]], .tup [.c (.int 5), .c (.int 5), .tup [.c (.str "person"), .c (.int 5)]], .tup [.c (.int 5), .neg (.c (.int 1)), .tup [.c (.str "person"), .neg (.c (.int 1))]]]) [.ife (.cmp .ne (.call 12 [.c (.int 4), .var 6, .var 7, .c (.int 0)]) (.var 9)) [.ret (.c (.bool false))] []], .set 10 (.call 2 [.var 1, .var 2]), .ife (.ors [.cmp .ne (.call 12 [.c (.int 5), .lst [], .c (.int 0), .c (.int 0)]) (.tup [.c (.str "size"), .c (.int 0)]), .cmp .ne (.call 12 [.c (.int 5), .rep (.lst [.c (.int 0)]) (.c (.int 61)), .c (.int 0), .c (.int 0)]) (.tup [.c (.str "size"), .c (.int 61)]), .cmp .ne (.call 12 [.c (.int 5), .cat (.var 10) (.sl (.var 10) none (some (.c (.int 1)))), .c (.int 0), .c (.int 0)]) (.ix (.lst [.tup [.c (.str "order"), .var 1], .tup [.c (.str "size"), .c (.int 61)]]) (.bi .int [.cmp .eq (.var 1) (.c (.int 60))]))]) [.ret (.c (.bool false))] [], .ret (.ands [.cmp .eq (.call 12 [.c (.int 5), .cat (.lst [.bi .len [.var 10]]) (.sl (.var 10) (some (.c (.int 1))) none), .c (.int 0), .c (.int 0)]) (.tup [.c (.str "order"), .c (.int 0)]), .cmp .eq (.call 12 [.c (.int 5), .cat (.lst [.neg (.c (.int 1))]) (.sl (.var 10) (some (.c (.int 1))) none), .c (.int 0), .c (.int 0)]) (.tup [.c (.str "order"), .c (.int 0)])])] }
/-- law -/
def f_law : Fn := { name := "law", np := 1, N := ["script", "draws", "people", "rhyme", "k", "kept", "told", "person", "many", "power", "few", "lost", "step", "one", "other", "steps", "ring", "at", "by", "number"], fresh := false, body := [.set 1 (.call 9 [.var 0]), .set 2 (.bin .add (.c (.int 1)) (.call 10 [.var 1, .c (.int 0), .ix (.lst [.c (.int 9), .c (.int 20), .c (.int 60)]) (.call 10 [.var 1, .c (.int 1), .c (.int 3)])])), .set 3 (.lc (.nm 4) [4] (.rng1 (.bin .add (.c (.int 1)) (.call 10 [.var 1, .c (.int 3), .c (.int 6)]))) [] (.bin .add (.c (.int 1)) (.call 10 [.var 1, .bin .add (.c (.int 10)) (.var 4), .ix (.lst [.c (.int 4), .c (.int 100)]) (.call 10 [.var 1, .c (.int 2), .c (.int 2)])]))), .set 5 (.bi .repr [.var 3]), .set 6 (.call 11 [.var 2, .var 3]), .ife (.ors [.cmp .ne (.bi .repr [.call 2 [.var 2, .var 3]]) (.bi .repr [.var 6]), .cmp .ne (.bi .repr [.call 3 [.var 2, .var 3]]) (.bi .repr [.ix (.var 6) (.neg (.c (.int 1)))]), .cmp .ne (.bi .repr [.var 3]) (.var 5)]) [.ret (.c (.bool false))] [], .set 7 (.call 10 [.var 1, .c (.int 20), .var 2]), .ife (.ors [.cmp .ne (.bi .repr [.call 4 [.var 2, .var 3, .var 7]]) (.bi .repr [.bi .index [.var 6, .var 7]]), .cmp .ne (.bi .repr [.call 6 [.var 2, .ix (.var 3) (.c (.int 0))]]) (.bi .repr [.ix (.call 11 [.var 2, .sl (.var 3) none (some (.c (.int 1)))]) (.neg (.c (.int 1)))])]) [.ret (.c (.bool false))] [], .set 8 (.bin .add (.c (.int 1)) (.call 10 [.var 1, .c (.int 21), .c (.int 4000)])), .set 9 (.c (.int 1)), .whl 1000000 (.cmp .le (.bin .mul (.c (.int 2)) (.var 9)) (.var 8)) [.set 9 (.bin .mul (.c (.int 2)) (.var 9))], .ife (.ors [.cmp .ne (.call 6 [.var 8, .c (.int 2)]) (.bin .mul (.c (.int 2)) (.bin .sub (.var 8) (.var 9))), .cmp .ne (.call 6 [.var 8, .c (.int 1)]) (.bin .sub (.var 8) (.c (.int 1)))]) [.ret (.c (.bool false))] [], .set 10 (.bin .add (.c (.int 1)) (.call 10 [.var 1, .c (.int 22), .c (.int 7)])), .set 11 (.lr1 (.var 10)), .set 12 (.c (.int 0)), .whl 1000000 (.ands [.cmp .ne (.var 11) (.lst []), .cmp .lt (.var 12) (.c (.int 400))]) [.set 12 (.bin .add (.var 12) (.c (.int 1))), .set 13 (.ix (.call 11 [.var 10, .lst [.var 12]]) (.neg (.c (.int 1)))), .ife (.cmp .mem (.var 13) (.var 11)) [.ife (.cmp .ne (.bi .repr [.call 7 [.var 10, .var 13]]) (.bi .repr [.var 12])) [.ret (.c (.bool false))] [], .set 11 (.lc (.nm 14) [14] (.var 11) [.cmp .ne (.var 14) (.var 13)] (.var 14))] []], .set 15 (.call 8 [.var 6]), .set 16 (.lr1 (.var 2)), .set 17 (.c (.int 0)), .fr (.nm 4) (.rng1 (.var 2)) [.ife (.not (.chain .le .le (.c (.int 1)) (.ix (.var 15) (.var 4)) (.bin .sub (.var 2) (.var 4)))) [.ret (.c (.bool false))] [], .set 17 (.bin .mod (.bi .int [.bin .sub (.bin .add (.var 17) (.ix (.var 15) (.var 4))) (.c (.int 1))]) (.bi .len [.var 16])), .ife (.cmp .ne (.ix (.var 16) (.var 17)) (.ix (.var 6) (.var 4))) [.ret (.c (.bool false))] [], .set 16 (.cat (.sl (.var 16) none (some (.var 17))) (.sl (.var 16) (some (.bin .add (.var 17) (.c (.int 1)))) none))], .set 18 (.c (.int 1)), .fr (.nm 19) (.rng2 (.c (.int 1)) (.bin .add (.bi .min2 [.var 2, .c (.int 4)]) (.c (.int 1)))) [.set 18 (.bin .mul (.var 18) (.var 19))], .ife (.ands [.cmp .lt (.var 2) (.c (.int 5)), .cmp .le (.bin .add (.bi .maxl [.var 3]) (.var 18)) (.c (.int 100)), .cmp .ne (.call 2 [.var 2, .lc (.nm 19) [19] (.var 3) [] (.bin .add (.var 19) (.var 18))]) (.var 6)]) [.ret (.c (.bool false))] [], .ret (.call 13 [.var 1, .var 2, .var 3])] }
def T : Tab := { fns := [f_check_ring, f_order_of, f_order, f_last, f_out_at, f_alone, f_last_by_one, f_least_step, f_rhyme_of, f__law_draws, f__law_mix, f__law_order, f__law_fault, f__law_faults, f_law], cls := [("OutOfRange", [0]), ("WrongSize", [1]), ("BadOrder", [2]), ("BadRhyme", [3]), ("BadPerson", [4])], gls := [("MOST_PEOPLE", 60), ("MOST_RHYME", 6), ("MOST_COUNT", 100), ("MOST_ALONE", 1000000), ("MOST_SMALL", 9)] }
def bl : List Str := ["abs", "enumerate", "int", "len", "list", "max", "min", "range", "repr"]
abbrev s_check_ring : Stmt := topS 13
abbrev s_order_of : Stmt := topS 14
abbrev s_order : Stmt := topS 15
abbrev s_last : Stmt := topS 16
abbrev s_out_at : Stmt := topS 17
abbrev s_alone : Stmt := topS 18
abbrev s_last_by_one : Stmt := topS 19
abbrev s_least_step : Stmt := topS 20
abbrev s_rhyme_of : Stmt := topS 21
abbrev s__law_draws : Stmt := topS 23
abbrev s__law_mix : Stmt := topS 24
abbrev s__law_order : Stmt := topS 25
abbrev s__law_fault : Stmt := topS 26
abbrev s__law_faults : Stmt := topS 27
abbrev s_law : Stmt := topS 28
def iniS : Stmt := match topS 1 with
  | .ClassDef (body := [st]) .. => st
  | s => s
theorem ok_check_ring : okBody T bl f_check_ring.N (defScope s_check_ring) f_check_ring.fresh f_check_ring.body (defBody s_check_ring) = true := by decide +kernel
theorem ok_order_of : okBody T bl f_order_of.N (defScope s_order_of) f_order_of.fresh f_order_of.body (defBody s_order_of) = true := by decide +kernel
theorem ok_order : okBody T bl f_order.N (defScope s_order) f_order.fresh f_order.body (defBody s_order) = true := by decide +kernel
theorem ok_last : okBody T bl f_last.N (defScope s_last) f_last.fresh f_last.body (defBody s_last) = true := by decide +kernel
theorem ok_out_at : okBody T bl f_out_at.N (defScope s_out_at) f_out_at.fresh f_out_at.body (defBody s_out_at) = true := by decide +kernel
theorem ok_alone : okBody T bl f_alone.N (defScope s_alone) f_alone.fresh f_alone.body (defBody s_alone) = true := by decide +kernel
theorem ok_last_by_one : okBody T bl f_last_by_one.N (defScope s_last_by_one) f_last_by_one.fresh f_last_by_one.body (defBody s_last_by_one) = true := by decide +kernel
theorem ok_least_step : okBody T bl f_least_step.N (defScope s_least_step) f_least_step.fresh f_least_step.body (defBody s_least_step) = true := by decide +kernel
theorem ok_rhyme_of : okBody T bl f_rhyme_of.N (defScope s_rhyme_of) f_rhyme_of.fresh f_rhyme_of.body (defBody s_rhyme_of) = true := by decide +kernel
theorem ok__law_draws : okBody T bl f__law_draws.N (defScope s__law_draws) f__law_draws.fresh f__law_draws.body (defBody s__law_draws) = true := by decide +kernel
theorem ok__law_mix : okBody T bl f__law_mix.N (defScope s__law_mix) f__law_mix.fresh f__law_mix.body (defBody s__law_mix) = true := by decide +kernel
theorem ok__law_order : okBody T bl f__law_order.N (defScope s__law_order) f__law_order.fresh f__law_order.body (defBody s__law_order) = true := by decide +kernel
theorem ok__law_fault : okBody T bl f__law_fault.N (defScope s__law_fault) f__law_fault.fresh f__law_fault.body (defBody s__law_fault) = true := by decide +kernel
theorem ok__law_faults : okBody T bl f__law_faults.N (defScope s__law_faults) f__law_faults.fresh f__law_faults.body (defBody s__law_faults) = true := by decide +kernel
theorem ok_law : okBody T bl f_law.N (defScope s_law) f_law.fresh f_law.body (defBody s_law) = true := by decide +kernel
end K64

namespace K64
open PySem Z
/-- the last one of a ring of so many -/
def jn (s : Int) : Nat → Int
  | 0 => 0
  | 1 => 0
  | m + 2 => (jn s (m + 1) + s).fmod (m + 2 : Nat)
theorem alone_spec {n : Nat} {p s : Int} (hn : 3 ≤ n) (h1 : 1 ≤ p) (h2 : p ≤ 1000000) : callF T (n + 1) 5 [.int p, .int s] = .ok (.int (jn s p.toNat)) := by
  rw [call_fn hn (f := f_alone) rfl, run_fn (ρ := [.fz (.int p), .fz (.int s), .un, .un]) rfl rfl]
  simp [f_alone]
  have hr : evRng 2 (p + 1) = .ok (.list (rangeL 2 (p + 1))) := if_pos (by omega)
  rw [hr]
  simp
  refine forGo_fin (fun k ρ => ∃ x, ρ = [.fz (.int p), .fz (.int s), .fz (.int (jn s (k + 1))), x]) ⟨_, rfl⟩ (fun k d ρ hd hP => ?_) (fun ρ hP => ?_)
  · obtain ⟨x, rfl⟩ := hP
    have e := rangeL_get hd
    subst e
    unfold stp
    simp
    rw [b_mod (by omega)]
    simp [jn]
    rw [show (2 + (k : Int)) = (k : Int) + 2 by omega]
  · obtain ⟨x, rfl⟩ := hP
    simp
    rw [rangeL_len, show (p + 1 - 2).toNat + 1 = p.toNat by omega]
end K64

namespace K64
open PySem Z
/-! the order, by place -/
def rnum (rh : List Int) (k : Nat) : Nat := (rh.getD (k % rh.length) 0).toNat
def ost (rh : List Int) (p : Nat) : Nat → List Int × Nat × List Int
  | 0 => ((List.range p).map fun (k : Nat) => (k : Int), 0, [])
  | k + 1 =>
    let s := ost rh p k
    let a := (s.2.1 + rnum rh k - 1) % s.1.length
    (s.1.take a ++ s.1.drop (a + 1), a, s.2.2 ++ [s.1.getD a 0])
abbrev oseq (rh : List Int) (p : Nat) : List Int := (ost rh p p).2.2
theorem ost_len (rh : List Int) (p : Nat) : ∀ k, k ≤ p → (ost rh p k).1.length = p - k ∧ (ost rh p k).2.2.length = k
  | 0, _ => by simp [ost]
  | k + 1, h => by
    obtain ⟨h1, h2⟩ := ost_len rh p k (by omega)
    have hm : ((ost rh p k).2.1 + rnum rh k - 1) % (ost rh p k).1.length < (ost rh p k).1.length := Nat.mod_lt _ (by omega)
    refine ⟨?_, by simp [ost, h2]⟩
    show (List.take _ _ ++ List.drop _ _).length = _
    rw [List.length_append, List.length_take, List.length_drop]
    omega
theorem order_of_spec {n : Nat} {p : Int} {rh : List Int} (hn : 3 ≤ n) (h1 : 1 ≤ p) (h2 : p ≤ 1000) (hne : rh ≠ []) (hl : rh.length ≤ 1000) (hr : ∀ r ∈ rh, 1 ≤ r) : callF T (n + 1) 1 [.int p, .list (rh.map .int)] = .ok (.list ((oseq rh p.toNat).map .int)) := by
  rw [call_fn hn (f := f_order_of) rfl, run_fn (ρ := [.fz (.int p), .fz (.list (rh.map .int)), .un, .un, .un, .un]) rfl rfl]
  have hr0 : evRng 0 p = .ok (.list (rangeL 0 p)) := if_pos (by omega)
  have hp : p = (p.toNat : Int) := by omega
  have hlim : LIM = 16777216 := rfl
  simp [f_order_of, hr0]
  refine forGo_fin (fun k ρ => k ≤ p.toNat ∧ ∃ x, ρ = [.fz (.int p), .fz (.list (rh.map .int)), .fz (.list ((ost rh p.toNat k).1.map .int)), .ow (.list ((ost rh p.toNat k).2.2.map .int)), .fz (.int (ost rh p.toNat k).2.1), x]) ⟨by omega, .un, ?_⟩ (fun k d ρ hd hP => ?_) (fun ρ hP => ?_)
  · have z := rangeL_ints p.toNat
    rw [← hp] at z
    rw [z]
    rfl
  · obtain ⟨hk, x, rfl⟩ := hP
    have hlt : k < p.toNat := by
      have := (List.getElem?_eq_some_iff.mp hd).1
      rw [rangeL_len] at this
      omega
    have e := rangeL_get hd
    subst e
    obtain ⟨l1, l2⟩ := ost_len rh p.toNat k (by omega)
    have hlen : 0 < rh.length := List.length_pos_iff.mpr hne
    have hkm : k % rh.length < rh.length := Nat.mod_lt _ hlen
    have hrn : rh.getD (k % rh.length) 0 = ((rnum rh k : Nat) : Int) ∧ 1 ≤ rnum rh k := by
      have hg : rh.getD (k % rh.length) 0 ∈ rh := by
        rw [List.getD_eq_getElem?_getD, List.getElem?_eq_getElem hkm]
        exact List.getElem_mem hkm
      have := hr _ hg
      unfold rnum
      omega
    unfold stp
    simp
    rw [b_mod (by omega)]
    simp
    rw [fmod_nat (by omega) (by omega)]
    simp
    have e1 : evIx (.list (rh.map .int)) (.int ((k : Int) % (rh.length : Int))) = .ok (.int (rnum rh k)) := by
      have z := ix_i (xs := rh) (i := ((k % rh.length : Nat) : Int)) (by omega) (by omega)
      rw [Int.toNat_natCast, hrn.1] at z
      rw [← z]
      simp
    rw [e1]
    simp
    rw [b_mod (by omega), fmod_nat (by omega) (by omega)]
    have ea : ((((ost rh p.toNat k).2.1 : Int) + (rnum rh k : Int) - 1).toNat % ((ost rh p.toNat k).1.length : Int).toNat) = ((ost rh p.toNat k).2.1 + rnum rh k - 1) % (ost rh p.toNat k).1.length := by
      rw [Int.toNat_natCast]
      congr 1
      omega
    rw [ea]
    have hm : ((ost rh p.toNat k).2.1 + rnum rh k - 1) % (ost rh p.toNat k).1.length < (ost rh p.toNat k).1.length := Nat.mod_lt _ (by omega)
    generalize ha : ((ost rh p.toNat k).2.1 + rnum rh k - 1) % (ost rh p.toNat k).1.length = a at hm
    simp
    rw [ix_i (by omega) (by omega)]
    simp
    rw [if_pos (by rw [hlim, l2]; omega)]
    simp
    rw [sl_to (by omega), sl_from (by omega)]
    simp
    have hc := cat_i (xs := (ost rh p.toNat k).1.take a) (ys := (ost rh p.toNat k).1.drop (a + 1)) (by rw [List.length_take, List.length_drop, hlim]; omega)
    rw [List.map_take, List.map_drop] at hc
    rw [hc]
    simp [ost, ha]
    omega
  · obtain ⟨hk, x, rfl⟩ := hP
    simp
    rw [rangeL_len, show (p - 0).toNat = p.toNat by omega]
end K64

namespace K64
open PySem Z
/-- a ring, turned to a place -/
def rt (l : List Int) (a : Nat) : List Int := l.drop a ++ l.take a
theorem rt_len (l : List Int) (a : Nat) : (rt l a).length = l.length := by
  unfold rt
  rw [List.length_append, List.length_drop, List.length_take]
  omega
theorem rt_mod {l : List Int} {a : Nat} (h : a ≤ l.length) (h0 : 0 < l.length) : rt l a = rt l (a % l.length) := by
  by_cases e : a = l.length
  · subst e
    rw [Nat.mod_self]
    unfold rt
    simp
  · rw [Nat.mod_eq_of_lt (by omega)]
theorem rt_turn {l : List Int} {b : Nat} (h : b < l.length) : (rt l b).drop 1 ++ (rt l b).take 1 = rt l ((b + 1) % l.length) := by
  rw [← rt_mod (by omega) (by omega)]
  unfold rt
  rw [List.drop_eq_getElem_cons h]
  simp only [List.cons_append, List.drop_succ_cons, List.drop_zero, List.take_succ_cons, List.take_zero]
  rw [List.append_assoc, List.take_append_getElem h]
theorem rt_head {l : List Int} {a : Nat} (h : a < l.length) : (rt l a)[0]? = some (l.getD a 0) := by
  unfold rt
  rw [List.drop_eq_getElem_cons h, List.getD_eq_getElem?_getD, List.getElem?_eq_getElem h]
  rfl
theorem rt_out {l : List Int} {a : Nat} (h : a < l.length) : (rt l a).drop 1 = rt (l.take a ++ l.drop (a + 1)) a := by
  have h1 : (l.take a).length = a := by rw [List.length_take]; omega
  have e1 : (l.take a ++ l.drop (a + 1)).drop a = l.drop (a + 1) := List.drop_left' h1
  have e2 : (l.take a ++ l.drop (a + 1)).take a = l.take a := List.take_left' h1
  unfold rt
  rw [e1, e2, List.drop_eq_getElem_cons h]
  rfl
theorem ost_at (rh : List Int) (p : Nat) : ∀ k, k ≤ p → (ost rh p k).2.1 ≤ (ost rh p k).1.length
  | 0, _ => by simp [ost]
  | k + 1, h => by
    obtain ⟨l1, _⟩ := ost_len rh p k (by omega)
    obtain ⟨l2, _⟩ := ost_len rh p (k + 1) h
    rw [l2]
    have hm : ((ost rh p k).2.1 + rnum rh k - 1) % (ost rh p k).1.length < (ost rh p k).1.length := Nat.mod_lt _ (by omega)
    show ((ost rh p k).2.1 + rnum rh k - 1) % (ost rh p k).1.length ≤ _
    omega
theorem law_order_spec {n : Nat} {p : Int} {rh : List Int} (hn : 3 ≤ n) (h1 : 1 ≤ p) (h2 : p ≤ 1000) (hne : rh ≠ []) (hl : rh.length ≤ 1000) (hr : ∀ r ∈ rh, 1 ≤ r ∧ r ≤ 1000) : callF T (n + 1) 11 [.int p, .list (rh.map .int)] = .ok (.list ((oseq rh p.toNat).map .int)) := by
  rw [call_fn hn (f := f__law_order) rfl, run_fn (ρ := [.fz (.int p), .fz (.list (rh.map .int)), .un, .un, .un, .un]) rfl rfl]
  have hr0 : evRng 0 p = .ok (.list (rangeL 0 p)) := if_pos (by omega)
  have hp : p = (p.toNat : Int) := by omega
  have hlim : LIM = 16777216 := rfl
  have hrg := rangeL_ints p.toNat
  rw [← hp] at hrg
  simp [f__law_order, hr0]
  refine whl_fin (fun k ρ => k ≤ p.toNat ∧ ∃ x, ρ = [.fz (.int p), .fz (.list (rh.map .int)), .fz (.list ((rt (ost rh p.toNat k).1 (ost rh p.toNat k).2.1).map .int)), .ow (.list ((ost rh p.toNat k).2.2.map .int)), .fz (.int k), x]) p.toNat (by omega) ⟨by omega, .un, ?_⟩ (fun k ρ hlt hP => ?_) (fun ρ hP => ?_) (fun ρ hP => ?_)
  · rw [hrg]
    simp [ost, rt]
  · obtain ⟨hk, x, rfl⟩ := hP
    obtain ⟨l1, l2⟩ := ost_len rh p.toNat k hk
    have hat := ost_at rh p.toNat k hk
    have hlen : 0 < rh.length := List.length_pos_iff.mpr hne
    have hkm : k % rh.length < rh.length := Nat.mod_lt _ hlen
    have hrn : rh.getD (k % rh.length) 0 = ((rnum rh k : Nat) : Int) ∧ 1 ≤ rnum rh k ∧ rnum rh k ≤ 1000 := by
      have hg : rh.getD (k % rh.length) 0 ∈ rh := by
        rw [List.getD_eq_getElem?_getD, List.getElem?_eq_getElem hkm]
        exact List.getElem_mem hkm
      have := hr _ hg
      unfold rnum
      omega
    refine ⟨?_, ?_⟩
    · unfold cnd
      simp
      have z := c_neL (rt (ost rh p.toNat k).1 (ost rh p.toNat k).2.1) []
      rw [List.map_nil] at z
      rw [z]
      simp
      intro z
      have := congrArg List.length z
      rw [rt_len, l1] at this
      simp at this
      omega
    · simp
      rw [b_mod (by omega), fmod_nat (by omega) (by omega)]
      simp
      have e1 : evIx (.list (rh.map .int)) (.int ((k : Int) % (rh.length : Int))) = .ok (.int (rnum rh k)) := by
        have z := ix_i (xs := rh) (i := ((k % rh.length : Nat) : Int)) (by omega) (by omega)
        rw [Int.toNat_natCast, hrn.1] at z
        rw [← z]
        simp
      rw [e1]
      simp
      rw [show evRng 0 ((rnum rh k : Int) - 1) = .ok (.list (rangeL 0 ((rnum rh k : Int) - 1))) from if_pos (by omega)]
      simp
      refine Nx_seq (forGo_nx (fun j ρ => j ≤ rnum rh k - 1 ∧ ∃ x, ρ = [.fz (.int p), .fz (.list (rh.map .int)), .fz (.list ((rt (ost rh p.toNat k).1 (((ost rh p.toNat k).2.1 + j) % (ost rh p.toNat k).1.length)).map .int)), .ow (.list ((ost rh p.toNat k).2.2.map .int)), .fz (.int k), x]) ⟨by omega, x, ?_⟩ (fun j d ρ hd hP => ?_)) (fun ρ hP => ?_)
      · rw [Nat.add_zero, ← rt_mod hat (by omega)]
      · obtain ⟨hj, y, rfl⟩ := hP
        have hjl : j < rnum rh k - 1 := by
          have := (List.getElem?_eq_some_iff.mp hd).1
          rw [rangeL_len] at this
          omega
        have hm : ((ost rh p.toNat k).2.1 + j) % (ost rh p.toNat k).1.length < (ost rh p.toNat k).1.length := Nat.mod_lt _ (by omega)
        unfold stp
        simp
        rw [sl_to (by omega), sl_from (by omega)]
        simp
        have hc := cat_i (xs := (rt (ost rh p.toNat k).1 (((ost rh p.toNat k).2.1 + j) % (ost rh p.toNat k).1.length)).drop 1) (ys := (rt (ost rh p.toNat k).1 (((ost rh p.toNat k).2.1 + j) % (ost rh p.toNat k).1.length)).take 1) (by rw [List.length_take, List.length_drop, rt_len, hlim]; omega)
        rw [rt_turn hm, Nat.mod_add_mod, List.map_drop, List.map_take] at hc
        first
          | rw [hc]
          | (simp at hc ⊢; rw [hc])
        simp
        exact ⟨by omega, by rw [Nat.add_assoc]⟩
      · obtain ⟨hj, y, rfl⟩ := hP
        rw [rangeL_len, show ((rnum rh k : Int) - 1 - 0).toNat = rnum rh k - 1 by omega, show (ost rh p.toNat k).2.1 + (rnum rh k - 1) = (ost rh p.toNat k).2.1 + rnum rh k - 1 by omega]
        have hm : ((ost rh p.toNat k).2.1 + rnum rh k - 1) % (ost rh p.toNat k).1.length < (ost rh p.toNat k).1.length := Nat.mod_lt _ (by omega)
        generalize ha : ((ost rh p.toNat k).2.1 + rnum rh k - 1) % (ost rh p.toNat k).1.length = a at hm
        simp
        have e2 := ix_l (xs := (rt (ost rh p.toNat k).1 a).map .int) (i := 0) (d := .int ((ost rh p.toNat k).1.getD a 0)) (by rw [List.getElem?_map, rt_head hm]; rfl)
        rw [show ((0 : Nat) : Int) = 0 from rfl] at e2
        rw [e2]
        simp
        rw [if_pos (by rw [hlim, l2]; omega)]
        simp
        rw [sl_from (by omega)]
        simp
        have e3 : (rt (ost rh p.toNat k).1 a).drop 1 = rt (ost rh p.toNat (k + 1)).1 (ost rh p.toNat (k + 1)).2.1 := by
          rw [rt_out hm]
          simp [ost, ha]
        first
          | rw [← List.drop_one] 
          | skip
        rw [show List.drop 1 (List.map PyData.int (rt (ost rh p.toNat k).1 a)) = List.map PyData.int (List.drop 1 (rt (ost rh p.toNat k).1 a)) from List.map_drop.symm, e3]
        simp [ost, ha]
        omega
  · obtain ⟨hk, x, rfl⟩ := hP
    obtain ⟨l1, l2⟩ := ost_len rh p.toNat p.toNat hk
    have hz : rt (ost rh p.toNat p.toNat).1 (ost rh p.toNat p.toNat).2.1 = [] := List.eq_nil_of_length_eq_zero (by rw [rt_len, l1]; omega)
    unfold cnd
    simp [hz]
    have z := c_neL [] []
    rw [List.map_nil] at z
    rw [z]
    simp
  · obtain ⟨hk, x, rfl⟩ := hP
    simp
end K64

namespace K64
open PySem Z
@[simp] theorem gsv : T.gls.map (fun x => x.2) = [60, 6, 100, 1000000, 9] := rfl
theorem lim_eq : LIM = 16777216 := rfl
/-! the check -/
theorem check_range {n : Nat} {p : Int} {d : D} (hn : 3 ≤ n) (h : p < 1 ∨ 60 < p) : callF T (n + 1) 0 [.int p, d] = .er 0 p := by
  rw [call_fn hn (f := f_check_ring) rfl, run_fn (ρ := [.fz (.int p), .fz d, .un, .un]) rfl rfl]
  by_cases h1 : 1 ≤ p
  · have h2 : ¬ p ≤ 60 := by omega
    simp [f_check_ring, h1, h2]
  · simp [f_check_ring, h1]
theorem check_nil {n : Nat} {p : Int} (hn : 3 ≤ n) (h1 : 1 ≤ p) (h2 : p ≤ 60) : callF T (n + 1) 0 [.int p, .list []] = .er 3 0 := by
  rw [call_fn hn (f := f_check_ring) rfl, run_fn (ρ := [.fz (.int p), .fz (.list []), .un, .un]) rfl rfl]
  simp [f_check_ring, h1, h2]
theorem enum_get {xs : List Int} {i : Nat} {d : D} (h : (enumL 0 (xs.map .int))[i]? = some d) : ∃ x, xs[i]? = some x ∧ d = .tuple [.int i, .int x] := by
  obtain ⟨y, h1, h2⟩ := enumL_get h
  rw [List.getElem?_map] at h1
  obtain ⟨x, h3, h4⟩ := Option.map_eq_some_iff.mp h1
  subst h4
  exact ⟨x, h3, by rw [h2, Int.zero_add]⟩
theorem enum_at {xs : List Int} {i : Nat} {x : Int} (h : xs[i]? = some x) : (enumL 0 (xs.map .int))[i]? = some (.tuple [.int i, .int x]) := by
  have hl : i < (enumL 0 (xs.map PyData.int)).length := by
    rw [enumL_len, List.length_map]
    exact (List.getElem?_eq_some_iff.mp h).1
  obtain ⟨y, h1, h2⟩ := enum_get (List.getElem?_eq_getElem hl)
  rw [h] at h1
  cases h1
  rw [List.getElem?_eq_getElem hl, h2]
theorem check_bad {n : Nat} {p : Int} {rh : List Int} {k : Nat} {r : Int} (hn : 3 ≤ n) (h1 : 1 ≤ p) (h2 : p ≤ 60) (hk : k < 6) (hr : rh[k]? = some r) (hbad : r < 1 ∨ 100 < r) (ok : ∀ j r, j < k → rh[j]? = some r → 1 ≤ r ∧ r ≤ 100) : callF T (n + 1) 0 [.int p, .list (rh.map .int)] = .er 3 k := by
  rw [call_fn hn (f := f_check_ring) rfl, run_fn (ρ := [.fz (.int p), .fz (.list (rh.map .int)), .un, .un]) rfl rfl]
  have hl : rh.length ≠ 0 := by
    have := (List.getElem?_eq_some_iff.mp hr).1
    omega
  have hl' : ¬ (rh.length : Int) = 0 := by omega
  have hne : rh ≠ [] := fun z => hl (by rw [z]; rfl)
  simp [f_check_ring, h1, h2, hne]
  rw [sl_to (by omega)]
  simp
  rw [← List.map_take]
  have ht : (rh.take 6)[k]? = some r := by
    rw [List.getElem?_take_of_lt hk]
    exact hr
  rw [forGo_er (fun j ρ => ∃ x y, ρ = [.fz (.int p), .fz (.list (rh.map .int)), x, y]) k _ (enum_at ht) ⟨_, _, rfl⟩ (fun j d ρ hj hd hP => ?_) (fun ρ hP => ?_)]
  · rfl
  · obtain ⟨x, y, rfl⟩ := hP
    obtain ⟨z, hz, rfl⟩ := enum_get hd
    rw [List.getElem?_take_of_lt (by omega)] at hz
    obtain ⟨g1, g2⟩ := ok j z hj hz
    unfold stp
    simp [g1, g2]
  · obtain ⟨x, y, rfl⟩ := hP
    unfold stp
    by_cases g1 : 1 ≤ r
    · have g2 : ¬ r ≤ 100 := by omega
      simp [g1, g2]
    · simp [g1]
theorem check_six {n : Nat} {p : Int} {rh : List Int} (hn : 3 ≤ n) (h1 : 1 ≤ p) (h2 : p ≤ 60) (hne : rh ≠ []) (ok : ∀ j r, j < 6 → rh[j]? = some r → 1 ≤ r ∧ r ≤ 100) : callF T (n + 1) 0 [.int p, .list (rh.map .int)] = if 6 < rh.length then .er 3 6 else .ok .none := by
  rw [call_fn hn (f := f_check_ring) rfl, run_fn (ρ := [.fz (.int p), .fz (.list (rh.map .int)), .un, .un]) rfl rfl]
  simp [f_check_ring, h1, h2, hne]
  rw [sl_to (by omega)]
  simp
  rw [← List.map_take]
  refine forGo_fin (fun j ρ => ∃ x y, ρ = [.fz (.int p), .fz (.list (rh.map .int)), x, y]) ⟨_, _, rfl⟩ (fun j d ρ hd hP => ?_) (fun ρ hP => ?_)
  · obtain ⟨x, y, rfl⟩ := hP
    obtain ⟨z, hz, rfl⟩ := enum_get hd
    have hj := (List.getElem?_eq_some_iff.mp hz).1
    rw [List.length_take] at hj
    rw [List.getElem?_take_of_lt (by omega)] at hz
    obtain ⟨g1, g2⟩ := ok j z (by omega) hz
    unfold stp
    simp [g1, g2]
  · obtain ⟨x, y, rfl⟩ := hP
    by_cases h : 6 < rh.length
    · have h' : (6 : Int) < rh.length := by omega
      simp [h, h']
    · have h' : ¬ (6 : Int) < rh.length := by omega
      simp [h, h']
/-- a ring as it has to be -/
structure Ok (p : Int) (rh : List Int) : Prop where
  p1 : 1 ≤ p
  p2 : p ≤ 60
  ne : rh ≠ []
  le : rh.length ≤ 6
  r : ∀ r ∈ rh, 1 ≤ r ∧ r ≤ 100
theorem check_ok {n : Nat} {p : Int} {rh : List Int} (hn : 3 ≤ n) (o : Ok p rh) : callF T (n + 1) 0 [.int p, .list (rh.map .int)] = .ok .none := by
  rw [check_six hn o.p1 o.p2 o.ne fun j r _ h => o.r r (List.mem_of_getElem? h), if_neg (by have := o.le; omega)]
theorem order_ok {n : Nat} {p : Int} {rh : List Int} (hn : 4 ≤ n) (o : Ok p rh) : callF T (n + 1) 2 [.int p, .list (rh.map .int)] = .ok (.list ((oseq rh p.toNat).map .int)) := by
  obtain ⟨n, rfl⟩ : ∃ m, n = m + 1 := ⟨n - 1, by omega⟩
  rw [call_fn (by omega) (f := f_order) rfl, run_fn (ρ := [.fz (.int p), .fz (.list (rh.map .int))]) rfl rfl]
  have h1 := check_ok (n := n) (by omega) o
  have h2 := order_of_spec (n := n) (by omega) o.p1 (by have := o.p2; omega) o.ne (by have := o.le; omega) fun r hr => (o.r r hr).1
  simp [f_order, h1, h2]
theorem order_er {n : Nat} {d1 d2 : D} {c : Nat} {v : Int} (hn : 4 ≤ n) (h : callF T n 0 [d1, d2] = .er c v) : callF T (n + 1) 2 [d1, d2] = .er c v := by
  rw [call_fn (by omega) (f := f_order) rfl, run_fn (ρ := [.fz d1, .fz d2]) rfl rfl]
  simp [f_order, h]
theorem oseq_len (rh : List Int) (p : Nat) : (oseq rh p).length = p := (ost_len rh p p (Nat.le_refl _)).2
theorem ix_last {xs : List Int} {x : Int} (h : xs.getLast? = some x) : evIx (.list (xs.map .int)) (.int (-1)) = .ok (.int x) := by
  have hne : xs ≠ [] := fun z => by rw [z] at h; cases h
  have hl : 0 < xs.length := List.length_pos_iff.mpr hne
  rw [List.getLast?_eq_getElem?] at h
  have e : place (xs.map PyData.int).length (-1) = some (xs.length - 1) := by
    unfold place
    rw [if_neg (by omega), if_pos (by rw [List.length_map]; omega), List.length_map]
    congr 1
    omega
  show (match (place (xs.map PyData.int).length (-1)).bind fun j => (xs.map PyData.int)[j]? with
    | some d => Rs.ok d
    | none => Rs.bad) = _
  rw [e]
  show (match (xs.map PyData.int)[xs.length - 1]? with
    | some d => Rs.ok d
    | none => Rs.bad) = _
  rw [List.getElem?_map, h]
  rfl
theorem last_ok {n : Nat} {p : Int} {rh : List Int} {x : Int} (hn : 5 ≤ n) (o : Ok p rh) (h : (oseq rh p.toNat).getLast? = some x) : callF T (n + 1) 3 [.int p, .list (rh.map .int)] = .ok (.int x) := by
  obtain ⟨n, rfl⟩ : ∃ m, n = m + 1 := ⟨n - 1, by omega⟩
  rw [call_fn (by omega) (f := f_last) rfl, run_fn (ρ := [.fz (.int p), .fz (.list (rh.map .int))]) rfl rfl]
  have h1 := order_ok (n := n) (by omega) o
  have h2 := ix_last h
  simp [f_last, h1, h2]
theorem last_er {n : Nat} {d1 d2 : D} {c : Nat} {v : Int} (hn : 5 ≤ n) (h : callF T n 2 [d1, d2] = .er c v) : callF T (n + 1) 3 [d1, d2] = .er c v := by
  rw [call_fn (by omega) (f := f_last) rfl, run_fn (ρ := [.fz d1, .fz d2]) rfl rfl]
  simp [f_last, h]
theorem out_ok {n : Nat} {p q : Int} {rh : List Int} (hn : 5 ≤ n) (o : Ok p rh) (h0 : 0 ≤ q) (h1 : q < p) (h : q ∈ oseq rh p.toNat) : callF T (n + 1) 4 [.int p, .list (rh.map .int), .int q] = .ok (.int ((oseq rh p.toNat).idxOf q : Nat)) := by
  obtain ⟨n, rfl⟩ : ∃ m, n = m + 1 := ⟨n - 1, by omega⟩
  rw [call_fn (by omega) (f := f_out_at) rfl, run_fn (ρ := [.fz (.int p), .fz (.list (rh.map .int)), .fz (.int q), .un]) rfl rfl]
  have h3 := order_ok (n := n) (by omega) o
  have h2 := index_i h
  simp [f_out_at, h3, h0, h1, h2]
theorem out_person {n : Nat} {p q : Int} {rh : List Int} (hn : 5 ≤ n) (o : Ok p rh) (h : q < 0 ∨ p ≤ q) : callF T (n + 1) 4 [.int p, .list (rh.map .int), .int q] = .er 4 q := by
  obtain ⟨n, rfl⟩ : ∃ m, n = m + 1 := ⟨n - 1, by omega⟩
  rw [call_fn (by omega) (f := f_out_at) rfl, run_fn (ρ := [.fz (.int p), .fz (.list (rh.map .int)), .fz (.int q), .un]) rfl rfl]
  have h3 := order_ok (n := n) (by omega) o
  by_cases h0 : 0 ≤ q
  · have h1 : ¬ q < p := by omega
    simp [f_out_at, h3, h0, h1]
  · simp [f_out_at, h3, h0]
theorem out_er {n : Nat} {d1 d2 d3 : D} {c : Nat} {v : Int} (hn : 5 ≤ n) (h : callF T n 2 [d1, d2] = .er c v) : callF T (n + 1) 4 [d1, d2, d3] = .er c v := by
  rw [call_fn (by omega) (f := f_out_at) rfl, run_fn (ρ := [.fz d1, .fz d2, .fz d3, .un]) rfl rfl]
  simp [f_out_at, h]
theorem by_one_ok {n : Nat} {p s : Int} (hn : 4 ≤ n) (h1 : 1 ≤ p) (h2 : p ≤ 1000000) (h3 : 1 ≤ s) (h4 : s ≤ 1000000) : callF T (n + 1) 6 [.int p, .int s] = .ok (.int (jn s p.toNat)) := by
  obtain ⟨n, rfl⟩ : ∃ m, n = m + 1 := ⟨n - 1, by omega⟩
  rw [call_fn (by omega) (f := f_last_by_one) rfl, run_fn (ρ := [.fz (.int p), .fz (.int s), .un]) rfl rfl]
  have h5 := alone_spec (n := n) (s := s) (by omega) h1 h2
  simp [f_last_by_one, forGo, stp, lim_eq, h1, h2, h3, h4, h5]
theorem by_one_p {n : Nat} {p : Int} {d : D} (hn : 4 ≤ n) (h : p < 1 ∨ 1000000 < p) : callF T (n + 1) 6 [.int p, d] = .er 0 p := by
  rw [call_fn (by omega) (f := f_last_by_one) rfl, run_fn (ρ := [.fz (.int p), .fz d, .un]) rfl rfl]
  by_cases h0 : 1 ≤ p
  · have h1 : ¬ p ≤ 1000000 := by omega
    simp [f_last_by_one, forGo, stp, lim_eq, h0, h1]
  · simp [f_last_by_one, forGo, stp, lim_eq, h0]
theorem by_one_s {n : Nat} {p s : Int} (hn : 4 ≤ n) (h1 : 1 ≤ p) (h2 : p ≤ 1000000) (h : s < 1 ∨ 1000000 < s) : callF T (n + 1) 6 [.int p, .int s] = .er 0 s := by
  rw [call_fn (by omega) (f := f_last_by_one) rfl, run_fn (ρ := [.fz (.int p), .fz (.int s), .un]) rfl rfl]
  by_cases h0 : 1 ≤ s
  · have h3 : ¬ s ≤ 1000000 := by omega
    simp [f_last_by_one, forGo, stp, lim_eq, h0, h1, h2, h3]
  · simp [f_last_by_one, forGo, stp, lim_eq, h0, h1, h2]
end K64

namespace K64
open PySem Z
/-! who is in -/
theorem out_perm {l f : List Int} {a : Nat} (h : a < l.length) : (l.take a ++ l.drop (a + 1)) ++ (f ++ [l.getD a 0]) |>.Perm (l ++ f) := by
  have e : l.getD a 0 = l[a] := by rw [List.getD_eq_getElem?_getD, List.getElem?_eq_getElem h]; rfl
  rw [e]
  have h1 : l.Perm (l[a] :: (l.take a ++ l.drop (a + 1))) := by
    have : l = l.take a ++ (l[a] :: l.drop (a + 1)) := by
      rw [← List.drop_eq_getElem_cons h, List.take_append_drop]
    exact (List.Perm.of_eq this).trans List.perm_middle
  refine List.Perm.symm ((List.Perm.append_right f h1).trans ?_)
  rw [List.cons_append]
  refine List.perm_middle.symm.trans ?_
  rw [show (l.take a ++ l.drop (a + 1)) ++ (l[a] :: f) = (l.take a ++ l.drop (a + 1)) ++ ([l[a]] ++ f) from rfl]
  exact List.Perm.append_left _ List.perm_append_comm
abbrev rg (p : Nat) : List Int := (List.range p).map fun (k : Nat) => (k : Int)
theorem ost_perm (rh : List Int) (p : Nat) : ∀ k, k ≤ p → ((ost rh p k).1 ++ (ost rh p k).2.2).Perm (rg p)
  | 0, _ => by simp [ost, rg]
  | k + 1, h => by
    obtain ⟨l1, _⟩ := ost_len rh p k (by omega)
    have hm : ((ost rh p k).2.1 + rnum rh k - 1) % (ost rh p k).1.length < (ost rh p k).1.length := Nat.mod_lt _ (by omega)
    exact (out_perm hm).trans (ost_perm rh p k (by omega))
theorem rg_mem {p : Nat} {q : Int} : q ∈ rg p ↔ 0 ≤ q ∧ q < p := by
  simp only [rg, List.mem_map, List.mem_range]
  constructor
  · rintro ⟨a, h, rfl⟩
    omega
  · intro ⟨h1, h2⟩
    exact ⟨q.toNat, by omega, by omega⟩
theorem rg_nodup (p : Nat) : (rg p).Nodup := by
  unfold rg
  rw [List.nodup_iff_pairwise_ne, List.pairwise_map]
  refine List.Pairwise.imp ?_ List.nodup_range
  intro a b h e
  exact h (by omega)
theorem oseq_perm (rh : List Int) (p : Nat) : (oseq rh p).Perm (rg p) := by
  have h := ost_perm rh p p (Nat.le_refl _)
  have e : (ost rh p p).1 = [] := List.eq_nil_of_length_eq_zero (by rw [(ost_len rh p p (Nat.le_refl _)).1]; omega)
  rw [e] at h
  exact h
theorem oseq_mem {rh : List Int} {p : Nat} {q : Int} : q ∈ oseq rh p ↔ 0 ≤ q ∧ q < p := (oseq_perm rh p).mem_iff.trans rg_mem
theorem oseq_nodup (rh : List Int) (p : Nat) : (oseq rh p).Nodup := (oseq_perm rh p).nodup_iff.mpr (rg_nodup p)
theorem left_nodup (rh : List Int) {p k : Nat} (h : k ≤ p) : (ost rh p k).1.Nodup := (List.nodup_append.mp ((ost_perm rh p k h).nodup_iff.mpr (rg_nodup p))).1
/-! the last one, for one number -/
def jnN (s : Nat) : Nat → Nat
  | 0 => 0
  | 1 => 0
  | m + 2 => (jnN s (m + 1) + s) % (m + 2)
theorem jn_nat (s : Nat) : ∀ m, jn s m = (jnN s m : Nat)
  | 0 => rfl
  | 1 => rfl
  | m + 2 => by
    show (jn s (m + 1) + s).fmod ((m + 2 : Nat) : Int) = _
    rw [jn_nat s (m + 1), fmod_nat (by omega) (by omega)]
    show (((((jnN s (m + 1) : Nat) : Int) + (s : Int)).toNat % ((m + 2 : Nat) : Int).toNat : Nat) : Int) = (((jnN s (m + 1) + s) % (m + 2) : Nat) : Int)
    rw [Int.toNat_natCast, show (((jnN s (m + 1) : Nat) : Int) + (s : Int)).toNat = jnN s (m + 1) + s by omega]
theorem jnN_lt (s : Nat) : ∀ m, 1 ≤ m → jnN s m < m
  | 1, _ => Nat.zero_lt_one
  | m + 2, _ => Nat.mod_lt _ (by omega)
theorem out_get {l : List Int} {b j : Nat} (hb : b < l.length) (hj : j + 1 < l.length) : (l.take b ++ l.drop (b + 1))[(b + j) % (l.length - 1)]? = l[(b + 1 + j) % l.length]? := by
  have h1 : (l.take b).length = b := by rw [List.length_take]; omega
  by_cases h : b + j < l.length - 1
  · rw [Nat.mod_eq_of_lt h, Nat.mod_eq_of_lt (by omega), List.getElem?_append_right (by omega), h1, List.getElem?_drop]
    congr 1
    omega
  · have e1 : (b + j) % (l.length - 1) = b + j - (l.length - 1) := by
      rw [Nat.mod_eq_sub_mod (by omega), Nat.mod_eq_of_lt (by omega)]
    have e2 : (b + 1 + j) % l.length = b + j - (l.length - 1) := by
      rw [Nat.mod_eq_sub_mod (by omega), Nat.mod_eq_of_lt (by omega)]
      omega
    rw [e1, e2, List.getElem?_append_left (by omega), List.getElem?_take_of_lt (by omega)]
theorem rnum_one (s k : Nat) : rnum [(s : Int)] k = s := by
  unfold rnum
  simp [Nat.mod_one]
theorem last_at (s p : Nat) (hs : 1 ≤ s) : ∀ m k, k + m = p → 1 ≤ m → (oseq [(s : Int)] p).getLast? = (ost [(s : Int)] p k).1[((ost [(s : Int)] p k).2.1 + jnN s m) % m]?
  | 1, k, e, _ => by
    subst e
    obtain ⟨l1, _⟩ := ost_len [(s : Int)] (k + 1) k (by omega)
    have hl : (ost [(s : Int)] (k + 1) k).1.length = 1 := by omega
    show ((ost [(s : Int)] (k + 1) k).2.2 ++ [(ost [(s : Int)] (k + 1) k).1.getD (((ost [(s : Int)] (k + 1) k).2.1 + rnum [(s : Int)] k - 1) % (ost [(s : Int)] (k + 1) k).1.length) 0]).getLast? = _
    rw [List.getLast?_concat, hl, Nat.mod_one, Nat.mod_one, List.getD_eq_getElem?_getD, List.getElem?_eq_getElem (by omega)]
    rfl
  | m + 2, k, e, _ => by
    obtain ⟨l1, _⟩ := ost_len [(s : Int)] p k (by omega)
    have hl : (ost [(s : Int)] p k).1.length = m + 2 := by omega
    have ih := last_at s p hs (m + 1) (k + 1) (by omega) (by omega)
    have hb : ((ost [(s : Int)] p k).2.1 + rnum [(s : Int)] k - 1) % (ost [(s : Int)] p k).1.length < (ost [(s : Int)] p k).1.length := Nat.mod_lt _ (by omega)
    have hj := jnN_lt s (m + 1) (by omega)
    have og := out_get (j := jnN s (m + 1)) hb (by omega)
    rw [ih]
    show ((ost [(s : Int)] p k).1.take (((ost [(s : Int)] p k).2.1 + rnum [(s : Int)] k - 1) % (ost [(s : Int)] p k).1.length) ++ (ost [(s : Int)] p k).1.drop (((ost [(s : Int)] p k).2.1 + rnum [(s : Int)] k - 1) % (ost [(s : Int)] p k).1.length + 1))[((((ost [(s : Int)] p k).2.1 + rnum [(s : Int)] k - 1) % (ost [(s : Int)] p k).1.length) + jnN s (m + 1)) % (m + 1)]? = _
    rw [show m + 1 = (ost [(s : Int)] p k).1.length - 1 by omega] at og ⊢
    rw [og, rnum_one]
    congr 1
    rw [hl]
    show (((ost [(s : Int)] p k).2.1 + s - 1) % (m + 2) + 1 + jnN s (m + 2 - 1)) % (m + 2) = ((ost [(s : Int)] p k).2.1 + (jnN s (m + 1) + s) % (m + 2)) % (m + 2)
    rw [Nat.add_mod_mod, show (((ost [(s : Int)] p k).2.1 + s - 1) % (m + 2) + 1 + jnN s (m + 2 - 1)) = (((ost [(s : Int)] p k).2.1 + s - 1) % (m + 2)) + (1 + jnN s (m + 1)) from by rw [Nat.add_assoc]; rfl, Nat.mod_add_mod]
    congr 1
    omega
theorem last_jn {s : Int} {p : Nat} (hs : 1 ≤ s) (hp : 1 ≤ p) : (oseq [s] p).getLast? = some (jn s p) := by
  obtain ⟨t, rfl⟩ := Int.eq_ofNat_of_zero_le (show 0 ≤ s by omega)
  rw [last_at t p (by omega) p 0 (by omega) hp, jn_nat]
  have h := jnN_lt t p hp
  show (rg p)[(0 + jnN t p) % p]? = _
  rw [Nat.zero_add, Nat.mod_eq_of_lt h]
  simp [rg, h]
theorem jn_one : ∀ m, 1 ≤ m → jnN 1 m = m - 1
  | 1, _ => rfl
  | m + 2, _ => by
    show (jnN 1 (m + 1) + 1) % (m + 2) = _
    rw [jn_one (m + 1) (by omega), Nat.mod_eq_of_lt (by omega)]
    omega
theorem jn_two : ∀ (n t l : Nat), n = 2 ^ t + l → l < 2 ^ t → jnN 2 n = 2 * l
  | 0, t, l, h, hl => by
    have := Nat.two_pow_pos t
    omega
  | 1, t, l, h, hl => by
    have := Nat.two_pow_pos t
    have : l = 0 := by omega
    subst this
    rfl
  | m + 2, t, l, h, hl => by
    show (jnN 2 (m + 1) + 2) % (m + 2) = _
    cases l with
    | zero =>
      cases t with
      | zero => simp at h
      | succ t =>
        have e : 2 ^ (t + 1) = 2 * 2 ^ t := by rw [Nat.pow_succ]; omega
        have hp := Nat.two_pow_pos t
        rw [jn_two (m + 1) t (2 ^ t - 1) (by omega) (by omega)]
        have : 2 * (2 ^ t - 1) + 2 = m + 2 := by omega
        rw [this, Nat.mod_self]
    | succ l =>
      rw [jn_two (m + 1) t l (by omega) (by omega), Nat.mod_eq_of_lt (by omega)]
      omega
end K64

namespace K64
open PySem Z
/-! the least number -/
theorem least_range {n : Nat} {p : Int} {d : D} (hn : 3 ≤ n) (h : p < 1 ∨ 9 < p) : callF T (n + 1) 7 [.int p, d] = .er 0 p := by
  rw [call_fn hn (f := f_least_step) rfl, run_fn (ρ := [.fz (.int p), .fz d, .un]) rfl rfl]
  by_cases h1 : 1 ≤ p
  · have h2 : ¬ p ≤ 9 := by omega
    simp [f_least_step, h1, h2]
  · simp [f_least_step, h1]
theorem least_person {n : Nat} {p q : Int} (hn : 3 ≤ n) (h1 : 1 ≤ p) (h2 : p ≤ 9) (h : q < 0 ∨ p ≤ q) : callF T (n + 1) 7 [.int p, .int q] = .er 4 q := by
  rw [call_fn hn (f := f_least_step) rfl, run_fn (ρ := [.fz (.int p), .fz (.int q), .un]) rfl rfl]
  by_cases h3 : 0 ≤ q
  · have h4 : ¬ q < p := by omega
    simp [f_least_step, h1, h2, h3, h4]
  · simp [f_least_step, h1, h2, h3]
theorem least_ok {n : Nat} {p q : Int} {m : Nat} (hn : 4 ≤ n) (h1 : 1 ≤ p) (h2 : p ≤ 9) (h3 : 0 ≤ q) (h4 : q < p) (hm : 1 ≤ m) (hm2 : m ≤ 1000) (he : jn m p.toNat = q) (hl : ∀ j : Nat, 1 ≤ j → j < m → jn j p.toNat ≠ q) : callF T (n + 1) 7 [.int p, .int q] = .ok (.int m) := by
  obtain ⟨n, rfl⟩ : ∃ m, n = m + 1 := ⟨n - 1, by omega⟩
  rw [call_fn (by omega) (f := f_least_step) rfl, run_fn (ρ := [.fz (.int p), .fz (.int q), .un]) rfl rfl]
  simp [f_least_step, h1, h2, h3, h4]
  have ha : ∀ s : Int, callF T (n + 1) 5 [.int p, .int s] = .ok (.int (jn s p.toNat)) := fun s => alone_spec (by omega) h1 (by omega)
  refine whl_fin (fun k ρ => ρ = [.fz (.int p), .fz (.int q), .fz (.int ((k + 1 : Nat) : Int))]) (m - 1) (by omega) rfl (fun k ρ hk hP => ?_) (fun ρ hP => ?_) (fun ρ hP => ?_)
  · subst hP
    have hne := hl (k + 1) (by omega) (by omega)
    refine ⟨?_, ?_⟩
    · unfold cnd
      simp only [y_cmp, y_call, z_cons, z_nil, y_var, at_z, at_s, Rs.bind_ok, ha, c_ne, tr_b]
      rw [decide_eq_false hne]
      rfl
    · simp
  · subst hP
    unfold cnd
    simp only [y_cmp, y_call, z_cons, z_nil, y_var, at_z, at_s, Rs.bind_ok, ha, c_ne, tr_b]
    rw [show m - 1 + 1 = m by omega, he]
    simp
  · subst hP
    simp
    omega
/-! the numbers of an order -/
def stepsK (rh : List Int) (p k : Nat) : Int := (((ost rh p (k + 1)).2.1 : Int) - ((ost rh p k).2.1 : Int)).fmod ((p - k : Nat) : Int) + 1
theorem oseq_get (rh : List Int) (p : Nat) : ∀ m k, k < m → m ≤ p → (ost rh p m).2.2[k]? = some ((ost rh p k).1.getD ((ost rh p (k + 1)).2.1) 0)
  | 0, k, h, _ => by omega
  | m + 1, k, h, hm => by
    obtain ⟨_, l2⟩ := ost_len rh p m (by omega)
    show ((ost rh p m).2.2 ++ [(ost rh p m).1.getD (((ost rh p m).2.1 + rnum rh m - 1) % (ost rh p m).1.length) 0])[k]? = _
    by_cases e : k = m
    · subst e
      rw [List.getElem?_append_right (by omega), l2, Nat.sub_self]
      rfl
    · rw [List.getElem?_append_left (by omega)]
      exact oseq_get rh p m k (by omega) (by omega)
theorem idx_of_get {l : List Int} {a : Nat} (nd : l.Nodup) (h : a < l.length) : l.idxOf (l.getD a 0) = a := by
  rw [List.getD_eq_getElem?_getD, List.getElem?_eq_getElem h]
  exact nd.idxOf_getElem a h
theorem rhyme_size {n : Nat} {xs : List D} (hn : 3 ≤ n) (h : xs.length = 0 ∨ 60 < xs.length) : callF T (n + 1) 8 [.list xs] = .er 1 xs.length := by
  rw [call_fn hn (f := f_rhyme_of) rfl, run_fn (ρ := [.fz (.list xs), .un, .un, .un, .un, .un, .un]) rfl rfl]
  by_cases h1 : (1 : Int) ≤ xs.length
  · have h2 : ¬ (xs.length : Int) ≤ 60 := by omega
    simp [f_rhyme_of, h1, h2]
  · simp [f_rhyme_of, h1]
/-- one turn of the check -/
theorem rhyme_bad {n : Nat} {xs : List Int} {k : Nat} {x : Int} (hn : 3 ≤ n) (h1 : 1 ≤ xs.length) (h2 : xs.length ≤ 60) (hk : xs[k]? = some x) (hx : x < 0 ∨ (xs.length : Int) ≤ x ∨ x ∈ xs.take k) (ok : ∀ j y, j < k → xs[j]? = some y → 0 ≤ y ∧ y < xs.length ∧ y ∉ xs.take j) :
    callF T (n + 1) 8 [.list (xs.map .int)] = .er 2 k := by
  rw [call_fn hn (f := f_rhyme_of) rfl, run_fn (ρ := [.fz (.list (xs.map .int)), .un, .un, .un, .un, .un, .un]) rfl rfl]
  have g1 : (1 : Int) ≤ xs.length := by omega
  have g2 : (xs.length : Int) ≤ 60 := by omega
  simp [f_rhyme_of, g1, g2]
  rw [forGo_er (fun j ρ => ∃ a b, ρ = [.fz (.list (xs.map .int)), a, b, .un, .un, .un, .un]) k _ (enum_at hk) ⟨_, _, rfl⟩ (fun j d ρ hj hd hP => ?_) (fun ρ hP => ?_)]
  · rfl
  · obtain ⟨a, b, rfl⟩ := hP
    obtain ⟨z, hz, rfl⟩ := enum_get hd
    obtain ⟨q1, q2, q3⟩ := ok j z hj hz
    unfold stp
    simp [q1, q2]
    rw [sl_to (by omega), Int.toNat_natCast]
    simp only [Rs.bind_ok]
    rw [c_mem, decide_eq_false q3]
    simp
  · obtain ⟨a, b, rfl⟩ := hP
    unfold stp
    by_cases q1 : 0 ≤ x
    · by_cases q2 : x < (xs.length : Int)
      · have q3 : x ∈ xs.take k := by
          rcases hx with z | z | z
          · omega
          · omega
          · exact z
        simp [q1, q2]
        rw [sl_to (by omega), Int.toNat_natCast]
        simp only [Rs.bind_ok]
        rw [c_mem, decide_eq_true q3]
        simp
      · simp [q1, q2]
    · simp [q1]
theorem rhyme_ok {n : Nat} {p : Nat} {rh : List Int} (hn : 3 ≤ n) (h1 : 1 ≤ p) (h2 : p ≤ 60) : callF T (n + 1) 8 [.list ((oseq rh p).map .int)] = .ok (.list (((List.range p).map (stepsK rh p)).map .int)) := by
  obtain ⟨O, hO⟩ : ∃ O, O = oseq rh p := ⟨_, rfl⟩
  have hlen : O.length = p := by rw [hO]; exact oseq_len rh p
  have hget : ∀ k, k < p → O[k]? = some ((ost rh p k).1.getD ((ost rh p (k + 1)).2.1) 0) := fun k hk => by rw [hO]; exact oseq_get rh p p k hk (Nat.le_refl _)
  have hmem : ∀ q, q ∈ O → 0 ≤ q ∧ q < p := fun q hq => by rw [hO] at hq; exact oseq_mem.mp hq
  have hnd : O.Nodup := by rw [hO]; exact oseq_nodup rh p
  rw [← hO]
  rw [call_fn hn (f := f_rhyme_of) rfl, run_fn (ρ := [.fz (.list (O.map .int)), .un, .un, .un, .un, .un, .un]) rfl rfl]
  have g1 : (1 : Int) ≤ O.length := by omega
  have g2 : (O.length : Int) ≤ 60 := by omega
  have hlim : LIM = 16777216 := rfl
  have hr0 : evRng 0 (O.length : Int) = .ok (.list (rangeL 0 (O.length : Int))) := if_pos (by omega)
  simp [f_rhyme_of, g1, g2]
  refine forGo_fin (fun j ρ => ∃ a b, ρ = [.fz (.list (O.map .int)), a, b, .un, .un, .un, .un]) ⟨_, _, rfl⟩ (fun j d ρ hd hP => ?_) (fun ρ hP => ?_)
  · obtain ⟨a, b, rfl⟩ := hP
    obtain ⟨z, hz, rfl⟩ := enum_get hd
    obtain ⟨q1, q2⟩ := hmem z (List.mem_of_getElem? hz)
    have q2' : z < (O.length : Int) := by omega
    have q3 : z ∉ O.take j := fun hm => by
      obtain ⟨i, hi⟩ := List.mem_iff_getElem?.mp hm
      have hij : i < j := by
        have := (List.getElem?_eq_some_iff.mp hi).1
        rw [List.length_take] at this
        omega
      rw [List.getElem?_take_of_lt hij] at hi
      have hjl := (List.getElem?_eq_some_iff.mp hz).1
      have := (List.getElem?_inj (show i < O.length by omega) hnd).mp (hi.trans hz.symm)
      omega
    unfold stp
    simp [q1, q2']
    rw [sl_to (by omega), Int.toNat_natCast]
    simp only [Rs.bind_ok]
    rw [c_mem, decide_eq_false q3]
    simp
  · obtain ⟨a, b, rfl⟩ := hP
    simp [hr0]
    refine forGo_fin (fun k ρ => k ≤ p ∧ ∃ x pl, ρ = [.fz (.list (O.map .int)), a, x, .fz (.list ((ost rh p k).1.map .int)), .ow (.list (((List.range k).map (stepsK rh p)).map .int)), .fz (.int (ost rh p k).2.1), pl]) ⟨by omega, b, .un, ?_⟩ (fun k d ρ hd hP => ?_) (fun ρ hP => ?_)
    · rw [rangeL_ints, hlen]
      simp [ost]
    · obtain ⟨hk, x, pl, rfl⟩ := hP
      have hkl : k < p := by
        have := (List.getElem?_eq_some_iff.mp hd).1
        rw [List.length_map] at this
        omega
      rw [List.getElem?_map, hget k hkl] at hd
      have e : .int ((ost rh p k).1.getD ((ost rh p (k + 1)).2.1) 0) = d := by simpa using hd
      subst e
      obtain ⟨l1, l2⟩ := ost_len rh p k (by omega)
      have ha : (ost rh p (k + 1)).2.1 < (ost rh p k).1.length := Nat.mod_lt _ (by omega)
      have hidx := idx_of_get (left_nodup rh (Nat.le_of_lt hkl)) ha
      have hin : (ost rh p k).1.getD ((ost rh p (k + 1)).2.1) 0 ∈ (ost rh p k).1 := by
        rw [List.getD_eq_getElem?_getD, List.getElem?_eq_getElem ha]
        exact List.getElem_mem ha
      have e3 : (ost rh p (k + 1)).1 = (ost rh p k).1.take (ost rh p (k + 1)).2.1 ++ (ost rh p k).1.drop ((ost rh p (k + 1)).2.1 + 1) := rfl
      generalize hq : (ost rh p k).1.getD ((ost rh p (k + 1)).2.1) 0 = q at hidx hin
      have ix := index_i hin
      rw [hidx] at ix
      unfold stp
      simp [ix]
      rw [b_mod (by omega)]
      simp
      rw [if_pos (by rw [hlim]; omega)]
      simp
      rw [sl_to (by omega), sl_from (by omega)]
      simp
      have hc := cat_i (xs := (ost rh p k).1.take (ost rh p (k + 1)).2.1) (ys := (ost rh p k).1.drop ((ost rh p (k + 1)).2.1 + 1)) (by rw [List.length_take, List.length_drop, hlim]; omega)
      rw [← e3, List.map_take, List.map_drop] at hc
      rw [hc]
      simp
      refine ⟨by omega, ?_⟩
      rw [List.range_succ]
      simp [stepsK, l1]
    · obtain ⟨hk, x, pl, rfl⟩ := hP
      simp [hlen]
end K64

namespace K64
open PySem Z
def nmE : Nat → Str
  | 0 => "range"
  | 1 => "size"
  | 2 => "order"
  | 3 => "rhyme"
  | _ => "person"
/-- what a fault tells -/
abbrev ft (c : Nat) (v : Int) : D := .tuple [.str (nmE c), .int v]
theorem evh {c : Nat} (v : Int) (h : c < 5) : evH T.sub c v [(0, 4, ("range" : Str)), (3, 4, "rhyme"), (4, 4, "person"), (1, 4, "size"), (2, 4, "order")] = .ok (.rt (ft c v)) := by
  match c, h with
  | 0, _ => rfl
  | 1, _ => rfl
  | 2, _ => rfl
  | 3, _ => rfl
  | 4, _ => rfl
theorem fault0 {n : Nat} {a b d : D} {c : Nat} {v : Int} (hn : 3 ≤ n) (hc : c < 5) (h : callF T n 2 [a, b] = .er c v) : callF T (n + 1) 12 [.int 0, a, b, d] = .ok (ft c v) := by
  rw [call_fn hn (f := f__law_fault) rfl, run_fn (ρ := [.fz (.int 0), .fz a, .fz b, .fz d, .un]) rfl rfl]
  simp [f__law_fault, h, evh v hc, place]
theorem fault1 {n : Nat} {a b d : D} {c : Nat} {v : Int} (hn : 3 ≤ n) (hc : c < 5) (h : callF T n 3 [a, b] = .er c v) : callF T (n + 1) 12 [.int 1, a, b, d] = .ok (ft c v) := by
  rw [call_fn hn (f := f__law_fault) rfl, run_fn (ρ := [.fz (.int 1), .fz a, .fz b, .fz d, .un]) rfl rfl]
  simp [f__law_fault, h, evh v hc, place]
theorem fault2 {n : Nat} {a b d : D} {c : Nat} {v : Int} (hn : 3 ≤ n) (hc : c < 5) (h : callF T n 4 [a, b, d] = .er c v) : callF T (n + 1) 12 [.int 2, a, b, d] = .ok (ft c v) := by
  rw [call_fn hn (f := f__law_fault) rfl, run_fn (ρ := [.fz (.int 2), .fz a, .fz b, .fz d, .un]) rfl rfl]
  simp [f__law_fault, h, evh v hc, place]
theorem fault3 {n : Nat} {a b d : D} {c : Nat} {v : Int} (hn : 3 ≤ n) (hc : c < 5) (h : callF T n 6 [a, b] = .er c v) : callF T (n + 1) 12 [.int 3, a, b, d] = .ok (ft c v) := by
  rw [call_fn hn (f := f__law_fault) rfl, run_fn (ρ := [.fz (.int 3), .fz a, .fz b, .fz d, .un]) rfl rfl]
  simp [f__law_fault, h, evh v hc, place]
theorem fault4 {n : Nat} {a b d : D} {c : Nat} {v : Int} (hn : 3 ≤ n) (hc : c < 5) (h : callF T n 7 [a, b] = .er c v) : callF T (n + 1) 12 [.int 4, a, b, d] = .ok (ft c v) := by
  rw [call_fn hn (f := f__law_fault) rfl, run_fn (ρ := [.fz (.int 4), .fz a, .fz b, .fz d, .un]) rfl rfl]
  simp [f__law_fault, h, evh v hc, place]
theorem fault5 {n : Nat} {a b d : D} {c : Nat} {v : Int} (hn : 3 ≤ n) (hc : c < 5) (h : callF T n 8 [a] = .er c v) : callF T (n + 1) 12 [.int 5, a, b, d] = .ok (ft c v) := by
  rw [call_fn hn (f := f__law_fault) rfl, run_fn (ρ := [.fz (.int 5), .fz a, .fz b, .fz d, .un]) rfl rfl]
  simp [f__law_fault, h, evh v hc, place]
/-- the first three ways alike -/
theorem fault_ring {n w : Nat} {a b d : D} {c : Nat} {v : Int} (hn : 7 ≤ n) (hw : w < 3) (hc : c < 5) (h : ∀ m, 3 ≤ m → callF T (m + 1) 0 [a, b] = .er c v) : callF T (n + 1) 12 [.int w, a, b, d] = .ok (ft c v) := by
  obtain ⟨m, rfl⟩ : ∃ m, n = m + 3 := ⟨n - 3, by omega⟩
  have h2 : ∀ m, 4 ≤ m → callF T (m + 1) 2 [a, b] = .er c v := fun m hm => by
    obtain ⟨k, rfl⟩ : ∃ k, m = k + 1 := ⟨m - 1, by omega⟩
    exact order_er hm (h k (by omega))
  match w, hw with
  | 0, _ => exact fault0 (by omega) hc (h2 _ (by omega))
  | 1, _ => exact fault1 (by omega) hc (last_er (by omega) (h2 _ (by omega)))
  | 2, _ => exact fault2 (by omega) hc (out_er (by omega) (h2 _ (by omega)))
theorem nm_ok (c : Nat) : PyData.strOk (nmE c) = true := by
  unfold nmE
  split <;> exact cpOk_str (cpOk_of _)
theorem eo_ft (c : Nat) (v : Int) : eqOk (ft c v) = true := by
  show ((PyData.strOk (nmE c) && (true && true)) && decide (max 0 (max 0 0) + 1 ≤ 64)) = true
  rw [nm_ok]
  rfl
theorem eqv_ft (c : Nat) (v : Int) : PyData.eqv (ft c v) (ft c v) = true := by
  show ((nmE c == nmE c) && ((v == v) && true)) = true
  simp
theorem ne_ft (c : Nat) (v : Int) : evCmp .ne (ft c v) (ft c v) = .ok (.bool false) := by
  show (if eqOk (ft c v) && eqOk (ft c v) then Rs.ok (PyData.bool (!PyData.eqv (ft c v) (ft c v))) else .bad) = _
  rw [eo_ft, eqv_ft]
  rfl
theorem eq_ft (c : Nat) (v : Int) : evCmp .eq (ft c v) (ft c v) = .ok (.bool true) := by
  show (if eqOk (ft c v) && eqOk (ft c v) then Rs.ok (PyData.bool (PyData.eqv (ft c v) (ft c v))) else .bad) = _
  rw [eo_ft, eqv_ft]
  rfl
theorem n_range (v : Int) : evCmp .ne (.tuple [.str "range", .int v]) (.tuple [.str "range", .int v]) = .ok (.bool false) := ne_ft 0 v
theorem n_size (v : Int) : evCmp .ne (.tuple [.str "size", .int v]) (.tuple [.str "size", .int v]) = .ok (.bool false) := ne_ft 1 v
theorem n_order (v : Int) : evCmp .ne (.tuple [.str "order", .int v]) (.tuple [.str "order", .int v]) = .ok (.bool false) := ne_ft 2 v
theorem q_order (v : Int) : evCmp .eq (.tuple [.str "order", .int v]) (.tuple [.str "order", .int v]) = .ok (.bool true) := eq_ft 2 v
theorem n_rhyme (v : Int) : evCmp .ne (.tuple [.str "rhyme", .int v]) (.tuple [.str "rhyme", .int v]) = .ok (.bool false) := ne_ft 3 v
theorem n_person (v : Int) : evCmp .ne (.tuple [.str "person", .int v]) (.tuple [.str "person", .int v]) = .ok (.bool false) := ne_ft 4 v
theorem set_get {rh : List Int} {k : Nat} (b : Int) (hk : k < rh.length) : (rh.take k ++ [b] ++ rh.drop (k + 1))[k]? = some b := by
  have h1 : (rh.take k).length = k := by rw [List.length_take]; omega
  rw [List.append_assoc, List.getElem?_append_right (by omega), h1, Nat.sub_self]
  rfl
theorem set_before {rh : List Int} {k j : Nat} {b r : Int} (hk : k < rh.length) (hj : j < k) (h : (rh.take k ++ [b] ++ rh.drop (k + 1))[j]? = some r) : r ∈ rh := by
  have h1 : (rh.take k).length = k := by rw [List.length_take]; omega
  rw [List.append_assoc, List.getElem?_append_left (by omega), List.getElem?_take_of_lt hj] at h
  exact List.mem_of_getElem? h
theorem faults_spec {n : Nat} {p : Int} {ds rh : List Int} {m : Nat} (hn : 9 ≤ n) (o : Ok p rh) (hD : Dr ds m) : callF T (n + 1) 13 [.list (ds.map .int), .int p, .list (rh.map .int)] = .ok (.bool true) := by
  have hlim : LIM = 16777216 := rfl
  obtain ⟨P, rfl⟩ := Int.eq_ofNat_of_zero_le (show 0 ≤ p from Int.le_trans (by decide) o.p1)
  have hlen : 0 < rh.length := List.length_pos_iff.mpr o.ne
  have hl6 := o.le
  obtain ⟨n, rfl⟩ : ∃ m, n = m + 1 := ⟨n - 1, by omega⟩
  obtain ⟨k, hk, k0, k1⟩ := mix_spec (T := T) (cf := callF T n) (k := 200) (many := rh.length) hD (by omega) (by omega) (by omega)
  have hk : callF T (n + 1) 10 [.list (ds.map .int), .int 200, .int rh.length] = .ok (.int k) := (call_fn (by omega) (f := fMix) rfl).trans hk
  obtain ⟨k, rfl⟩ := Int.eq_ofNat_of_zero_le k0
  have hkl : k < rh.length := by omega
  have r0 : evRng 0 3 = .ok (.list (rangeL 0 3)) := if_pos (by omega)
  rw [call_fn (by omega) (f := f__law_faults) rfl, run_fn (ρ := [.fz (.list (ds.map .int)), .fz (.int (P : Int)), .fz (.list (rh.map .int)), .un, .un, .un, .un, .un, .un, .un, .un]) rfl rfl]
  -- the three ways alike
  have w1 : ∀ (w : Nat) (bad : Int) (d : D), w < 3 → bad < 1 ∨ 60 < bad → callF T (n + 1) 12 [.int w, .int bad, d, .int 99] = .ok (ft 0 bad) := fun w bad d hw hb => fault_ring (by omega) hw (by omega) fun m hm => check_range hm hb
  have w2 : ∀ w : Nat, w < 3 → callF T (n + 1) 12 [.int w, .int (P : Int), .list [], .int 99] = .ok (ft 3 0) := fun w hw => fault_ring (by omega) hw (by omega) fun m hm => check_nil hm o.p1 o.p2
  have w3 : ∀ w : Nat, w < 3 → callF T (n + 1) 12 [.int w, .int (P : Int), .list (([1, 1, 1, 1, 1, 1, 1] : List Int).map .int), .int 99] = .ok (ft 3 6) := fun w hw => fault_ring (by omega) hw (by omega) fun m hm => by
    rw [check_six hm o.p1 o.p2 (by simp) fun j r hj hr => ?_]
    · rfl
    · have := List.mem_of_getElem? hr
      simp at this
      omega
  have w4 : ∀ w : Nat, w < 3 → callF T (n + 1) 12 [.int w, .int (P : Int), .list (([1, 0, 1, 1, 1, 1, 1] : List Int).map .int), .int 99] = .ok (ft 3 1) := fun w hw => fault_ring (by omega) hw (by omega) fun m hm => check_bad hm o.p1 o.p2 (k := 1) (by omega) rfl (.inl (by omega)) fun j r hj hr => by
    have : j = 0 := by omega
    subst this
    have : r = 1 := by simpa using hr.symm
    omega
  have w5 : ∀ (w : Nat) (bad : Int), w < 3 → bad < 1 ∨ 100 < bad → callF T (n + 1) 12 [.int w, .int (P : Int), .list ((rh.take k ++ [bad] ++ rh.drop (k + 1)).map .int), .int 99] = .ok (ft 3 k) := fun w bad hw hb => fault_ring (by omega) hw (by omega) fun m hm => check_bad hm o.p1 o.p2 (by omega) (set_get bad hkl) hb fun j r hj hr => o.r r (set_before hkl hj hr)
  have v1 : ∀ (w : Nat) (bad : Int), w < 3 → bad < 1 ∨ 60 < bad → callF T (n + 1) 12 [.int w, .int bad, .list [], .int 99] = .ok (.tuple [.str "range", .int bad]) := fun w bad hw hb => w1 w bad _ hw hb
  have v2 : ∀ w : Nat, w < 3 → callF T (n + 1) 12 [.int w, .int (P : Int), .list [], .int 99] = .ok (.tuple [.str "rhyme", .int 0]) := w2
  have v3 : ∀ w : Nat, w < 3 → callF T (n + 1) 12 [.int w, .int (P : Int), .list [.int 1, .int 1, .int 1, .int 1, .int 1, .int 1, .int 1], .int 99] = .ok (.tuple [.str "rhyme", .int 6]) := w3
  have v4 : ∀ w : Nat, w < 3 → callF T (n + 1) 12 [.int w, .int (P : Int), .list [.int 1, .int 0, .int 1, .int 1, .int 1, .int 1, .int 1], .int 99] = .ok (.tuple [.str "rhyme", .int 1]) := w4
  have s1 : evSl (.list (rh.map .int)) none (some (k : Int)) = .ok (.list ((rh.map PyData.int).take k)) := by
    have z := sl_to (xs := rh) (a := (k : Int)) (by omega)
    rw [List.map_take] at z
    exact z
  have s2 : evSl (.list (rh.map .int)) (some ((k : Int) + 1)) none = .ok (.list ((rh.map PyData.int).drop (k + 1))) := by
    have z := sl_from (xs := rh) (a := (k : Int) + 1) (by omega)
    rw [List.map_drop] at z
    exact z
  have v5 : ∀ (w : Nat) (bad : Int), w < 3 → bad < 1 ∨ 100 < bad → callF T (n + 1) 12 [.int w, .int (P : Int), .list ((rh.map PyData.int).take k ++ .int bad :: (rh.map PyData.int).drop (k + 1)), .int 99] = .ok (.tuple [.str "rhyme", .int k]) := fun w bad hw hb => by
    have z := w5 w bad hw hb
    rw [List.map_append, List.map_append, List.map_take, List.map_drop, List.append_assoc] at z
    exact z
  have lA : ((rh.map PyData.int).take k).length ≤ 6 := by rw [List.length_take, List.length_map]; omega
  have lB : ((rh.map PyData.int).drop (k + 1)).length ≤ 6 := by rw [List.length_drop, List.length_map]; omega
  generalize (rh.map PyData.int).take k = A at s1 v5 lA
  generalize (rh.map PyData.int).drop (k + 1) = Bd at s2 v5 lB
  have c1 : ∀ b : Int, evCat (.list A) (.list [.int b]) = .ok (.list (A ++ [.int b])) := fun b => if_pos (by rw [hlim]; show A.length + 1 ≤ _; omega)
  have c2 : ∀ b : Int, evCat (.list (A ++ [.int b])) (.list Bd) = .ok (.list (A ++ .int b :: Bd)) := fun b => by
    show (if (A ++ [PyData.int b]).length + Bd.length ≤ LIM then Rs.ok (PyData.list (A ++ [PyData.int b] ++ Bd)) else .bad) = _
    rw [if_pos (by rw [hlim, List.length_append]; show A.length + 1 + Bd.length ≤ _; omega), List.append_assoc]
    rfl
  have cat7 : evRep (.list [.int 1]) (.int 7) = .ok (.list [.int 1, .int 1, .int 1, .int 1, .int 1, .int 1, .int 1]) := rfl
  have cat5 : evRep (.list [.int 1]) (.int 5) = .ok (.list [.int 1, .int 1, .int 1, .int 1, .int 1]) := rfl
  have cc : evCat (.list [.int 1, .int 0]) (.list [.int 1, .int 1, .int 1, .int 1, .int 1]) = .ok (.list [.int 1, .int 0, .int 1, .int 1, .int 1, .int 1, .int 1]) := rfl
  simp [f__law_faults, hk, r0]
  refine forGo_fin (fun _ ρ => ∃ a b, ρ = [.fz (.list (ds.map .int)), .fz (.int (P : Int)), .fz (.list (rh.map .int)), .fz (.int k), a, b, .un, .un, .un, .un, .un]) ⟨_, _, rfl⟩ (fun w d ρ hd hP => ?_) (fun ρ hP => ?_)
  · obtain ⟨a, b, rfl⟩ := hP
    have e := rangeL_get hd
    have hw : w < 3 := by
      have := (List.getElem?_eq_some_iff.mp hd).1
      rw [rangeL_len] at this
      exact this
    subst e
    unfold stp
    simp [lim_eq, forGo, stp, v1 w 0 hw (by omega), v1 w 61 hw (by omega), v1 w (-1) hw (by omega), n_range, v2 w hw, v3 w hw, v4 w hw, cat7, cat5, cc, n_rhyme, s1, s2, c1, c2, v5 w 0 hw (by omega), v5 w 101 hw (by omega)]
  · obtain ⟨a, b, rfl⟩ := hP
    have u : ∀ bad : Int, bad < 0 ∨ (P : Int) ≤ bad → callF T (n + 1) 12 [.int 2, .int (P : Int), .list (rh.map .int), .int bad] = .ok (.tuple [.str "person", .int bad]) := fun bad hb => by
      obtain ⟨n, rfl⟩ : ∃ m, n = m + 1 := ⟨n - 1, by omega⟩
      exact fault2 (c := 4) (by omega) (by omega) (out_person (by omega) o hb)
    have x : ∀ (one two v : Int), (∀ m, 4 ≤ m → callF T (m + 1) 6 [.int one, .int two] = .er 0 v) → callF T (n + 1) 12 [.int 3, .int one, .int two, .int 0] = .ok (.tuple [.str "range", .int v]) := fun one two v h => by
      obtain ⟨n, rfl⟩ : ∃ m, n = m + 1 := ⟨n - 1, by omega⟩
      exact fault3 (c := 0) (by omega) (by omega) (h n (by omega))
    have x1 := x 0 0 0 fun m hm => by_one_p hm (.inl (by omega))
    have x2 := x 1000001 0 1000001 fun m hm => by_one_p hm (.inr (by omega))
    have x3 := x 5 0 0 fun m hm => by_one_s hm (by omega) (by omega) (.inl (by omega))
    have x4 := x 5 1000001 1000001 fun m hm => by_one_s hm (by omega) (by omega) (.inr (by omega))
    have y : ∀ (one two v : Int) (c : Nat), c < 5 → (∀ m, 4 ≤ m → callF T (m + 1) 7 [.int one, .int two] = .er c v) → callF T (n + 1) 12 [.int 4, .int one, .int two, .int 0] = .ok (ft c v) := fun one two v c hc h => by
      obtain ⟨n, rfl⟩ : ∃ m, n = m + 1 := ⟨n - 1, by omega⟩
      exact fault4 (by omega) hc (h n (by omega))
    have y1 : callF T (n + 1) 12 [.int 4, .int 0, .int 9, .int 0] = .ok (.tuple [.str "range", .int 0]) := y 0 9 0 0 (by omega) fun m hm => least_range (by omega) (.inl (by omega))
    have y2 : callF T (n + 1) 12 [.int 4, .int 10, .int 99, .int 0] = .ok (.tuple [.str "range", .int 10]) := y 10 99 10 0 (by omega) fun m hm => least_range (by omega) (.inr (by omega))
    have y3 : callF T (n + 1) 12 [.int 4, .int 5, .int 5, .int 0] = .ok (.tuple [.str "person", .int 5]) := y 5 5 5 4 (by omega) fun m hm => least_person (by omega) (by omega) (by omega) (.inr (by omega))
    have y4 : callF T (n + 1) 12 [.int 4, .int 5, .int (-1), .int 0] = .ok (.tuple [.str "person", .int (-1)]) := y 5 (-1) (-1) 4 (by omega) fun m hm => least_person (by omega) (by omega) (by omega) (.inl (by omega))
    have ord := order_ok (n := n) (by omega) o
    rw [Int.toNat_natCast] at ord
    have p1 := o.p1
    have p2 := o.p2
    have hOl := oseq_len rh P
    have hOm : ∀ q, q ∈ oseq rh P → 0 ≤ q ∧ q < P := fun q hq => oseq_mem.mp hq
    have hOn := oseq_nodup rh P
    generalize oseq rh P = O at ord hOl hOm hOn
    obtain ⟨o0, O', rfl⟩ : ∃ o0 O', O = o0 :: O' := by
      cases O with
      | nil => simp at hOl; omega
      | cons x r => exact ⟨x, r, rfl⟩
    have hl' : O'.length + 1 = P := by simpa using hOl
    have f5 : ∀ (xs : List D) (c : Nat) (v : Int), c < 5 → (∀ m, 3 ≤ m → callF T (m + 1) 8 [.list xs] = .er c v) → callF T (n + 1) 12 [.int 5, .list xs, .int 0, .int 0] = .ok (ft c v) := fun xs c v hc h => by
      obtain ⟨n, rfl⟩ : ∃ m, n = m + 1 := ⟨n - 1, by omega⟩
      exact fault5 (by omega) hc (h n (by omega))
    have z1 : callF T (n + 1) 12 [.int 5, .list [], .int 0, .int 0] = .ok (.tuple [.str "size", .int 0]) := f5 [] 1 0 (by omega) fun m hm => rhyme_size hm (.inl rfl)
    obtain ⟨L, rep61, hL⟩ : ∃ L, evRep (.list [.int 0]) (.int 61) = .ok (.list L) ∧ L.length = 61 := ⟨_, rfl, rfl⟩
    have z2 : callF T (n + 1) 12 [.int 5, .list L, .int 0, .int 0] = .ok (.tuple [.str "size", .int 61]) := f5 L 1 61 (by omega) fun m hm => by
      have z := rhyme_size (n := m) (xs := L) hm (.inr (by omega))
      rw [hL] at z
      exact z
    have t1 : evSl (.list (.int o0 :: O'.map .int)) none (some 1) = .ok (.list [.int o0]) := sl_to (xs := o0 :: O') (a := 1) (by omega)
    have t2 : evSl (.list (.int o0 :: O'.map .int)) (some 1) none = .ok (.list (O'.map .int)) := sl_from (xs := o0 :: O') (a := 1) (by omega)
    have cO : evCat (.list (.int o0 :: O'.map .int)) (.list [.int o0]) = .ok (.list (.int o0 :: (O'.map .int ++ [.int o0]))) := if_pos (by rw [hlim]; show (O'.map PyData.int).length + 1 + 1 ≤ _; rw [List.length_map]; omega)
    have c3 : ∀ q : Int, evCat (.list [.int q]) (.list (O'.map .int)) = .ok (.list (.int q :: O'.map .int)) := fun q => if_pos (by rw [hlim]; show 1 + (O'.map PyData.int).length ≤ _; rw [List.length_map]; omega)
    have z4 : ∀ q : Int, q < 0 ∨ (P : Int) ≤ q → callF T (n + 1) 12 [.int 5, .list (.int q :: O'.map .int), .int 0, .int 0] = .ok (.tuple [.str "order", .int 0]) := fun q hq => f5 _ 2 0 (by omega) fun m hm => by
      refine rhyme_bad (xs := q :: O') (k := 0) (x := q) hm (by simp) (by simp; omega) rfl ?_ fun j y hj => by omega
      rcases hq with z | z
      · exact .inl z
      · exact .inr (.inl (by simp; omega))
    have z5 := z4 (-1) (.inl (by omega))
    have z6 := z4 (P : Int) (.inr (by omega))
    by_cases h60 : (P : Int) = 60
    · have z3 : callF T (n + 1) 12 [.int 5, .list (.int o0 :: (O'.map .int ++ [.int o0])), .int 0, .int 0] = .ok (.tuple [.str "size", .int 61]) := f5 _ 1 61 (by omega) fun m hm => by
        have hl : (PyData.int o0 :: (O'.map PyData.int ++ [.int o0])).length = 61 := by simp; omega
        have z := rhyme_size (n := m) (xs := PyData.int o0 :: (O'.map PyData.int ++ [.int o0])) hm (.inr (by omega))
        rw [hl] at z
        exact z
      have ix1 : evIx (.list [.tuple [.str "order", .int (P : Int)], .tuple [.str "size", .int 61]]) (.int 1) = .ok (.tuple [.str "size", .int 61]) := rfl
      have hP60 : ((O'.length : Int) + 1) = P := by omega
      have h60t : ((P : Int) = 60) = True := eq_true h60
      clear h60
      simp [lim_eq, forGo, stp, u (-1) (by omega), u P (by omega), n_person, x1, x2, x3, x4, n_range, y1, y2, y3, y4, ord, z1, rep61, z2, t1, t2, cO, z3, n_size, ix1, c3, z5, q_order, hP60, z6, h60t]
    · have z3 : callF T (n + 1) 12 [.int 5, .list (.int o0 :: (O'.map .int ++ [.int o0])), .int 0, .int 0] = .ok (.tuple [.str "order", .int P]) := f5 _ 2 P (by omega) fun m hm => by
        have z := rhyme_bad (n := m) (xs := o0 :: (O' ++ [o0])) (k := P) (x := o0) hm (by simp) (by simp; omega) (by
          rw [← hl', List.getElem?_cons_succ, List.getElem?_append_right (Nat.le_refl _), Nat.sub_self]
          rfl) (.inr (.inr (by rw [← hl']; simp))) fun j y hj hy => by
            have hy' : (o0 :: O')[j]? = some y := by
              rw [← hy, ← List.cons_append, List.getElem?_append_left (by simp; omega)]
            obtain ⟨q1, q2⟩ := hOm y (List.mem_of_getElem? hy')
            refine ⟨q1, by simp; omega, fun hm => ?_⟩
            rw [← List.cons_append, List.take_append_of_le_length (by simp; omega)] at hm
            obtain ⟨i, hi⟩ := List.mem_iff_getElem?.mp hm
            have hij : i < j := by
              have := (List.getElem?_eq_some_iff.mp hi).1
              rw [List.length_take] at this
              omega
            rw [List.getElem?_take_of_lt hij] at hi
            have := (List.getElem?_inj (show i < (o0 :: O').length by simp; omega) hOn).mp (hi.trans hy'.symm)
            omega
        rw [List.map_cons, List.map_append] at z
        exact z
      have ix0 : evIx (.list [.tuple [.str "order", .int (P : Int)], .tuple [.str "size", .int 61]]) (.int 0) = .ok (.tuple [.str "order", .int (P : Int)]) := rfl
      have hP60 : ((O'.length : Int) + 1) = P := by omega
      simp [lim_eq, forGo, stp, u (-1) (by omega), u P (by omega), n_person, x1, x2, x3, x4, n_range, y1, y2, y3, y4, ord, z1, rep61, z2, t1, t2, cO, z3, n_size, n_order, ix0, c3, z5, q_order, hP60, z6, h60]
end K64

namespace K64
open PySem Z
theorem mx_ex {n : Nat} {ds : List Int} {m : Nat} (hn : 3 ≤ n) (hD : Dr ds m) : ∃ mx : Int → Int → Int, ∀ k many, 0 ≤ k → k ≤ 100000000 → 0 < many → callF T (n + 1) 10 [.list (ds.map .int), .int k, .int many] = .ok (.int (mx k many)) ∧ 0 ≤ mx k many ∧ mx k many < many := by
  have h : ∀ k many : Int, ∃ r : Int, 0 ≤ k → k ≤ 100000000 → 0 < many → callF T (n + 1) 10 [.list (ds.map .int), .int k, .int many] = .ok (.int r) ∧ 0 ≤ r ∧ r < many := fun k many => by
    by_cases hc : 0 ≤ k ∧ k ≤ 100000000 ∧ 0 < many
    · obtain ⟨r, e, b⟩ := mix_spec (T := T) (cf := callF T n) hD hc.1 hc.2.1 hc.2.2
      exact ⟨r, fun _ _ _ => ⟨(call_fn hn (f := fMix) rfl).trans e, b⟩⟩
    · exact ⟨0, fun a b c => absurd ⟨a, b, c⟩ hc⟩
  exact ⟨fun k many => (h k many).choose, fun k many a b c => (h k many).choose_spec a b c⟩
theorem shift_ost {rh : List Int} {P : Nat} {b : Int} (hb : 0 ≤ b) (hne : rh ≠ []) (hr : ∀ r ∈ rh, 1 ≤ r) (hd : ∀ l : Nat, 1 ≤ l → l ≤ P → l ∣ b.toNat) : ∀ k, k ≤ P → ost (rh.map (· + b)) P k = ost rh P k
  | 0, _ => rfl
  | k + 1, h => by
    have ih := shift_ost hb hne hr hd k (by omega)
    obtain ⟨l1, _⟩ := ost_len rh P k (by omega)
    have hlen : 0 < rh.length := List.length_pos_iff.mpr hne
    have hkm : k % rh.length < rh.length := Nat.mod_lt _ hlen
    have hg : rh[k % rh.length] ∈ rh := List.getElem_mem hkm
    have h1 := hr _ hg
    have e1 : rnum rh k = rh[k % rh.length].toNat := by
      unfold rnum
      rw [List.getD_eq_getElem?_getD, List.getElem?_eq_getElem hkm]
      rfl
    have e2 : rnum (rh.map (· + b)) k = rh[k % rh.length].toNat + b.toNat := by
      unfold rnum
      rw [List.getD_eq_getElem?_getD, List.length_map, List.getElem?_map, List.getElem?_eq_getElem hkm]
      show (rh[k % rh.length] + b).toNat = _
      omega
    have ea : ((ost (rh.map (· + b)) P k).2.1 + rnum (rh.map (· + b)) k - 1) % (ost (rh.map (· + b)) P k).1.length = ((ost rh P k).2.1 + rnum rh k - 1) % (ost rh P k).1.length := by
      rw [ih, e1, e2]
      obtain ⟨q, hq⟩ := hd (ost rh P k).1.length (by omega) (by omega)
      rw [hq, show (ost rh P k).2.1 + (rh[k % rh.length].toNat + (ost rh P k).1.length * q) - 1 = ((ost rh P k).2.1 + rh[k % rh.length].toNat - 1) + (ost rh P k).1.length * q by omega, Nat.add_mul_mod_self_left]
    show ((ost (rh.map (· + b)) P k).1.take _ ++ (ost (rh.map (· + b)) P k).1.drop _, _, _) = _
    rw [ea, ih]
    rfl
def restL : List S := f_law.body.drop 3
theorem law_body : f_law.body = .set 1 (.call 9 [.var 0]) :: .set 2 (.bin .add (.c (.int 1)) (.call 10 [.var 1, .c (.int 0), .ix (.lst [.c (.int 9), .c (.int 20), .c (.int 60)]) (.call 10 [.var 1, .c (.int 1), .c (.int 3)])])) :: .set 3 (.lc (.nm 4) [4] (.rng1 (.bin .add (.c (.int 1)) (.call 10 [.var 1, .c (.int 3), .c (.int 6)]))) [] (.bin .add (.c (.int 1)) (.call 10 [.var 1, .bin .add (.c (.int 10)) (.var 4), .ix (.lst [.c (.int 4), .c (.int 100)]) (.call 10 [.var 1, .c (.int 2), .c (.int 2)])]))) :: restL := rfl
/-- the slots behind the first lines -/
theorem law_head {n : Nat} {ns : List Int} (hn : 12 ≤ n) (hl : ns.length ≤ 63) : ∃ (ds rh : List Int) (P : Nat) (mx : Int → Int → Int), Ok P rh ∧ Dr ds 3780 ∧ (∀ k many, 0 ≤ k → k ≤ 100000000 → 0 < many → callF T n 10 [.list (ds.map .int), .int k, .int many] = .ok (.int (mx k many)) ∧ 0 ≤ mx k many ∧ mx k many < many) ∧
    callF T (n + 1) 14 [scD (ns.map .int)] = fin false (evSs (callF T n) (T.gls.map (·.2)) T.sub restL [.fz (scD (ns.map .int)), .fz (.list (ds.map .int)), .fz (.int P), .fz (.list (rh.map .int)), .un, .un, .un, .un, .un, .un, .un, .un, .un, .un, .un, .un, .un, .un, .un, .un]) := by
  obtain ⟨n, rfl⟩ : ∃ m, n = m + 1 := ⟨n - 1, by omega⟩
  obtain ⟨ds, hds, hD⟩ := draws_spec (T := T) (cf := callF T n) hl
  have hds : callF T (n + 1) 9 [scD (ns.map .int)] = .ok (.list (ds.map .int)) := (call_fn (by omega) (f := fDraws) rfl).trans hds
  obtain ⟨mx, hmx⟩ := mx_ex (n := n) (by omega) hD
  obtain ⟨a1, a2, a3⟩ := hmx 1 3 (by omega) (by omega) (by omega)
  obtain ⟨M, hM, M1, M2⟩ : ∃ M : Int, evIx (.list [.int 9, .int 20, .int 60]) (.int (mx 1 3)) = .ok (.int M) ∧ 1 ≤ M ∧ M ≤ 60 := by
    generalize mx 1 3 = r at a2 a3
    have : r = 0 ∨ r = 1 ∨ r = 2 := by omega
    rcases this with rfl | rfl | rfl
    · exact ⟨9, rfl, by omega, by omega⟩
    · exact ⟨20, rfl, by omega, by omega⟩
    · exact ⟨60, rfl, by omega, by omega⟩
  obtain ⟨b1, b2, b3⟩ := hmx 0 M (by omega) (by omega) (by omega)
  obtain ⟨c1, c2, c3⟩ := hmx 3 6 (by omega) (by omega) (by omega)
  obtain ⟨d1, d2, d3⟩ := hmx 2 2 (by omega) (by omega) (by omega)
  obtain ⟨Q, hQ, Q1, Q2⟩ : ∃ Q : Int, evIx (.list [.int 4, .int 100]) (.int (mx 2 2)) = .ok (.int Q) ∧ 1 ≤ Q ∧ Q ≤ 100 := by
    generalize mx 2 2 = r at d2 d3
    have : r = 0 ∨ r = 1 := by omega
    rcases this with rfl | rfl
    · exact ⟨4, rfl, by omega, by omega⟩
    · exact ⟨100, rfl, by omega, by omega⟩
  have hlim : LIM = 16777216 := rfl
  obtain ⟨P, hP⟩ := Int.eq_ofNat_of_zero_le (show 0 ≤ 1 + mx 0 M by omega)
  have hr : evRng 0 (1 + mx 3 6) = .ok (.list (rangeL 0 (1 + mx 3 6))) := if_pos (by omega)
  obtain ⟨L, hL⟩ := Int.eq_ofNat_of_zero_le (show 0 ≤ 1 + mx 3 6 by omega)
  refine ⟨ds, (List.range L).map fun (k : Nat) => 1 + mx (10 + (k : Int)) Q, P, mx, ⟨by omega, by omega, ?_, ?_, ?_⟩, hD, hmx, ?_⟩
  · intro z
    have := congrArg List.length z
    simp at this
    omega
  · simp
    omega
  · intro r hr
    obtain ⟨k, hk, rfl⟩ := List.mem_map.mp hr
    have hk' := List.mem_range.mp hk
    obtain ⟨_, g1, g2⟩ := hmx (10 + k) Q (by omega) (by omega) (by omega)
    omega
  · rw [call_fn (by omega) (f := f_law) rfl, run_fn (ρ := [.fz (scD (ns.map .int)), .un, .un, .un, .un, .un, .un, .un, .un, .un, .un, .un, .un, .un, .un, .un, .un, .un, .un, .un]) rfl rfl]
    have hlc : lcGo (lcs (callF T (n + 1)) (T.gls.map (·.2)) (.nm 4) [4] [] (.bin .add (.c (.int 1)) (.call 10 [.var 1, .bin .add (.c (.int 10)) (.var 4), .ix (.lst [.c (.int 4), .c (.int 100)]) (.call 10 [.var 1, .c (.int 2), .c (.int 2)])])) [.fz (scD (ns.map .int)), .fz (.list (ds.map .int)), .fz (.int (1 + mx 0 M)), .un, .un, .un, .un, .un, .un, .un, .un, .un, .un, .un, .un, .un, .un, .un, .un, .un]) (rangeL 0 (1 + mx 3 6)) = .ok (((List.range L).map fun (k : Nat) => 1 + mx (10 + (k : Int)) Q).map .int) := by
      rw [hL, rangeL_ints]
      rw [lcGo_map (g := fun d => match d with
        | .int k => .int (1 + mx (10 + k) Q)
        | d => d)]
      · rw [List.map_map, List.map_map, List.map_map]
        rfl
      · intro d hd
        obtain ⟨z, hz, rfl⟩ := List.mem_map.mp hd
        obtain ⟨k, hk, rfl⟩ := List.mem_map.mp hz
        have hk' := List.mem_range.mp hk
        obtain ⟨g0, _, _⟩ := hmx (10 + k) Q (by omega) (by omega) (by omega)
        unfold lcs
        simp [En.wipe, d1, hQ, g0, hlim]
    rw [show f_law.fresh = false from rfl, law_body, ← hP]
    simp only [x_cons, x_set, y_call, z_cons, z_nil, y_var, at_z, at_s, Rs.bind_ok, hds, seqO_nx, List.set_cons_succ, List.set_cons_zero, y_bin, y_c, y_ix, y_lst, List.length_cons, List.length_nil, hlim, a1, b1, hM, b_add, y_lc, y_rng1, c1, hr, it_l, hlc, if_pos (show 0 + 1 + 1 + 1 ≤ 16777216 by decide)]
end K64

namespace K64
open PySem Z
abbrev lostC : E := .ands [.cmp .ne (.var 11) (.lst []), .cmp .lt (.var 12) (.c (.int 400))]
abbrev lostB : List S := [.set 12 (.bin .add (.var 12) (.c (.int 1))), .set 13 (.ix (.call 11 [.var 10, .lst [.var 12]]) (.neg (.c (.int 1)))), .ife (.cmp .mem (.var 13) (.var 11)) [.ife (.cmp .ne (.bi .repr [.call 7 [.var 10, .var 13]]) (.bi .repr [.var 12])) [.ret (.c (.bool false))] [], .set 11 (.lc (.nm 14) [14] (.var 11) [.cmp .ne (.var 14) (.var 13)] (.var 14))] []]
def LI (s0 s1 s2 s3 s4 s5 s6 s7 s8 s9 s14 s15 s16 s17 s18 s19 : Sl) (X : Nat) (i : Nat) (ρ : En) : Prop := ∃ (lost : List Int) (c : Sl), ρ = [s0, s1, s2, s3, s4, s5, s6, s7, s8, s9, .fz (.int X), .fz (.list (lost.map .int)), .fz (.int i), c, s14, s15, s16, s17, s18, s19] ∧ (∀ x ∈ lost, 0 ≤ x ∧ x < X ∧ ∀ j : Nat, 1 ≤ j → j ≤ i → jn j X ≠ x)
theorem lost_loop {n : Nat} {gs : List Int} {sub : Nat → Nat → Bool} {s0 s1 s2 s3 s4 s5 s6 s7 s8 s9 s13 s14 s15 s16 s17 s18 s19 : Sl} {X : Nat} (hn : 5 ≤ n) (h1 : 1 ≤ X) (h2 : X ≤ 7) :
    Nx (whlGo (cnd (callF T (n + 1)) gs lostC) (evSs (callF T (n + 1)) gs sub lostB) 1000000 [s0, s1, s2, s3, s4, s5, s6, s7, s8, s9, .fz (.int X), .fz (.list ((rg X).map .int)), .fz (.int 0), s13, s14, s15, s16, s17, s18, s19]) (fun ρ => ∃ j, LI s0 s1 s2 s3 s4 s5 s6 s7 s8 s9 s14 s15 s16 s17 s18 s19 X j ρ) := by
  have hlim : LIM = 16777216 := rfl
  refine whlGo_dec (LI s0 s1 s2 s3 s4 s5 s6 s7 s8 s9 s14 s15 s16 s17 s18 s19 X) 400 (fun i ρ hi hP => ?_) 400 0 1000000 _ (by omega) (by omega) ⟨rg X, s13, rfl, fun x hx => ⟨(rg_mem.mp hx).1, (rg_mem.mp hx).2, fun j a b => by omega⟩⟩
  obtain ⟨lost, c, rfl, hl⟩ := hP
  have ce := c_neL lost []
  rw [List.map_nil] at ce
  by_cases he : lost = []
  · left
    unfold cnd
    simp only [y_ands, a_cons, a_one, y_cmp, y_var, at_z, at_s, Rs.bind_ok, y_lst, z_nil, List.length_nil, Nat.zero_le, if_true, ce, decide_eq_true he, Bool.not_true, tr_b, andK_f]
  · by_cases h4 : i < 400
    · right
      refine ⟨?_, h4, ?_⟩
      · have h4' : decide ((i : Int) < 400) = true := decide_eq_true (by omega)
        unfold cnd
        simp only [y_ands, a_cons, a_one, y_cmp, y_var, y_c, at_z, at_s, Rs.bind_ok, y_lst, z_nil, List.length_nil, Nat.zero_le, if_true, ce, decide_eq_false he, Bool.not_false, tr_b, andK_t, c_lt, h4']
      · have lo : callF T (n + 1) 11 [.int (X : Int), .list [.int ((i : Int) + 1)]] = .ok (.list ((oseq [(i : Int) + 1] X).map .int)) := by
          have z := law_order_spec (n := n) (p := (X : Int)) (rh := [(i : Int) + 1]) (by omega) (by omega) (by omega) (by simp) (by simp) fun r hr => by
            have := List.mem_singleton.mp hr
            omega
          rw [Int.toNat_natCast] at z
          exact z
        have lj := last_jn (s := (i : Int) + 1) (p := X) (by omega) h1
        have ij := ix_last lj
        have hmo := oseq_mem.mp (List.mem_of_getLast? lj)
        generalize hone : jn ((i : Int) + 1) X = one at ij hmo lj
        generalize oseq [(i : Int) + 1] X = O1 at lo ij
        have cm := c_mem one lost
        by_cases hin : one ∈ lost
        · obtain ⟨_, _, hbe⟩ := hl one hin
          have le := least_ok (n := n) (p := (X : Int)) (q := one) (m := i + 1) (by omega) (by omega) (by omega) hmo.1 hmo.2 (by omega) (by omega) (by rw [Int.toNat_natCast, ← hone]; rfl) fun j a b => by
            rw [Int.toNat_natCast]
            exact hbe j a (by omega)
          have le' : callF T (n + 1) 7 [.int (X : Int), .int one] = .ok (.int ((i : Int) + 1)) := le
          have rp := repr_int (i := (i : Int) + 1) (by omega)
          have rn : evCmp .ne (.str (PyData.shown (.int ((i : Int) + 1)))) (.str (PyData.shown (.int ((i : Int) + 1)))) = .ok (.bool false) := c_ne_repr (d := .int ((i : Int) + 1)) rfl
          have lcf : lcGo (lcs (callF T (n + 1)) gs (.nm 14) [14] [.cmp .ne (.var 14) (.var 13)] (.var 14) [s0, s1, s2, s3, s4, s5, s6, s7, s8, s9, .fz (.int X), .fz (.list (lost.map .int)), .fz (.int ((i : Int) + 1)), .fz (.int one), s14, s15, s16, s17, s18, s19]) (lost.map .int) = .ok ((lost.filter fun x => !decide (x = one)).map .int) := lcGo_filter fun x _ => by
            unfold lcs
            by_cases hx : x = one
            · simp [En.wipe, hx]
            · simp [En.wipe, hx]
          simp only [x_cons, x_set, y_bin, y_var, y_c, at_z, at_s, Rs.bind_ok, b_add, seqO_nx, List.set_cons_succ, List.set_cons_zero, y_ix, y_call, z_cons, z_nil, y_lst, List.length_cons, List.length_nil, hlim, if_pos (show 0 + 1 ≤ 16777216 by decide), lo, y_neg, n_int, ij, x_ife, y_cmp, cm, decide_eq_true hin, tr_b, brn_t, y_bi, le', rp, rn, brn_f, x_nil, y_lc, it_l, lcf, Nx_ok]
          exact ⟨_, _, rfl, fun x hx => by
            have hx' := List.mem_filter.mp hx
            obtain ⟨a, b, c⟩ := hl x hx'.1
            refine ⟨a, b, fun j ja jb => ?_⟩
            by_cases e : j = i + 1
            · intro z
              rw [e] at z
              have : x = one := by rw [← z, ← hone]; rfl
              rw [this] at hx'
              simp at hx'
            · exact c j ja (by omega)⟩
        · simp only [x_cons, x_set, y_bin, y_var, y_c, at_z, at_s, Rs.bind_ok, b_add, seqO_nx, List.set_cons_succ, List.set_cons_zero, y_ix, y_call, z_cons, z_nil, y_lst, List.length_cons, List.length_nil, hlim, if_pos (show 0 + 1 ≤ 16777216 by decide), lo, y_neg, n_int, ij, x_ife, y_cmp, cm, decide_eq_false hin, tr_b, brn_f, x_nil, Nx_ok]
          exact ⟨lost, _, rfl, fun x hx => by
            obtain ⟨a, b, c⟩ := hl x hx
            refine ⟨a, b, fun j ja jb => ?_⟩
            by_cases e : j = i + 1
            · intro z
              rw [e] at z
              have : x = one := by rw [← z, ← hone]; rfl
              rw [this] at hx
              exact hin hx
            · exact c j ja (by omega)⟩
    · left
      have h4' : decide ((i : Int) < 400) = false := decide_eq_false (by omega)
      unfold cnd
      simp only [y_ands, a_cons, a_one, y_cmp, y_var, y_c, at_z, at_s, Rs.bind_ok, y_lst, z_nil, List.length_nil, Nat.zero_le, if_true, ce, decide_eq_false he, Bool.not_false, tr_b, andK_t, c_lt, h4']
end K64

namespace K64
open PySem Z
theorem Nx_fin {r : Rs Out} {k : En → Rs Out} {Q : En → Prop} {b : Bool} {R : Rs D} (h : Nx r Q) (hk : ∀ ρ, Q ρ → fin b (k ρ) = R) : fin b (seqO r k) = R := by
  obtain ⟨ρ, e, p⟩ := h
  rw [e]
  exact hk ρ p
theorem small_oseq {rh : List Int} {P : Nat} (h : P ≤ 60) : ∀ x ∈ oseq rh P, x.natAbs < 10 ^ 12 := fun x hx => by
  obtain ⟨h1, h2⟩ := oseq_mem.mp hx
  omega
theorem repr_ne_int (i : Int) : evCmp .ne (.str (PyData.shown (.int i))) (.str (PyData.shown (.int i))) = .ok (.bool false) := c_ne_repr (d := .int i) rfl
theorem repr_ne_list (xs : List Int) : evCmp .ne (.str (PyData.shown (.list (xs.map .int)))) (.str (PyData.shown (.list (xs.map .int)))) = .ok (.bool false) := c_ne_repr (d := .list (xs.map .int)) (noStrs_ints xs)
theorem law_true (ns : List Int) (h : ns.length ≤ 63) : callF T 20 14 [scD (ns.map PyData.int)] = .ok (.bool true) := by
  obtain ⟨ds, rh, P, mx, o, hD, hmx, e⟩ := law_head (n := 19) (by omega) h
  rw [e]
  have p1 := o.p1
  have p2 := o.p2
  have hlim : LIM = 16777216 := rfl
  have hrs : ∀ x ∈ rh, x.natAbs < 10 ^ 12 := fun x hx => by have := o.r x hx; omega
  have k1 := repr_ints hrs (by have := o.le; omega)
  have n1 := repr_ne_list rh
  generalize hkept : PyData.shown (.list (rh.map PyData.int)) = kept at k1 n1
  have lo := law_order_spec (n := 18) (p := (P : Int)) (rh := rh) (by omega) p1 (by omega) o.ne (by have := o.le; omega) fun r hr => by have := o.r r hr; omega
  have oo := order_ok (n := 18) (p := (P : Int)) (by omega) o
  rw [Int.toNat_natCast] at lo oo
  have hOl := oseq_len rh P
  have k2 := repr_ints (small_oseq (rh := rh) (P := P) (by omega)) (by omega)
  have n2 := repr_ne_list (oseq rh P)
  obtain ⟨z, hz⟩ : ∃ z, (oseq rh P).getLast? = some z := by
    cases hc : (oseq rh P).getLast? with
    | none => rw [List.getLast?_eq_none_iff] at hc; rw [hc] at hOl; simp at hOl; omega
    | some z => exact ⟨z, rfl⟩
  have la := last_ok (n := 18) (p := (P : Int)) (x := z) (by omega) o (by rw [Int.toNat_natCast]; exact hz)
  have lz := ix_last hz
  have hzs := small_oseq (rh := rh) (P := P) (by omega) z (List.mem_of_getLast? hz)
  have k3 := repr_int hzs
  have n3 := repr_ne_int z
  obtain ⟨q1, q2, q3⟩ := hmx 20 P (by omega) (by omega) (by omega)
  generalize hq : mx 20 P = q at q1 q2 q3
  have ou := out_ok (n := 18) (p := (P : Int)) (q := q) (by omega) o q2 q3 (by rw [Int.toNat_natCast]; exact oseq_mem.mpr ⟨q2, q3⟩)
  rw [Int.toNat_natCast] at ou
  have ix := index_i (a := q) (xs := oseq rh P) (oseq_mem.mpr ⟨q2, q3⟩)
  have hidx : (oseq rh P).idxOf q ≤ 60 := by
    have := List.idxOf_lt_length_of_mem (oseq_mem.mpr ⟨q2, q3⟩ : q ∈ oseq rh P)
    omega
  have k4 := repr_int (i := (((oseq rh P).idxOf q : Nat) : Int)) (by omega)
  have n4 := repr_ne_int (((oseq rh P).idxOf q : Nat) : Int)
  -- one number
  obtain ⟨r0, rr, hrr⟩ : ∃ r0 rr, rh = r0 :: rr := by
    cases hc : rh with
    | nil => exact absurd hc o.ne
    | cons x r => exact ⟨x, r, rfl⟩
  have hr0 := o.r r0 (by rw [hrr]; exact .head _)
  have ir0 : evIx (.list (rh.map .int)) (.int 0) = .ok (.int r0) := by
    rw [hrr]
    exact ix_l (i := 0) rfl
  have b1 := by_one_ok (n := 18) (p := (P : Int)) (s := r0) (by omega) p1 (by omega) hr0.1 (by omega)
  rw [Int.toNat_natCast] at b1
  have t1 : evSl (.list (rh.map .int)) none (some 1) = .ok (.list [.int r0]) := by
    rw [hrr]
    exact sl_to (xs := r0 :: rr) (a := 1) (by omega)
  have lo1 : callF T 19 11 [.int (P : Int), .list [.int r0]] = .ok (.list ((oseq [r0] P).map .int)) := by
    have z := law_order_spec (n := 18) (p := (P : Int)) (rh := [r0]) (by omega) p1 (by omega) (by simp) (by simp) fun r hr => by
      have := List.mem_singleton.mp hr
      omega
    rw [Int.toNat_natCast] at z
    exact z
  have lj := last_jn (s := r0) (p := P) hr0.1 (by omega)
  have ij := ix_last lj
  have hjs := small_oseq (rh := [r0]) (P := P) (by omega) _ (List.mem_of_getLast? lj)
  have k5 := repr_int hjs
  have n5 := repr_ne_int (jn r0 P)
  obtain ⟨m1, m2, m3⟩ := hmx 21 4000 (by omega) (by omega) (by omega)
  obtain ⟨Y, hY⟩ := Int.eq_ofNat_of_zero_le (show 0 ≤ 1 + mx 21 4000 by omega)
  generalize hO1 : oseq [r0] P = O1 at lo1 ij
  have hOr := rhyme_ok (n := 18) (p := P) (rh := rh) (by omega) (by omega) (by omega)
  have hOg := fun k (hk : k < P) => oseq_get rh P P k hk (Nat.le_refl _)
  have hsh := fun (b : Int) hb hd => shift_ost (rh := rh) (P := P) (b := b) hb o.ne (fun r hr => (o.r r hr).1) hd P (Nat.le_refl _)
  have fz := faults_spec (n := 18) (p := (P : Int)) (by omega) o hD
  generalize hO : oseq rh P = O at lo oo k2 n2 hz la lz ou ix k4 n4 hidx hOr
  simp [restL, f_law, k1, n1, lo, oo, k2, n2, la, lz, k3, n3, q1, ou, ix, k4, n4, ir0, b1, t1, lo1, ij, k5, n5, m1, hY]
  have hY1 : 1 ≤ Y := by omega
  have hY2 : Y ≤ 4000 := by omega
  have g1 := Nat.log2_self_le (n := Y) (by omega)
  have g2 := Nat.lt_log2_self (n := Y)
  have hpw : ∀ i, i ≤ Y.log2 → 2 ^ i ≤ Y := fun i hi => Nat.le_trans (Nat.pow_le_pow_right (by omega) hi) g1
  refine whl_fin (fun i ρ => ρ = [Sl.fz (scD (List.map PyData.int ns)), Sl.fz (PyData.list (List.map PyData.int ds)), Sl.fz (PyData.int ↑P), Sl.fz (PyData.list (List.map PyData.int rh)), Sl.un, Sl.fz (PyData.str kept), Sl.fz (PyData.list (List.map PyData.int O)), Sl.fz (PyData.int q), Sl.fz (PyData.int ↑Y), Sl.fz (PyData.int ((2 ^ i : Nat) : Int)), Sl.un, Sl.un, Sl.un, Sl.un, Sl.un, Sl.un, Sl.un, Sl.un, Sl.un, Sl.un]) Y.log2 (by
      have : Y.log2 < 2 ^ Y.log2 := Nat.lt_two_pow_self
      omega) rfl (fun i ρ hi hP => ?_) (fun ρ hP => ?_) (fun ρ hP => ?_)
  · subst hP
    have h1 := hpw i (by omega)
    have h2 := hpw (i + 1) (by omega)
    have e2 : (2 : Nat) ^ (i + 1) = 2 * 2 ^ i := by rw [Nat.pow_succ]; omega
    have hb : evBin .mul (.int 2) (.int ((2 ^ i : Nat) : Int)) = .ok (.int ((2 ^ (i + 1) : Nat) : Int)) := by
      rw [b_mul (mulOk_30 (by decide) (by omega)), e2]
      rfl
    have hle : decide (((2 ^ (i + 1) : Nat) : Int) ≤ (Y : Int)) = true := decide_eq_true (by omega)
    generalize ((2 ^ (i + 1) : Nat) : Int) = w2 at hb hle
    generalize ((2 ^ i : Nat) : Int) = w1 at hb
    refine ⟨?_, ?_⟩
    · unfold cnd
      simp only [y_cmp, y_bin, y_c, y_var, at_z, at_s, Rs.bind_ok, hb, c_le, hle, tr_b]
    · simp [hb]
  · subst hP
    have e2 : (2 : Nat) ^ (Y.log2 + 1) = 2 * 2 ^ Y.log2 := by rw [Nat.pow_succ]; omega
    have hb : evBin .mul (.int 2) (.int ((2 ^ Y.log2 : Nat) : Int)) = .ok (.int ((2 ^ (Y.log2 + 1) : Nat) : Int)) := by
      rw [b_mul (mulOk_30 (by decide) (by omega)), e2]
      rfl
    have hle : decide (((2 ^ (Y.log2 + 1) : Nat) : Int) ≤ (Y : Int)) = false := decide_eq_false (by omega)
    generalize ((2 ^ (Y.log2 + 1) : Nat) : Int) = w2 at hb hle
    generalize ((2 ^ Y.log2 : Nat) : Int) = w1 at hb
    unfold cnd
    simp only [y_cmp, y_bin, y_c, y_var, at_z, at_s, Rs.bind_ok, hb, c_le, hle, tr_b]
  subst hP
  have j2 : jn 2 Y = 2 * ((Y : Int) - ((2 ^ Y.log2 : Nat) : Int)) := by
    have z := jn_nat 2 Y
    rw [jn_two Y Y.log2 (Y - 2 ^ Y.log2) (by omega) (by rw [Nat.pow_succ] at g2; omega)] at z
    have z' : jn 2 Y = ((2 * (Y - 2 ^ Y.log2) : Nat) : Int) := z
    rw [z']
    omega
  have j1 : jn 1 Y = (Y : Int) - 1 := by
    have z := jn_nat 1 Y
    rw [jn_one Y hY1] at z
    have z' : jn 1 Y = ((Y - 1 : Nat) : Int) := z
    rw [z']
    omega
  have d2 := by_one_ok (n := 18) (p := (Y : Int)) (s := 2) (by omega) (by omega) (by omega) (by omega) (by omega)
  have d1 := by_one_ok (n := 18) (p := (Y : Int)) (s := 1) (by omega) (by omega) (by omega) (by omega) (by omega)
  rw [Int.toNat_natCast, j2] at d2
  rw [Int.toNat_natCast, j1] at d1
  have hw : ((2 ^ Y.log2 : Nat) : Int) ≤ Y ∧ 1 ≤ ((2 ^ Y.log2 : Nat) : Int) := by
    have := Nat.two_pow_pos Y.log2
    omega
  clear j1 j2 hpw g1 g2
  generalize ((2 ^ Y.log2 : Nat) : Int) = w at d2 hw
  have hb : evBin .mul (.int 2) (.int ((Y : Int) - w)) = .ok (.int (2 * ((Y : Int) - w))) := b_mul (mulOk_30 (by decide) (by omega))
  obtain ⟨v1, v2, v3⟩ := hmx 22 7 (by omega) (by omega) (by omega)
  obtain ⟨X, hX⟩ := Int.eq_ofNat_of_zero_le (show 0 ≤ 1 + mx 22 7 by omega)
  have hrX : evRng 0 (X : Int) = .ok (.list (rangeL 0 (X : Int))) := if_pos (by omega)
  rw [rangeL_ints] at hrX
  simp only [x_cons, x_ife, x_set, x_whl, y_ors, r_cons, r_one, y_cmp, y_call, z_cons, z_nil, y_var, y_c, at_z, at_s, Rs.bind_ok, d2, d1, y_bin, b_sub, hb, c_ne, decide_true, Bool.not_true, tr_b, orK_f, brn_f, x_nil, seqO_nx, v1, b_add, hX, y_lr1, hrX, List.set_cons_succ, List.set_cons_zero]
  refine Nx_fin (lost_loop (n := 18) (by omega) (by omega) (by omega)) fun ρ hP => ?_
  obtain ⟨j, lost, c, rfl, _⟩ := hP
  have hrP : evRng 0 (P : Int) = .ok (.list (rangeL 0 (P : Int))) := if_pos (by omega)
  have hrPi := rangeL_ints P
  simp only [x_cons, x_set, y_call, z_cons, z_nil, y_var, y_c, at_z, at_s, Rs.bind_ok, hOr, seqO_nx, List.set_cons_succ, List.set_cons_zero, y_lr1, hrP, x_fr, y_rng1, it_l]
  refine forGo_fin (fun k ρ => k ≤ P ∧ ∃ x, ρ = [Sl.fz (scD (List.map PyData.int ns)), Sl.fz (PyData.list (List.map PyData.int ds)), Sl.fz (PyData.int ↑P), Sl.fz (PyData.list (List.map PyData.int rh)), x, Sl.fz (PyData.str kept), Sl.fz (PyData.list (List.map PyData.int O)), Sl.fz (PyData.int q), Sl.fz (PyData.int ↑Y), Sl.fz (PyData.int w), Sl.fz (PyData.int ↑X), Sl.fz (PyData.list (List.map PyData.int lost)), Sl.fz (PyData.int ↑j), c, Sl.un, .fz (.list (((List.range P).map (stepsK rh P)).map .int)), .fz (.list ((ost rh P k).1.map .int)), .fz (.int (ost rh P k).2.1), Sl.un, Sl.un]) ⟨by omega, .un, by rw [hrPi]; rfl⟩ (fun k d ρ hd hP => ?_) (fun ρ hP => ?_)
  · obtain ⟨hk, x, rfl⟩ := hP
    have hkl : k < P := by
      have := (List.getElem?_eq_some_iff.mp hd).1
      rw [rangeL_len] at this
      omega
    have e := rangeL_get hd
    rw [Int.zero_add] at e
    subst e
    obtain ⟨l1, l2⟩ := ost_len rh P k (by omega)
    have ha : (ost rh P (k + 1)).2.1 < (ost rh P k).1.length := Nat.mod_lt _ (by omega)
    have hat := ost_at rh P k (by omega)
    have i1 : evIx (.list (((List.range P).map (stepsK rh P)).map .int)) (.int (k : Int)) = .ok (.int (stepsK rh P k)) := ix_l (by
      rw [List.getElem?_map, List.getElem?_map, List.getElem?_range hkl]
      rfl)
    have hst := fmod_bd ((((ost rh P (k + 1)).2.1 : Nat) : Int) - ((ost rh P k).2.1 : Int)) (b := ((P - k : Nat) : Int)) (by omega)
    have hs1 : stepsK rh P k = ((((ost rh P (k + 1)).2.1 : Nat) : Int) - ((ost rh P k).2.1 : Int)).fmod ((P - k : Nat) : Int) + 1 := rfl
    have s1 : decide ((1 : Int) ≤ stepsK rh P k) = true := decide_eq_true (by omega)
    have s2 : decide (stepsK rh P k ≤ (P : Int) - (k : Int)) = true := decide_eq_true (by omega)
    have e3 : (ost rh P (k + 1)).1 = (ost rh P k).1.take (ost rh P (k + 1)).2.1 ++ (ost rh P k).1.drop ((ost rh P (k + 1)).2.1 + 1) := rfl
    have hmod : evBin .mod (.int (((ost rh P k).2.1 : Int) + stepsK rh P k - 1)) (.int ((ost rh P k).1.length : Nat)) = .ok (.int (((ost rh P (k + 1)).2.1 : Nat) : Int)) := by
      rw [b_mod (by omega), hs1, l1]
      congr 2
      rw [show (((ost rh P k).2.1 : Int) + (((((ost rh P (k + 1)).2.1 : Nat) : Int) - ((ost rh P k).2.1 : Int)).fmod ((P - k : Nat) : Int) + 1) - 1) = ((ost rh P k).2.1 : Int) + ((((ost rh P (k + 1)).2.1 : Nat) : Int) - ((ost rh P k).2.1 : Int)).fmod ((P - k : Nat) : Int) by omega]
      rw [Int.fmod_eq_emod_of_nonneg _ (by omega), Int.fmod_eq_emod_of_nonneg _ (by omega)]
      have hem : ∀ a b m : Int, (a + b % m) % m = (a + b) % m := fun a b m => by simp
      rw [hem, show ((ost rh P k).2.1 : Int) + ((((ost rh P (k + 1)).2.1 : Nat) : Int) - ((ost rh P k).2.1 : Int)) = (((ost rh P (k + 1)).2.1 : Nat) : Int) by omega]
      exact Int.emod_eq_of_lt (by omega) (by omega)
    have i2 : evIx (.list ((ost rh P k).1.map .int)) (.int (((ost rh P (k + 1)).2.1 : Nat) : Int)) = .ok (.int ((ost rh P k).1.getD (ost rh P (k + 1)).2.1 0)) := by
      have z := ix_i (xs := (ost rh P k).1) (i := (((ost rh P (k + 1)).2.1 : Nat) : Int)) (by omega) (by omega)
      rw [Int.toNat_natCast] at z
      exact z
    have i3 : evIx (.list (O.map .int)) (.int (k : Int)) = .ok (.int ((ost rh P k).1.getD (ost rh P (k + 1)).2.1 0)) := ix_l (by
      rw [← hO, List.getElem?_map, hOg k hkl]
      rfl)
    have c1 := sl_to (xs := (ost rh P k).1) (a := (((ost rh P (k + 1)).2.1 : Nat) : Int)) (by omega)
    have c2 := sl_from (xs := (ost rh P k).1) (a := (((ost rh P (k + 1)).2.1 : Nat) : Int) + 1) (by omega)
    rw [Int.toNat_natCast] at c1
    rw [show ((((ost rh P (k + 1)).2.1 : Nat) : Int) + 1).toNat = (ost rh P (k + 1)).2.1 + 1 by omega] at c2
    have c3 := cat_i (xs := (ost rh P k).1.take (ost rh P (k + 1)).2.1) (ys := (ost rh P k).1.drop ((ost rh P (k + 1)).2.1 + 1)) (by rw [List.length_take, List.length_drop, hlim]; omega)
    rw [← e3] at c3
    unfold stp
    simp only [bt_nm, Rs.bind_ok, List.set_cons_succ, List.set_cons_zero, x_cons, x_ife, y_not, y_chain, y_c, y_ix, y_var, at_z, at_s, i1, c_le, s1, ch2_t, y_bin, b_sub, s2, tr_b, Bool.not_true, brn_f, x_nil, seqO_nx, x_set, y_bi, z_cons, z_nil, b_add, int_i, len_l, List.length_map, hmod, y_cmp, i2, i3, c_ne, decide_true, y_cat, y_sl, o_some, o_none, c1, c2, c3, Nx_ok]
    exact ⟨by omega, _, rfl⟩
  obtain ⟨hk, x, rfl⟩ := hP
  -- the product
  obtain ⟨W, by_, hW, hWr, hby, hrun⟩ : ∃ (W by_ : Int), (if (4 : Int) < (P : Int) then (4 : Int) else (P : Int)) = W ∧ (1 ≤ W ∧ W ≤ 4) ∧ (0 ≤ by_ ∧ by_ ≤ 100 ∧ (P < 5 → ∀ l : Nat, 1 ≤ l → l ≤ P → l ∣ by_.toNat)) ∧
      (∀ (cf : Nat → List D → Rs D) (gs : List Int) (s0 s1 s2 s3 s4 s5 s6 s7 s8 s9 s10 s11 s12 s13 s14 s15 s16 s17 s19 : Sl), Nx (forGo (stp cf gs T.sub (.nm 19) [.set 18 (.bin .mul (.var 18) (.var 19))]) (rangeL 1 (W + 1)) [s0, s1, s2, s3, s4, s5, s6, s7, s8, s9, s10, s11, s12, s13, s14, s15, s16, s17, .fz (.int 1), s19]) (fun ρ => ∃ y, ρ = [s0, s1, s2, s3, s4, s5, s6, s7, s8, s9, s10, s11, s12, s13, s14, s15, s16, s17, .fz (.int by_), y])) := by
    have m11 : evBin .mul (.int 1) (.int 1) = .ok (.int 1) := rfl
    have m12 : evBin .mul (.int 1) (.int 2) = .ok (.int 2) := rfl
    have m23 : evBin .mul (.int 2) (.int 3) = .ok (.int 6) := rfl
    have m64 : evBin .mul (.int 6) (.int 4) = .ok (.int 24) := rfl
    have r2 : rangeL 1 (1 + 1) = [.int 1] := rfl
    have r3 : rangeL 1 (2 + 1) = [.int 1, .int 2] := rfl
    have r4 : rangeL 1 (3 + 1) = [.int 1, .int 2, .int 3] := rfl
    have r5 : rangeL 1 (4 + 1) = [.int 1, .int 2, .int 3, .int 4] := rfl
    have hc : P = 1 ∨ P = 2 ∨ P = 3 ∨ 4 ≤ P := by omega
    rcases hc with hc | hc | hc | hc
    · refine ⟨1, 1, by rw [if_neg (by omega)]; omega, by omega, ⟨by omega, by omega, fun _ l a b => ?_⟩, fun cf gs s0 s1 s2 s3 s4 s5 s6 s7 s8 s9 s10 s11 s12 s13 s14 s15 s16 s17 s19 => ?_⟩
      · have : l = 1 := by omega
        subst this
        decide
      · rw [r2]
        simp only [forGo, stp, bt_nm, Rs.bind_ok, List.set_cons_succ, List.set_cons_zero, x_cons, x_set, y_bin, y_var, at_z, at_s, m11, seqO_nx, x_nil, Nx_ok]
        exact ⟨_, rfl⟩
    · refine ⟨2, 2, by rw [if_neg (by omega)]; omega, by omega, ⟨by omega, by omega, fun _ l a b => ?_⟩, fun cf gs s0 s1 s2 s3 s4 s5 s6 s7 s8 s9 s10 s11 s12 s13 s14 s15 s16 s17 s19 => ?_⟩
      · have : l = 1 ∨ l = 2 := by omega
        rcases this with rfl | rfl <;> decide
      · rw [r3]
        simp only [forGo, stp, bt_nm, Rs.bind_ok, List.set_cons_succ, List.set_cons_zero, x_cons, x_set, y_bin, y_var, at_z, at_s, m11, m12, seqO_nx, x_nil, Nx_ok]
        exact ⟨_, rfl⟩
    · refine ⟨3, 6, by rw [if_neg (by omega)]; omega, by omega, ⟨by omega, by omega, fun _ l a b => ?_⟩, fun cf gs s0 s1 s2 s3 s4 s5 s6 s7 s8 s9 s10 s11 s12 s13 s14 s15 s16 s17 s19 => ?_⟩
      · have : l = 1 ∨ l = 2 ∨ l = 3 := by omega
        rcases this with rfl | rfl | rfl <;> decide
      · rw [r4]
        simp only [forGo, stp, bt_nm, Rs.bind_ok, List.set_cons_succ, List.set_cons_zero, x_cons, x_set, y_bin, y_var, at_z, at_s, m11, m12, m23, seqO_nx, x_nil, Nx_ok]
        exact ⟨_, rfl⟩
    · refine ⟨4, 24, by split <;> omega, by omega, ⟨by omega, by omega, fun h5 l a b => ?_⟩, fun cf gs s0 s1 s2 s3 s4 s5 s6 s7 s8 s9 s10 s11 s12 s13 s14 s15 s16 s17 s19 => ?_⟩
      · have : l = 1 ∨ l = 2 ∨ l = 3 ∨ l = 4 := by omega
        rcases this with rfl | rfl | rfl | rfl <;> decide
      · rw [r5]
        simp only [forGo, stp, bt_nm, Rs.bind_ok, List.set_cons_succ, List.set_cons_zero, x_cons, x_set, y_bin, y_var, at_z, at_s, m11, m12, m23, m64, seqO_nx, x_nil, Nx_ok]
        exact ⟨_, rfl⟩
  have hrW : evRng 1 (W + 1) = .ok (.list (rangeL 1 (W + 1))) := if_pos (by omega)
  simp only [x_cons, x_set, y_c, Rs.bind_ok, seqO_nx, List.set_cons_succ, List.set_cons_zero, x_fr, y_rng2, y_bin, y_bi, z_cons, z_nil, y_var, at_z, at_s, min_i, hW, b_add, hrW, it_l]
  refine Nx_fin (hrun _ _ _ _ _ _ _ _ _ _ _ _ _ _ _ _ _ _ _ _ _) fun ρ hP => ?_
  obtain ⟨y, rfl⟩ := hP
  obtain ⟨mm, hmm, hmx2⟩ := max_l o.ne
  by_cases h5 : P < 5
  · have h5' : decide ((P : Int) < 5) = true := decide_eq_true (by omega)
    by_cases hs : mm + by_ ≤ 100
    · have hs' := decide_eq_true hs
      have o2 : Ok (P : Int) (rh.map (· + by_)) := ⟨p1, p2, by simpa using o.ne, by rw [List.length_map]; exact o.le, fun r hr => by
        obtain ⟨r1, g1, rfl⟩ := List.mem_map.mp hr
        have g2 := hmx2 r1 g1
        have g3 := o.r r1 g1
        show 1 ≤ r1 + by_ ∧ r1 + by_ ≤ 100
        omega⟩
      have oo2 := order_ok (n := 18) (by omega) o2
      have hsh2 := hsh by_ hby.1 (hby.2.2 h5)
      have hO2 : oseq (rh.map (· + by_)) P = O := by
        rw [← hO]
        show (ost _ P P).2.2 = (ost _ P P).2.2
        rw [hsh2]
      rw [Int.toNat_natCast, hO2] at oo2
      have hne := c_neL O O
      rw [decide_eq_true rfl] at hne
      have hlc : lcGo (lcs (callF T 19) [60, 6, 100, 1000000, 9] (.nm 19) [19] [] (.bin .add (.var 19) (.var 18)) [Sl.fz (scD (List.map PyData.int ns)), Sl.fz (PyData.list (List.map PyData.int ds)), Sl.fz (PyData.int ↑P), Sl.fz (PyData.list (List.map PyData.int rh)), x, Sl.fz (PyData.str kept), Sl.fz (PyData.list (List.map PyData.int O)), Sl.fz (PyData.int q), Sl.fz (PyData.int ↑Y), Sl.fz (PyData.int w), Sl.fz (PyData.int ↑X), Sl.fz (PyData.list (List.map PyData.int lost)), Sl.fz (PyData.int ↑j), c, Sl.un, .fz (.list (((List.range P).map (stepsK rh P)).map .int)), .fz (.list ((ost rh P (rangeL 0 (P : Int)).length).1.map .int)), .fz (.int (ost rh P (rangeL 0 (P : Int)).length).2.1), .fz (.int by_), y]) (rh.map .int) = .ok ((rh.map (· + by_)).map .int) := by
        rw [lcGo_map (g := fun d => match d with
          | .int k => .int (k + by_)
          | d => d)]
        · rw [List.map_map, List.map_map]
          rfl
        · intro d hd
          obtain ⟨z, hz, rfl⟩ := List.mem_map.mp hd
          unfold lcs
          simp [En.wipe]
      simp only [x_cons, x_ife, y_ands, a_cons, a_one, y_cmp, y_var, y_c, at_z, at_s, Rs.bind_ok, c_lt, h5', tr_b, andK_t, y_bin, y_bi, z_cons, z_nil, hmm, b_add, c_le, hs', y_call, y_lc, it_l, hlc, oo2, hne, Bool.not_true, brn_f, x_nil, seqO_nx, x_ret, fz, seqO_rt, fin_rt]
    · have hs' := decide_eq_false hs
      simp only [x_cons, x_ife, y_ands, a_cons, a_one, y_cmp, y_var, y_c, at_z, at_s, Rs.bind_ok, c_lt, h5', tr_b, andK_t, y_bin, y_bi, z_cons, z_nil, hmm, b_add, c_le, hs', andK_f, brn_f, x_nil, seqO_nx, x_ret, y_call, fz, seqO_rt, fin_rt]
  · have h5' : decide ((P : Int) < 5) = false := decide_eq_false (by omega)
    simp only [x_cons, x_ife, y_ands, a_cons, a_one, y_cmp, y_var, y_c, at_z, at_s, Rs.bind_ok, c_lt, h5', tr_b, andK_f, brn_f, x_nil, seqO_nx, x_ret, y_call, z_cons, z_nil, fz, seqO_rt, fin_rt]
end K64

namespace K64
open PySem PySem.Spec PyProof.Rows L2 Z
theorem iniS_sc : NdefX.NScope ["self", "at", "__class__"] ["self", "at"] ["__class__"] (defScope iniS) := NdefX.nscope_by (by decide +kernel)
theorem iniS_ks : (defScope iniS).names.lookup ("super" : Str) = some .globalImplicit := by decide +kernel
theorem prg_top : (prg.main.scope.names.lookup ("super" : Str)).isSome = false := by decide +kernel
def r_check_ring (a : Addr) (kV dc pm : Value) (an : Option Addr) (cd ct : Value) : Z.Row := ⟨f_check_ring, s_check_ring, a, PySem.W.fnOf "check_ring" "check_ring" (defArgs s_check_ring) (defBody s_check_ring) (defScope s_check_ring) .none kV dc pm an cd ct⟩
def r_order_of (a : Addr) (kV dc pm : Value) (an : Option Addr) (cd ct : Value) : Z.Row := ⟨f_order_of, s_order_of, a, PySem.W.fnOf "order_of" "order_of" (defArgs s_order_of) (defBody s_order_of) (defScope s_order_of) .none kV dc pm an cd ct⟩
def r_order (a : Addr) (kV dc pm : Value) (an : Option Addr) (cd ct : Value) : Z.Row := ⟨f_order, s_order, a, PySem.W.fnOf "order" "order" (defArgs s_order) (defBody s_order) (defScope s_order) .none kV dc pm an cd ct⟩
def r_last (a : Addr) (kV dc pm : Value) (an : Option Addr) (cd ct : Value) : Z.Row := ⟨f_last, s_last, a, PySem.W.fnOf "last" "last" (defArgs s_last) (defBody s_last) (defScope s_last) .none kV dc pm an cd ct⟩
def r_out_at (a : Addr) (kV dc pm : Value) (an : Option Addr) (cd ct : Value) : Z.Row := ⟨f_out_at, s_out_at, a, PySem.W.fnOf "out_at" "out_at" (defArgs s_out_at) (defBody s_out_at) (defScope s_out_at) .none kV dc pm an cd ct⟩
def r_alone (a : Addr) (kV dc pm : Value) (an : Option Addr) (cd ct : Value) : Z.Row := ⟨f_alone, s_alone, a, PySem.W.fnOf "alone" "alone" (defArgs s_alone) (defBody s_alone) (defScope s_alone) .none kV dc pm an cd ct⟩
def r_last_by_one (a : Addr) (kV dc pm : Value) (an : Option Addr) (cd ct : Value) : Z.Row := ⟨f_last_by_one, s_last_by_one, a, PySem.W.fnOf "last_by_one" "last_by_one" (defArgs s_last_by_one) (defBody s_last_by_one) (defScope s_last_by_one) .none kV dc pm an cd ct⟩
def r_least_step (a : Addr) (kV dc pm : Value) (an : Option Addr) (cd ct : Value) : Z.Row := ⟨f_least_step, s_least_step, a, PySem.W.fnOf "least_step" "least_step" (defArgs s_least_step) (defBody s_least_step) (defScope s_least_step) .none kV dc pm an cd ct⟩
def r_rhyme_of (a : Addr) (kV dc pm : Value) (an : Option Addr) (cd ct : Value) : Z.Row := ⟨f_rhyme_of, s_rhyme_of, a, PySem.W.fnOf "rhyme_of" "rhyme_of" (defArgs s_rhyme_of) (defBody s_rhyme_of) (defScope s_rhyme_of) .none kV dc pm an cd ct⟩
def r__law_draws (a : Addr) (kV dc pm : Value) (an : Option Addr) (cd ct : Value) : Z.Row := ⟨f__law_draws, s__law_draws, a, PySem.W.fnOf "_law_draws" "_law_draws" (defArgs s__law_draws) (defBody s__law_draws) (defScope s__law_draws) .none kV dc pm an cd ct⟩
def r__law_mix (a : Addr) (kV dc pm : Value) (an : Option Addr) (cd ct : Value) : Z.Row := ⟨f__law_mix, s__law_mix, a, PySem.W.fnOf "_law_mix" "_law_mix" (defArgs s__law_mix) (defBody s__law_mix) (defScope s__law_mix) .none kV dc pm an cd ct⟩
def r__law_order (a : Addr) (kV dc pm : Value) (an : Option Addr) (cd ct : Value) : Z.Row := ⟨f__law_order, s__law_order, a, PySem.W.fnOf "_law_order" "_law_order" (defArgs s__law_order) (defBody s__law_order) (defScope s__law_order) .none kV dc pm an cd ct⟩
def r__law_fault (a : Addr) (kV dc pm : Value) (an : Option Addr) (cd ct : Value) : Z.Row := ⟨f__law_fault, s__law_fault, a, PySem.W.fnOf "_law_fault" "_law_fault" (defArgs s__law_fault) (defBody s__law_fault) (defScope s__law_fault) .none kV dc pm an cd ct⟩
def r__law_faults (a : Addr) (kV dc pm : Value) (an : Option Addr) (cd ct : Value) : Z.Row := ⟨f__law_faults, s__law_faults, a, PySem.W.fnOf "_law_faults" "_law_faults" (defArgs s__law_faults) (defBody s__law_faults) (defScope s__law_faults) .none kV dc pm an cd ct⟩
def r_law (a : Addr) (kV dc pm : Value) (an : Option Addr) (cd ct : Value) : Z.Row := ⟨f_law, s_law, a, PySem.W.fnOf "law" "law" (defArgs s_law) (defBody s_law) (defScope s_law) .none kV dc pm an cd ct⟩
set_option maxHeartbeats 2000000
theorem all_mk {w : World} {K : PySem.W.Frag} {h : Heap} {mg : Str → Option Value} {D fI cda cc : Addr} {ocI kVI dcI pmI ctI ccl cl : Value} {odI anI cdd cld : Option Addr} {oslI ccs csl : Array (Option Value)} {cvs : Array Value} {cdD : ClassData} {file : Str} {tf : Tok}
    {C0 N0 : Addr} {nm0 q0 : Str} {bs0 sb0 : List Value} {sn0 : List Str} {ab0 : Bool} {col0 : Option Bool} {dd0 : Option Addr} {j0_0 j1_0 j2_0 j3_0 j5_0 : Option Value}
    {C1 N1 : Addr} {nm1 q1 : Str} {bs1 sb1 : List Value} {sn1 : List Str} {ab1 : Bool} {col1 : Option Bool} {dd1 : Option Addr} {j0_1 j1_1 j2_1 j3_1 j5_1 : Option Value}
    {C2 N2 : Addr} {nm2 q2 : Str} {bs2 sb2 : List Value} {sn2 : List Str} {ab2 : Bool} {col2 : Option Bool} {dd2 : Option Addr} {j0_2 j1_2 j2_2 j3_2 j5_2 : Option Value}
    {C3 N3 : Addr} {nm3 q3 : Str} {bs3 sb3 : List Value} {sn3 : List Str} {ab3 : Bool} {col3 : Option Bool} {dd3 : Option Addr} {j0_3 j1_3 j2_3 j3_3 j5_3 : Option Value}
    {C4 N4 : Addr} {nm4 q4 : Str} {bs4 sb4 : List Value} {sn4 : List Str} {ab4 : Bool} {col4 : Option Bool} {dd4 : Option Addr} {j0_4 j1_4 j2_4 j3_4 j5_4 : Option Value}
    {t0 t1 t2 t3 t4 : Tok}
    {a0 : Addr} {oc0 kV0 dc0 pm0 cd0 ct0 : Value} {od0 an0 : Option Addr} {osl0 : Array (Option Value)}
    {a1 : Addr} {oc1 kV1 dc1 pm1 cd1 ct1 : Value} {od1 an1 : Option Addr} {osl1 : Array (Option Value)}
    {a2 : Addr} {oc2 kV2 dc2 pm2 cd2 ct2 : Value} {od2 an2 : Option Addr} {osl2 : Array (Option Value)}
    {a3 : Addr} {oc3 kV3 dc3 pm3 cd3 ct3 : Value} {od3 an3 : Option Addr} {osl3 : Array (Option Value)}
    {a4 : Addr} {oc4 kV4 dc4 pm4 cd4 ct4 : Value} {od4 an4 : Option Addr} {osl4 : Array (Option Value)}
    {a5 : Addr} {oc5 kV5 dc5 pm5 cd5 ct5 : Value} {od5 an5 : Option Addr} {osl5 : Array (Option Value)}
    {a6 : Addr} {oc6 kV6 dc6 pm6 cd6 ct6 : Value} {od6 an6 : Option Addr} {osl6 : Array (Option Value)}
    {a7 : Addr} {oc7 kV7 dc7 pm7 cd7 ct7 : Value} {od7 an7 : Option Addr} {osl7 : Array (Option Value)}
    {a8 : Addr} {oc8 kV8 dc8 pm8 cd8 ct8 : Value} {od8 an8 : Option Addr} {osl8 : Array (Option Value)}
    {a9 : Addr} {oc9 kV9 dc9 pm9 cd9 ct9 : Value} {od9 an9 : Option Addr} {osl9 : Array (Option Value)}
    {a10 : Addr} {oc10 kV10 dc10 pm10 cd10 ct10 : Value} {od10 an10 : Option Addr} {osl10 : Array (Option Value)}
    {a11 : Addr} {oc11 kV11 dc11 pm11 cd11 ct11 : Value} {od11 an11 : Option Addr} {osl11 : Array (Option Value)}
    {a12 : Addr} {oc12 kV12 dc12 pm12 cd12 ct12 : Value} {od12 an12 : Option Addr} {osl12 : Array (Option Value)}
    {a13 : Addr} {oc13 kV13 dc13 pm13 cd13 ct13 : Value} {od13 an13 : Option Addr} {osl13 : Array (Option Value)}
    {a14 : Addr} {oc14 kV14 dc14 pm14 cd14 ct14 : Value} {od14 an14 : Option Addr} {osl14 : Array (Option Value)}
    (X : K.In h) (G : h.Ns mainGlobals mg)
    (nD : PySem.W.nsIn K mainGlobals "DiceError" = some (some (.ref D)))
    (hI : PySem.W.findIn K (.ref D) "__init__" = some (some (.ref fI)))
    (lI : K.lookup fI = some ⟨ocI, odI, .func (PySem.W.ksFn "__init__" "DiceError.__init__" (defArgs iniS) (defBody iniS) (defScope iniS) .none kVI dcI pmI anI (.ref cda) ctI cc), oslI⟩)
    (cI : PySem.W.codeIn K (.ref cda) "DiceError.__init__" = true)
    (lC : K.lookup cda = some ⟨ccl, cdd, .fields cvs, ccs⟩)
    (lc : K.lookup cc = some ⟨cl, cld, .cell (some (.ref D)), csl⟩)
    (tI : PySem.W.typeIn K (.ref fI) = some (.type "function"))
    (hD : PySem.W.clsIn K D = some cdD)
    (ms : PySem.W.nsIn K mainGlobals "super" = some none)
    (op : PySem.W.nsIn K cStatics "thirdparty.any" = some none)
    (nC0 : PySem.W.nsIn K mainGlobals "OutOfRange" = some (some (.ref C0)))
    (xL0 : K.lookup C0 = some (excClassObj nm0 q0 C0 N0 bs0 [.ref D, .type "ValueError", .type "Exception", .type "BaseException", .type "object"] true sn0 sb0 ab0 col0 dd0 j0_0 j1_0 j2_0 j3_0 j5_0 "ValueError.__new__"))
    (sa0 : PySem.W.findIn K (.ref C0) "__setattr__" = some (some (.builtin "object.__setattr__")))
    (ex0 : PySem.W.subIn K (.ref C0) (.type "BaseException") = some true)
    (ty0 : PySem.W.typeIn K (.ref C0) = some (.type "type"))
    (kc0 : PySem.W.keepIn K (.ref C0) = true)
    (no0 : PySem.W.findIn K (.ref C0) "at" = some none)
    (sv0 : PySem.W.subIn K (.ref C0) (.type "ValueError") = some true)
    (mr0 : PySem.W.mroIn K C0 (.ref D) = some true)
    (in0 : PySem.W.findIn K (.ref C0) "__init__" = some (some (.ref fI)))
    (ga0 : PySem.W.findIn K (.ref C0) "__getattribute__" = some (some (.builtin "BaseException.__getattribute__")))
    (gg0 : PySem.W.findIn K (.ref C0) "__getattr__" = some none)
    (hd0 : PySem.W.hasDictIn K C0 = true)
    (nC1 : PySem.W.nsIn K mainGlobals "WrongSize" = some (some (.ref C1)))
    (xL1 : K.lookup C1 = some (excClassObj nm1 q1 C1 N1 bs1 [.ref D, .type "ValueError", .type "Exception", .type "BaseException", .type "object"] true sn1 sb1 ab1 col1 dd1 j0_1 j1_1 j2_1 j3_1 j5_1 "ValueError.__new__"))
    (sa1 : PySem.W.findIn K (.ref C1) "__setattr__" = some (some (.builtin "object.__setattr__")))
    (ex1 : PySem.W.subIn K (.ref C1) (.type "BaseException") = some true)
    (ty1 : PySem.W.typeIn K (.ref C1) = some (.type "type"))
    (kc1 : PySem.W.keepIn K (.ref C1) = true)
    (no1 : PySem.W.findIn K (.ref C1) "at" = some none)
    (sv1 : PySem.W.subIn K (.ref C1) (.type "ValueError") = some true)
    (mr1 : PySem.W.mroIn K C1 (.ref D) = some true)
    (in1 : PySem.W.findIn K (.ref C1) "__init__" = some (some (.ref fI)))
    (ga1 : PySem.W.findIn K (.ref C1) "__getattribute__" = some (some (.builtin "BaseException.__getattribute__")))
    (gg1 : PySem.W.findIn K (.ref C1) "__getattr__" = some none)
    (hd1 : PySem.W.hasDictIn K C1 = true)
    (nC2 : PySem.W.nsIn K mainGlobals "BadOrder" = some (some (.ref C2)))
    (xL2 : K.lookup C2 = some (excClassObj nm2 q2 C2 N2 bs2 [.ref D, .type "ValueError", .type "Exception", .type "BaseException", .type "object"] true sn2 sb2 ab2 col2 dd2 j0_2 j1_2 j2_2 j3_2 j5_2 "ValueError.__new__"))
    (sa2 : PySem.W.findIn K (.ref C2) "__setattr__" = some (some (.builtin "object.__setattr__")))
    (ex2 : PySem.W.subIn K (.ref C2) (.type "BaseException") = some true)
    (ty2 : PySem.W.typeIn K (.ref C2) = some (.type "type"))
    (kc2 : PySem.W.keepIn K (.ref C2) = true)
    (no2 : PySem.W.findIn K (.ref C2) "at" = some none)
    (sv2 : PySem.W.subIn K (.ref C2) (.type "ValueError") = some true)
    (mr2 : PySem.W.mroIn K C2 (.ref D) = some true)
    (in2 : PySem.W.findIn K (.ref C2) "__init__" = some (some (.ref fI)))
    (ga2 : PySem.W.findIn K (.ref C2) "__getattribute__" = some (some (.builtin "BaseException.__getattribute__")))
    (gg2 : PySem.W.findIn K (.ref C2) "__getattr__" = some none)
    (hd2 : PySem.W.hasDictIn K C2 = true)
    (nC3 : PySem.W.nsIn K mainGlobals "BadRhyme" = some (some (.ref C3)))
    (xL3 : K.lookup C3 = some (excClassObj nm3 q3 C3 N3 bs3 [.ref D, .type "ValueError", .type "Exception", .type "BaseException", .type "object"] true sn3 sb3 ab3 col3 dd3 j0_3 j1_3 j2_3 j3_3 j5_3 "ValueError.__new__"))
    (sa3 : PySem.W.findIn K (.ref C3) "__setattr__" = some (some (.builtin "object.__setattr__")))
    (ex3 : PySem.W.subIn K (.ref C3) (.type "BaseException") = some true)
    (ty3 : PySem.W.typeIn K (.ref C3) = some (.type "type"))
    (kc3 : PySem.W.keepIn K (.ref C3) = true)
    (no3 : PySem.W.findIn K (.ref C3) "at" = some none)
    (sv3 : PySem.W.subIn K (.ref C3) (.type "ValueError") = some true)
    (mr3 : PySem.W.mroIn K C3 (.ref D) = some true)
    (in3 : PySem.W.findIn K (.ref C3) "__init__" = some (some (.ref fI)))
    (ga3 : PySem.W.findIn K (.ref C3) "__getattribute__" = some (some (.builtin "BaseException.__getattribute__")))
    (gg3 : PySem.W.findIn K (.ref C3) "__getattr__" = some none)
    (hd3 : PySem.W.hasDictIn K C3 = true)
    (nC4 : PySem.W.nsIn K mainGlobals "BadPerson" = some (some (.ref C4)))
    (xL4 : K.lookup C4 = some (excClassObj nm4 q4 C4 N4 bs4 [.ref D, .type "ValueError", .type "Exception", .type "BaseException", .type "object"] true sn4 sb4 ab4 col4 dd4 j0_4 j1_4 j2_4 j3_4 j5_4 "ValueError.__new__"))
    (sa4 : PySem.W.findIn K (.ref C4) "__setattr__" = some (some (.builtin "object.__setattr__")))
    (ex4 : PySem.W.subIn K (.ref C4) (.type "BaseException") = some true)
    (ty4 : PySem.W.typeIn K (.ref C4) = some (.type "type"))
    (kc4 : PySem.W.keepIn K (.ref C4) = true)
    (no4 : PySem.W.findIn K (.ref C4) "at" = some none)
    (sv4 : PySem.W.subIn K (.ref C4) (.type "ValueError") = some true)
    (mr4 : PySem.W.mroIn K C4 (.ref D) = some true)
    (in4 : PySem.W.findIn K (.ref C4) "__init__" = some (some (.ref fI)))
    (ga4 : PySem.W.findIn K (.ref C4) "__getattribute__" = some (some (.builtin "BaseException.__getattribute__")))
    (gg4 : PySem.W.findIn K (.ref C4) "__getattr__" = some none)
    (hd4 : PySem.W.hasDictIn K C4 = true)
    (e0_0 : PySem.W.subIn K (.ref C0) (.ref C0) = some true)
    (e0_1 : PySem.W.subIn K (.ref C0) (.ref C1) = some false)
    (e0_2 : PySem.W.subIn K (.ref C0) (.ref C2) = some false)
    (e0_3 : PySem.W.subIn K (.ref C0) (.ref C3) = some false)
    (e0_4 : PySem.W.subIn K (.ref C0) (.ref C4) = some false)
    (e1_0 : PySem.W.subIn K (.ref C1) (.ref C0) = some false)
    (e1_1 : PySem.W.subIn K (.ref C1) (.ref C1) = some true)
    (e1_2 : PySem.W.subIn K (.ref C1) (.ref C2) = some false)
    (e1_3 : PySem.W.subIn K (.ref C1) (.ref C3) = some false)
    (e1_4 : PySem.W.subIn K (.ref C1) (.ref C4) = some false)
    (e2_0 : PySem.W.subIn K (.ref C2) (.ref C0) = some false)
    (e2_1 : PySem.W.subIn K (.ref C2) (.ref C1) = some false)
    (e2_2 : PySem.W.subIn K (.ref C2) (.ref C2) = some true)
    (e2_3 : PySem.W.subIn K (.ref C2) (.ref C3) = some false)
    (e2_4 : PySem.W.subIn K (.ref C2) (.ref C4) = some false)
    (e3_0 : PySem.W.subIn K (.ref C3) (.ref C0) = some false)
    (e3_1 : PySem.W.subIn K (.ref C3) (.ref C1) = some false)
    (e3_2 : PySem.W.subIn K (.ref C3) (.ref C2) = some false)
    (e3_3 : PySem.W.subIn K (.ref C3) (.ref C3) = some true)
    (e3_4 : PySem.W.subIn K (.ref C3) (.ref C4) = some false)
    (e4_0 : PySem.W.subIn K (.ref C4) (.ref C0) = some false)
    (e4_1 : PySem.W.subIn K (.ref C4) (.ref C1) = some false)
    (e4_2 : PySem.W.subIn K (.ref C4) (.ref C2) = some false)
    (e4_3 : PySem.W.subIn K (.ref C4) (.ref C3) = some false)
    (e4_4 : PySem.W.subIn K (.ref C4) (.ref C4) = some true)
    (g0 : PySem.W.nsIn K mainGlobals "MOST_PEOPLE" = some (some (.int 60 t0)))
    (g1 : PySem.W.nsIn K mainGlobals "MOST_RHYME" = some (some (.int 6 t1)))
    (g2 : PySem.W.nsIn K mainGlobals "MOST_COUNT" = some (some (.int 100 t2)))
    (g3 : PySem.W.nsIn K mainGlobals "MOST_ALONE" = some (some (.int 1000000 t3)))
    (g4 : PySem.W.nsIn K mainGlobals "MOST_SMALL" = some (some (.int 9 t4)))
    (b0 : PySem.W.nsIn K mainGlobals "abs" = some none)
    (b1 : PySem.W.nsIn K mainGlobals "enumerate" = some none)
    (b2 : PySem.W.nsIn K mainGlobals "int" = some none)
    (b3 : PySem.W.nsIn K mainGlobals "len" = some none)
    (b4 : PySem.W.nsIn K mainGlobals "list" = some none)
    (b5 : PySem.W.nsIn K mainGlobals "max" = some none)
    (b6 : PySem.W.nsIn K mainGlobals "min" = some none)
    (b7 : PySem.W.nsIn K mainGlobals "range" = some none)
    (b8 : PySem.W.nsIn K mainGlobals "repr" = some none)
    (n0 : PySem.W.nsIn K mainGlobals "check_ring" = some (some (.ref a0)))
    (l0 : K.lookup a0 = some ⟨oc0, od0, .func (PySem.W.fnOf "check_ring" "check_ring" (defArgs s_check_ring) (defBody s_check_ring) (defScope s_check_ring) .none kV0 dc0 pm0 an0 cd0 ct0), osl0⟩)
    (c0 : PySem.W.codeIn K cd0 "check_ring" = true)
    (k0 : PySem.W.keepIn K (.ref a0) = true)
    (n1 : PySem.W.nsIn K mainGlobals "order_of" = some (some (.ref a1)))
    (l1 : K.lookup a1 = some ⟨oc1, od1, .func (PySem.W.fnOf "order_of" "order_of" (defArgs s_order_of) (defBody s_order_of) (defScope s_order_of) .none kV1 dc1 pm1 an1 cd1 ct1), osl1⟩)
    (c1 : PySem.W.codeIn K cd1 "order_of" = true)
    (k1 : PySem.W.keepIn K (.ref a1) = true)
    (n2 : PySem.W.nsIn K mainGlobals "order" = some (some (.ref a2)))
    (l2 : K.lookup a2 = some ⟨oc2, od2, .func (PySem.W.fnOf "order" "order" (defArgs s_order) (defBody s_order) (defScope s_order) .none kV2 dc2 pm2 an2 cd2 ct2), osl2⟩)
    (c2 : PySem.W.codeIn K cd2 "order" = true)
    (k2 : PySem.W.keepIn K (.ref a2) = true)
    (n3 : PySem.W.nsIn K mainGlobals "last" = some (some (.ref a3)))
    (l3 : K.lookup a3 = some ⟨oc3, od3, .func (PySem.W.fnOf "last" "last" (defArgs s_last) (defBody s_last) (defScope s_last) .none kV3 dc3 pm3 an3 cd3 ct3), osl3⟩)
    (c3 : PySem.W.codeIn K cd3 "last" = true)
    (k3 : PySem.W.keepIn K (.ref a3) = true)
    (n4 : PySem.W.nsIn K mainGlobals "out_at" = some (some (.ref a4)))
    (l4 : K.lookup a4 = some ⟨oc4, od4, .func (PySem.W.fnOf "out_at" "out_at" (defArgs s_out_at) (defBody s_out_at) (defScope s_out_at) .none kV4 dc4 pm4 an4 cd4 ct4), osl4⟩)
    (c4 : PySem.W.codeIn K cd4 "out_at" = true)
    (k4 : PySem.W.keepIn K (.ref a4) = true)
    (n5 : PySem.W.nsIn K mainGlobals "alone" = some (some (.ref a5)))
    (l5 : K.lookup a5 = some ⟨oc5, od5, .func (PySem.W.fnOf "alone" "alone" (defArgs s_alone) (defBody s_alone) (defScope s_alone) .none kV5 dc5 pm5 an5 cd5 ct5), osl5⟩)
    (c5 : PySem.W.codeIn K cd5 "alone" = true)
    (k5 : PySem.W.keepIn K (.ref a5) = true)
    (n6 : PySem.W.nsIn K mainGlobals "last_by_one" = some (some (.ref a6)))
    (l6 : K.lookup a6 = some ⟨oc6, od6, .func (PySem.W.fnOf "last_by_one" "last_by_one" (defArgs s_last_by_one) (defBody s_last_by_one) (defScope s_last_by_one) .none kV6 dc6 pm6 an6 cd6 ct6), osl6⟩)
    (c6 : PySem.W.codeIn K cd6 "last_by_one" = true)
    (k6 : PySem.W.keepIn K (.ref a6) = true)
    (n7 : PySem.W.nsIn K mainGlobals "least_step" = some (some (.ref a7)))
    (l7 : K.lookup a7 = some ⟨oc7, od7, .func (PySem.W.fnOf "least_step" "least_step" (defArgs s_least_step) (defBody s_least_step) (defScope s_least_step) .none kV7 dc7 pm7 an7 cd7 ct7), osl7⟩)
    (c7 : PySem.W.codeIn K cd7 "least_step" = true)
    (k7 : PySem.W.keepIn K (.ref a7) = true)
    (n8 : PySem.W.nsIn K mainGlobals "rhyme_of" = some (some (.ref a8)))
    (l8 : K.lookup a8 = some ⟨oc8, od8, .func (PySem.W.fnOf "rhyme_of" "rhyme_of" (defArgs s_rhyme_of) (defBody s_rhyme_of) (defScope s_rhyme_of) .none kV8 dc8 pm8 an8 cd8 ct8), osl8⟩)
    (c8 : PySem.W.codeIn K cd8 "rhyme_of" = true)
    (k8 : PySem.W.keepIn K (.ref a8) = true)
    (n9 : PySem.W.nsIn K mainGlobals "_law_draws" = some (some (.ref a9)))
    (l9 : K.lookup a9 = some ⟨oc9, od9, .func (PySem.W.fnOf "_law_draws" "_law_draws" (defArgs s__law_draws) (defBody s__law_draws) (defScope s__law_draws) .none kV9 dc9 pm9 an9 cd9 ct9), osl9⟩)
    (c9 : PySem.W.codeIn K cd9 "_law_draws" = true)
    (k9 : PySem.W.keepIn K (.ref a9) = true)
    (n10 : PySem.W.nsIn K mainGlobals "_law_mix" = some (some (.ref a10)))
    (l10 : K.lookup a10 = some ⟨oc10, od10, .func (PySem.W.fnOf "_law_mix" "_law_mix" (defArgs s__law_mix) (defBody s__law_mix) (defScope s__law_mix) .none kV10 dc10 pm10 an10 cd10 ct10), osl10⟩)
    (c10 : PySem.W.codeIn K cd10 "_law_mix" = true)
    (k10 : PySem.W.keepIn K (.ref a10) = true)
    (n11 : PySem.W.nsIn K mainGlobals "_law_order" = some (some (.ref a11)))
    (l11 : K.lookup a11 = some ⟨oc11, od11, .func (PySem.W.fnOf "_law_order" "_law_order" (defArgs s__law_order) (defBody s__law_order) (defScope s__law_order) .none kV11 dc11 pm11 an11 cd11 ct11), osl11⟩)
    (c11 : PySem.W.codeIn K cd11 "_law_order" = true)
    (k11 : PySem.W.keepIn K (.ref a11) = true)
    (n12 : PySem.W.nsIn K mainGlobals "_law_fault" = some (some (.ref a12)))
    (l12 : K.lookup a12 = some ⟨oc12, od12, .func (PySem.W.fnOf "_law_fault" "_law_fault" (defArgs s__law_fault) (defBody s__law_fault) (defScope s__law_fault) .none kV12 dc12 pm12 an12 cd12 ct12), osl12⟩)
    (c12 : PySem.W.codeIn K cd12 "_law_fault" = true)
    (k12 : PySem.W.keepIn K (.ref a12) = true)
    (n13 : PySem.W.nsIn K mainGlobals "_law_faults" = some (some (.ref a13)))
    (l13 : K.lookup a13 = some ⟨oc13, od13, .func (PySem.W.fnOf "_law_faults" "_law_faults" (defArgs s__law_faults) (defBody s__law_faults) (defScope s__law_faults) .none kV13 dc13 pm13 an13 cd13 ct13), osl13⟩)
    (c13 : PySem.W.codeIn K cd13 "_law_faults" = true)
    (k13 : PySem.W.keepIn K (.ref a13) = true)
    (n14 : PySem.W.nsIn K mainGlobals "law" = some (some (.ref a14)))
    (l14 : K.lookup a14 = some ⟨oc14, od14, .func (PySem.W.fnOf "law" "law" (defArgs s_law) (defBody s_law) (defScope s_law) .none kV14 dc14 pm14 an14 cd14 ct14), osl14⟩)
    (c14 : PySem.W.codeIn K cd14 "law" = true)
    (k14 : PySem.W.keepIn K (.ref a14) = true)
    (hv : cvs[2]? = some (.str file tf)) (hf : ((prg.main.file : Str) == file) = true) (ne0 : (C0 == D) = false) (ne1 : (C1 == D) = false) (ne2 : (C2 == D) = false) (ne3 : (C3 == D) = false) (ne4 : (C4 == D) = false) :
    ∃ (G : Gm) (bl : List Str) (rs : List Z.Row) (j : Nat) (r : Z.Row), PrOk prg w K mg G bl rs ∧ rs[j]? = some r ∧ r.f.name = ("law" : Str) ∧ r.f.N.take r.f.np = [("script" : Str)] ∧ r.f.fresh = false ∧ ∀ ns : List Int, ns.length ≤ 63 → callF G.T 20 j [scD (ns.map PyData.int)] = .ok (.bool true) := by
  have K0 : ClsK K D fI C0 := clsK_mk xL0 sa0 ex0 ty0 kc0 no0 sv0 mr0 in0 ga0 gg0 hd0 ne0
  have K1 : ClsK K D fI C1 := clsK_mk xL1 sa1 ex1 ty1 kc1 no1 sv1 mr1 in1 ga1 gg1 hd1 ne1
  have K2 : ClsK K D fI C2 := clsK_mk xL2 sa2 ex2 ty2 kc2 no2 sv2 mr2 in2 ga2 gg2 hd2 ne2
  have K3 : ClsK K D fI C3 := clsK_mk xL3 sa3 ex3 ty3 kc3 no3 sv3 mr3 in3 ga3 gg3 hd3 ne3
  have K4 : ClsK K D fI C4 := clsK_mk xL4 sa4 ex4 ty4 kc4 no4 sv4 mr4 in4 ga4 gg4 hd4 ne4
  have ini : IniD prg K mg D fI iniS _ := ⟨⟨_, _, _, _, _, _, _, _, _, _, _, _, rfl, lI, cI, ⟨_, _, _, _, _, _, lC, hv, hf⟩, _, _, _, lc⟩, tI, by rw [hD]; rfl, iniS_sc, iniS_ks, prg_top, PySem.W.mg_none_of X G ms, op, ⟨_, rfl, rfl⟩, ⟨_, _, _, _, _, _, _, _, _, _, rfl, fun env => ⟨_, rfl⟩⟩, .all fun us hl => match us, hl with | [_, _], _ => rfl⟩
  have R0 : RowOk K mg T bl (r_check_ring a0 kV0 dc0 pm0 an0 cd0 ct0) := row_mk (T := T) (bl := bl) (f := f_check_ring) (st := s_check_ring) X G n0 l0 c0 k0 (by decide +kernel) rfl (fun _ _ _ _ _ _ us hl => match us, hl with | [_, _], _ => rfl) ok_check_ring
  have R1 : RowOk K mg T bl (r_order_of a1 kV1 dc1 pm1 an1 cd1 ct1) := row_mk (T := T) (bl := bl) (f := f_order_of) (st := s_order_of) X G n1 l1 c1 k1 (by decide +kernel) rfl (fun _ _ _ _ _ _ us hl => match us, hl with | [_, _], _ => rfl) ok_order_of
  have R2 : RowOk K mg T bl (r_order a2 kV2 dc2 pm2 an2 cd2 ct2) := row_mk (T := T) (bl := bl) (f := f_order) (st := s_order) X G n2 l2 c2 k2 (by decide +kernel) rfl (fun _ _ _ _ _ _ us hl => match us, hl with | [_, _], _ => rfl) ok_order
  have R3 : RowOk K mg T bl (r_last a3 kV3 dc3 pm3 an3 cd3 ct3) := row_mk (T := T) (bl := bl) (f := f_last) (st := s_last) X G n3 l3 c3 k3 (by decide +kernel) rfl (fun _ _ _ _ _ _ us hl => match us, hl with | [_, _], _ => rfl) ok_last
  have R4 : RowOk K mg T bl (r_out_at a4 kV4 dc4 pm4 an4 cd4 ct4) := row_mk (T := T) (bl := bl) (f := f_out_at) (st := s_out_at) X G n4 l4 c4 k4 (by decide +kernel) rfl (fun _ _ _ _ _ _ us hl => match us, hl with | [_, _, _], _ => rfl) ok_out_at
  have R5 : RowOk K mg T bl (r_alone a5 kV5 dc5 pm5 an5 cd5 ct5) := row_mk (T := T) (bl := bl) (f := f_alone) (st := s_alone) X G n5 l5 c5 k5 (by decide +kernel) rfl (fun _ _ _ _ _ _ us hl => match us, hl with | [_, _], _ => rfl) ok_alone
  have R6 : RowOk K mg T bl (r_last_by_one a6 kV6 dc6 pm6 an6 cd6 ct6) := row_mk (T := T) (bl := bl) (f := f_last_by_one) (st := s_last_by_one) X G n6 l6 c6 k6 (by decide +kernel) rfl (fun _ _ _ _ _ _ us hl => match us, hl with | [_, _], _ => rfl) ok_last_by_one
  have R7 : RowOk K mg T bl (r_least_step a7 kV7 dc7 pm7 an7 cd7 ct7) := row_mk (T := T) (bl := bl) (f := f_least_step) (st := s_least_step) X G n7 l7 c7 k7 (by decide +kernel) rfl (fun _ _ _ _ _ _ us hl => match us, hl with | [_, _], _ => rfl) ok_least_step
  have R8 : RowOk K mg T bl (r_rhyme_of a8 kV8 dc8 pm8 an8 cd8 ct8) := row_mk (T := T) (bl := bl) (f := f_rhyme_of) (st := s_rhyme_of) X G n8 l8 c8 k8 (by decide +kernel) rfl (fun _ _ _ _ _ _ us hl => match us, hl with | [_], _ => rfl) ok_rhyme_of
  have R9 : RowOk K mg T bl (r__law_draws a9 kV9 dc9 pm9 an9 cd9 ct9) := row_mk (T := T) (bl := bl) (f := f__law_draws) (st := s__law_draws) X G n9 l9 c9 k9 (by decide +kernel) rfl (fun _ _ _ _ _ _ us hl => match us, hl with | [_], _ => rfl) ok__law_draws
  have R10 : RowOk K mg T bl (r__law_mix a10 kV10 dc10 pm10 an10 cd10 ct10) := row_mk (T := T) (bl := bl) (f := f__law_mix) (st := s__law_mix) X G n10 l10 c10 k10 (by decide +kernel) rfl (fun _ _ _ _ _ _ us hl => match us, hl with | [_, _, _], _ => rfl) ok__law_mix
  have R11 : RowOk K mg T bl (r__law_order a11 kV11 dc11 pm11 an11 cd11 ct11) := row_mk (T := T) (bl := bl) (f := f__law_order) (st := s__law_order) X G n11 l11 c11 k11 (by decide +kernel) rfl (fun _ _ _ _ _ _ us hl => match us, hl with | [_, _], _ => rfl) ok__law_order
  have R12 : RowOk K mg T bl (r__law_fault a12 kV12 dc12 pm12 an12 cd12 ct12) := row_mk (T := T) (bl := bl) (f := f__law_fault) (st := s__law_fault) X G n12 l12 c12 k12 (by decide +kernel) rfl (fun _ _ _ _ _ _ us hl => match us, hl with | [_, _, _, _], _ => rfl) ok__law_fault
  have R13 : RowOk K mg T bl (r__law_faults a13 kV13 dc13 pm13 an13 cd13 ct13) := row_mk (T := T) (bl := bl) (f := f__law_faults) (st := s__law_faults) X G n13 l13 c13 k13 (by decide +kernel) rfl (fun _ _ _ _ _ _ us hl => match us, hl with | [_, _, _], _ => rfl) ok__law_faults
  have R14 : RowOk K mg T bl (r_law a14 kV14 dc14 pm14 an14 cd14 ct14) := row_mk (T := T) (bl := bl) (f := f_law) (st := s_law) X G n14 l14 c14 k14 (by decide +kernel) rfl (fun _ _ _ _ _ _ us hl => match us, hl with | [_], _ => rfl) ok_law
  refine ⟨_, bl, [r_check_ring a0 kV0 dc0 pm0 an0 cd0 ct0, r_order_of a1 kV1 dc1 pm1 an1 cd1 ct1, r_order a2 kV2 dc2 pm2 an2 cd2 ct2, r_last a3 kV3 dc3 pm3 an3 cd3 ct3, r_out_at a4 kV4 dc4 pm4 an4 cd4 ct4, r_alone a5 kV5 dc5 pm5 an5 cd5 ct5, r_last_by_one a6 kV6 dc6 pm6 an6 cd6 ct6, r_least_step a7 kV7 dc7 pm7 an7 cd7 ct7, r_rhyme_of a8 kV8 dc8 pm8 an8 cd8 ct8, r__law_draws a9 kV9 dc9 pm9 an9 cd9 ct9, r__law_mix a10 kV10 dc10 pm10 an10 cd10 ct10, r__law_order a11 kV11 dc11 pm11 an11 cd11 ct11, r__law_fault a12 kV12 dc12 pm12 an12 cd12 ct12, r__law_faults a13 kV13 dc13 pm13 an13 cd13 ct13, r_law a14 kV14 dc14 pm14 an14 cd14 ct14], 14, r_law a14 kV14 dc14 pm14 an14 cd14 ct14, prOk_mk (T := T) (rs := [r_check_ring a0 kV0 dc0 pm0 an0 cd0 ct0, r_order_of a1 kV1 dc1 pm1 an1 cd1 ct1, r_order a2 kV2 dc2 pm2 an2 cd2 ct2, r_last a3 kV3 dc3 pm3 an3 cd3 ct3, r_out_at a4 kV4 dc4 pm4 an4 cd4 ct4, r_alone a5 kV5 dc5 pm5 an5 cd5 ct5, r_last_by_one a6 kV6 dc6 pm6 an6 cd6 ct6, r_least_step a7 kV7 dc7 pm7 an7 cd7 ct7, r_rhyme_of a8 kV8 dc8 pm8 an8 cd8 ct8, r__law_draws a9 kV9 dc9 pm9 an9 cd9 ct9, r__law_mix a10 kV10 dc10 pm10 an10 cd10 ct10, r__law_order a11 kV11 dc11 pm11 an11 cd11 ct11, r__law_fault a12 kV12 dc12 pm12 an12 cd12 ct12, r__law_faults a13 kV13 dc13 pm13 an13 cd13 ct13, r_law a14 kV14 dc14 pm14 an14 cd14 ct14]) (cs := [C0, C1, C2, C3, C4]) (c0 := C0) (d0 := (r_law a14 kV14 dc14 pm14 an14 cd14 ct14).d) (w := w) X G rfl ?_ ?_ ?_ ?_ rfl ?_ ?_ ?_ ini, rfl, rfl, rfl, rfl, fun ns h => law_true ns h⟩
  · exact List.forall_mem_cons.mpr ⟨R0, List.forall_mem_cons.mpr ⟨R1, List.forall_mem_cons.mpr ⟨R2, List.forall_mem_cons.mpr ⟨R3, List.forall_mem_cons.mpr ⟨R4, List.forall_mem_cons.mpr ⟨R5, List.forall_mem_cons.mpr ⟨R6, List.forall_mem_cons.mpr ⟨R7, List.forall_mem_cons.mpr ⟨R8, List.forall_mem_cons.mpr ⟨R9, List.forall_mem_cons.mpr ⟨R10, List.forall_mem_cons.mpr ⟨R11, List.forall_mem_cons.mpr ⟨R12, List.forall_mem_cons.mpr ⟨R13, List.forall_mem_cons.mpr ⟨R14, fun _ z => nomatch z⟩⟩⟩⟩⟩⟩⟩⟩⟩⟩⟩⟩⟩⟩⟩
  · exact List.forall_mem_cons.mpr ⟨fun _ => b0, List.forall_mem_cons.mpr ⟨fun _ => b1, List.forall_mem_cons.mpr ⟨fun _ => b2, List.forall_mem_cons.mpr ⟨fun _ => b3, List.forall_mem_cons.mpr ⟨fun _ => b4, List.forall_mem_cons.mpr ⟨fun _ => b5, List.forall_mem_cons.mpr ⟨fun _ => b6, List.forall_mem_cons.mpr ⟨fun _ => b7, List.forall_mem_cons.mpr ⟨fun _ => b8, fun _ z => nomatch z⟩⟩⟩⟩⟩⟩⟩⟩⟩
  · exact fun z => absurd z (by decide +kernel)
  · exact List.forall_mem_cons.mpr ⟨⟨_, g0⟩, List.forall_mem_cons.mpr ⟨⟨_, g1⟩, List.forall_mem_cons.mpr ⟨⟨_, g2⟩, List.forall_mem_cons.mpr ⟨⟨_, g3⟩, List.forall_mem_cons.mpr ⟨⟨_, g4⟩, fun _ z => nomatch z⟩⟩⟩⟩⟩
  · exact List.forall_mem_cons.mpr ⟨K0, List.forall_mem_cons.mpr ⟨K1, List.forall_mem_cons.mpr ⟨K2, List.forall_mem_cons.mpr ⟨K3, List.forall_mem_cons.mpr ⟨K4, fun _ z => nomatch z⟩⟩⟩⟩⟩
  · exact fun k p hp => match k, p, hp with
      | 0, _, rfl => ⟨_, rfl, nC0, by decide +kernel⟩
      | 1, _, rfl => ⟨_, rfl, nC1, by decide +kernel⟩
      | 2, _, rfl => ⟨_, rfl, nC2, by decide +kernel⟩
      | 3, _, rfl => ⟨_, rfl, nC3, by decide +kernel⟩
      | 4, _, rfl => ⟨_, rfl, nC4, by decide +kernel⟩
      | k + 5, _, hp => nomatch hp
  · exact fun c k hk => match c, k, hk with
      | 0, 0, _ => ⟨_, rfl, e0_0⟩
      | 0, 1, _ => ⟨_, rfl, e0_1⟩
      | 0, 2, _ => ⟨_, rfl, e0_2⟩
      | 0, 3, _ => ⟨_, rfl, e0_3⟩
      | 0, 4, _ => ⟨_, rfl, e0_4⟩
      | 1, 0, _ => ⟨_, rfl, e1_0⟩
      | 1, 1, _ => ⟨_, rfl, e1_1⟩
      | 1, 2, _ => ⟨_, rfl, e1_2⟩
      | 1, 3, _ => ⟨_, rfl, e1_3⟩
      | 1, 4, _ => ⟨_, rfl, e1_4⟩
      | 2, 0, _ => ⟨_, rfl, e2_0⟩
      | 2, 1, _ => ⟨_, rfl, e2_1⟩
      | 2, 2, _ => ⟨_, rfl, e2_2⟩
      | 2, 3, _ => ⟨_, rfl, e2_3⟩
      | 2, 4, _ => ⟨_, rfl, e2_4⟩
      | 3, 0, _ => ⟨_, rfl, e3_0⟩
      | 3, 1, _ => ⟨_, rfl, e3_1⟩
      | 3, 2, _ => ⟨_, rfl, e3_2⟩
      | 3, 3, _ => ⟨_, rfl, e3_3⟩
      | 3, 4, _ => ⟨_, rfl, e3_4⟩
      | 4, 0, _ => ⟨_, rfl, e4_0⟩
      | 4, 1, _ => ⟨_, rfl, e4_1⟩
      | 4, 2, _ => ⟨_, rfl, e4_2⟩
      | 4, 3, _ => ⟨_, rfl, e4_3⟩
      | 4, 4, _ => ⟨_, rfl, e4_4⟩
      | c + 5, 0, _ => ⟨_, rfl, e0_0⟩
      | c + 5, 1, _ => ⟨_, rfl, e0_1⟩
      | c + 5, 2, _ => ⟨_, rfl, e0_2⟩
      | c + 5, 3, _ => ⟨_, rfl, e0_3⟩
      | c + 5, 4, _ => ⟨_, rfl, e0_4⟩
      | _, k + 5, hk => absurd (show k + 5 < 5 from hk) (by omega)
end K64
open PySem PySem.W PyProof.Rows
set_option maxHeartbeats 0 in
theorem PySem.Challenge.cw_diceandtracks_k64_whole_rings_counted_ou_holds : PySem.Challenge.rw_diceandtracks_k64_whole_rings_counted_ou.Holds := by
  w_on; o_law; k_head; (case hw => w_witness2)
  k_fill
  refine Z.walk_ofG (l := PySem.Challenge.rw_diceandtracks_k64_whole_rings_counted_ou) (n := 63) (k := 20) (x := "script") rfl (by unfold Z.LIM; decide) rfl ⟨rfl, by decide, by decide⟩ (fun w h Y => PySem.W.kIn_of Y) ?F
  case F =>
    intro w mg fa h KX G hmg
    refine' K64.all_mk KX G ?ZnD ?ZhI ?ZlI ?ZcI ?ZlC ?Zlc ?ZtI ?ZhD ?Zms ?Zop ?ZnC0 ?ZxL0 ?Zsa0 ?Zex0 ?Zty0 ?Zkc0 ?Zno0 ?Zsv0 ?Zmr0 ?Zin0 ?Zga0 ?Zgg0 ?Zhd0 ?ZnC1 ?ZxL1 ?Zsa1 ?Zex1 ?Zty1 ?Zkc1 ?Zno1 ?Zsv1 ?Zmr1 ?Zin1 ?Zga1 ?Zgg1 ?Zhd1 ?ZnC2 ?ZxL2 ?Zsa2 ?Zex2 ?Zty2 ?Zkc2 ?Zno2 ?Zsv2 ?Zmr2 ?Zin2 ?Zga2 ?Zgg2 ?Zhd2 ?ZnC3 ?ZxL3 ?Zsa3 ?Zex3 ?Zty3 ?Zkc3 ?Zno3 ?Zsv3 ?Zmr3 ?Zin3 ?Zga3 ?Zgg3 ?Zhd3 ?ZnC4 ?ZxL4 ?Zsa4 ?Zex4 ?Zty4 ?Zkc4 ?Zno4 ?Zsv4 ?Zmr4 ?Zin4 ?Zga4 ?Zgg4 ?Zhd4 ?Ze0_0 ?Ze0_1 ?Ze0_2 ?Ze0_3 ?Ze0_4 ?Ze1_0 ?Ze1_1 ?Ze1_2 ?Ze1_3 ?Ze1_4 ?Ze2_0 ?Ze2_1 ?Ze2_2 ?Ze2_3 ?Ze2_4 ?Ze3_0 ?Ze3_1 ?Ze3_2 ?Ze3_3 ?Ze3_4 ?Ze4_0 ?Ze4_1 ?Ze4_2 ?Ze4_3 ?Ze4_4 ?Zg0 ?Zg1 ?Zg2 ?Zg3 ?Zg4 ?Zb0 ?Zb1 ?Zb2 ?Zb3 ?Zb4 ?Zb5 ?Zb6 ?Zb7 ?Zb8 ?Zn0 ?Zl0 ?Zc0 ?Zk0 ?Zn1 ?Zl1 ?Zc1 ?Zk1 ?Zn2 ?Zl2 ?Zc2 ?Zk2 ?Zn3 ?Zl3 ?Zc3 ?Zk3 ?Zn4 ?Zl4 ?Zc4 ?Zk4 ?Zn5 ?Zl5 ?Zc5 ?Zk5 ?Zn6 ?Zl6 ?Zc6 ?Zk6 ?Zn7 ?Zl7 ?Zc7 ?Zk7 ?Zn8 ?Zl8 ?Zc8 ?Zk8 ?Zn9 ?Zl9 ?Zc9 ?Zk9 ?Zn10 ?Zl10 ?Zc10 ?Zk10 ?Zn11 ?Zl11 ?Zc11 ?Zk11 ?Zn12 ?Zl12 ?Zc12 ?Zk12 ?Zn13 ?Zl13 ?Zc13 ?Zk13 ?Zn14 ?Zl14 ?Zc14 ?Zk14 ?hv ?hf ?ne0 ?ne1 ?ne2 ?ne3 ?ne4
    (case ZnD => k_is)
    (case ZhI => k_is)
    (case ZlI => k_is)
    (case ZcI => k_is)
    (case ZlC => k_is)
    (case Zlc => k_is)
    (case ZtI => k_is)
    (case ZhD => k_is)
    (case Zms => k_is)
    (case Zop => k_is)
    (case ZnC0 => k_is)
    (case ZxL0 => k_is)
    (case Zsa0 => k_is)
    (case Zex0 => k_is)
    (case Zty0 => k_is)
    (case Zkc0 => k_is)
    (case Zno0 => k_is)
    (case Zsv0 => k_is)
    (case Zmr0 => k_is)
    (case Zin0 => k_is)
    (case Zga0 => k_is)
    (case Zgg0 => k_is)
    (case Zhd0 => k_is)
    (case ZnC1 => k_is)
    (case ZxL1 => k_is)
    (case Zsa1 => k_is)
    (case Zex1 => k_is)
    (case Zty1 => k_is)
    (case Zkc1 => k_is)
    (case Zno1 => k_is)
    (case Zsv1 => k_is)
    (case Zmr1 => k_is)
    (case Zin1 => k_is)
    (case Zga1 => k_is)
    (case Zgg1 => k_is)
    (case Zhd1 => k_is)
    (case ZnC2 => k_is)
    (case ZxL2 => k_is)
    (case Zsa2 => k_is)
    (case Zex2 => k_is)
    (case Zty2 => k_is)
    (case Zkc2 => k_is)
    (case Zno2 => k_is)
    (case Zsv2 => k_is)
    (case Zmr2 => k_is)
    (case Zin2 => k_is)
    (case Zga2 => k_is)
    (case Zgg2 => k_is)
    (case Zhd2 => k_is)
    (case ZnC3 => k_is)
    (case ZxL3 => k_is)
    (case Zsa3 => k_is)
    (case Zex3 => k_is)
    (case Zty3 => k_is)
    (case Zkc3 => k_is)
    (case Zno3 => k_is)
    (case Zsv3 => k_is)
    (case Zmr3 => k_is)
    (case Zin3 => k_is)
    (case Zga3 => k_is)
    (case Zgg3 => k_is)
    (case Zhd3 => k_is)
    (case ZnC4 => k_is)
    (case ZxL4 => k_is)
    (case Zsa4 => k_is)
    (case Zex4 => k_is)
    (case Zty4 => k_is)
    (case Zkc4 => k_is)
    (case Zno4 => k_is)
    (case Zsv4 => k_is)
    (case Zmr4 => k_is)
    (case Zin4 => k_is)
    (case Zga4 => k_is)
    (case Zgg4 => k_is)
    (case Zhd4 => k_is)
    (case Ze0_0 => k_is)
    (case Ze0_1 => k_is)
    (case Ze0_2 => k_is)
    (case Ze0_3 => k_is)
    (case Ze0_4 => k_is)
    (case Ze1_0 => k_is)
    (case Ze1_1 => k_is)
    (case Ze1_2 => k_is)
    (case Ze1_3 => k_is)
    (case Ze1_4 => k_is)
    (case Ze2_0 => k_is)
    (case Ze2_1 => k_is)
    (case Ze2_2 => k_is)
    (case Ze2_3 => k_is)
    (case Ze2_4 => k_is)
    (case Ze3_0 => k_is)
    (case Ze3_1 => k_is)
    (case Ze3_2 => k_is)
    (case Ze3_3 => k_is)
    (case Ze3_4 => k_is)
    (case Ze4_0 => k_is)
    (case Ze4_1 => k_is)
    (case Ze4_2 => k_is)
    (case Ze4_3 => k_is)
    (case Ze4_4 => k_is)
    (case Zg0 => k_is)
    (case Zg1 => k_is)
    (case Zg2 => k_is)
    (case Zg3 => k_is)
    (case Zg4 => k_is)
    (case Zb0 => k_is)
    (case Zb1 => k_is)
    (case Zb2 => k_is)
    (case Zb3 => k_is)
    (case Zb4 => k_is)
    (case Zb5 => k_is)
    (case Zb6 => k_is)
    (case Zb7 => k_is)
    (case Zb8 => k_is)
    (case Zn0 => k_is)
    (case Zl0 => k_is)
    (case Zc0 => k_is)
    (case Zk0 => k_is)
    (case Zn1 => k_is)
    (case Zl1 => k_is)
    (case Zc1 => k_is)
    (case Zk1 => k_is)
    (case Zn2 => k_is)
    (case Zl2 => k_is)
    (case Zc2 => k_is)
    (case Zk2 => k_is)
    (case Zn3 => k_is)
    (case Zl3 => k_is)
    (case Zc3 => k_is)
    (case Zk3 => k_is)
    (case Zn4 => k_is)
    (case Zl4 => k_is)
    (case Zc4 => k_is)
    (case Zk4 => k_is)
    (case Zn5 => k_is)
    (case Zl5 => k_is)
    (case Zc5 => k_is)
    (case Zk5 => k_is)
    (case Zn6 => k_is)
    (case Zl6 => k_is)
    (case Zc6 => k_is)
    (case Zk6 => k_is)
    (case Zn7 => k_is)
    (case Zl7 => k_is)
    (case Zc7 => k_is)
    (case Zk7 => k_is)
    (case Zn8 => k_is)
    (case Zl8 => k_is)
    (case Zc8 => k_is)
    (case Zk8 => k_is)
    (case Zn9 => k_is)
    (case Zl9 => k_is)
    (case Zc9 => k_is)
    (case Zk9 => k_is)
    (case Zn10 => k_is)
    (case Zl10 => k_is)
    (case Zc10 => k_is)
    (case Zk10 => k_is)
    (case Zn11 => k_is)
    (case Zl11 => k_is)
    (case Zc11 => k_is)
    (case Zk11 => k_is)
    (case Zn12 => k_is)
    (case Zl12 => k_is)
    (case Zc12 => k_is)
    (case Zk12 => k_is)
    (case Zn13 => k_is)
    (case Zl13 => k_is)
    (case Zc13 => k_is)
    (case Zk13 => k_is)
    (case Zn14 => k_is)
    (case Zl14 => k_is)
    (case Zc14 => k_is)
    (case Zk14 => k_is)
    (case hv => rfl)
    (case hf => decide +kernel)
    (case ne0 => decide +kernel)
    (case ne1 => decide +kernel)
    (case ne2 => decide +kernel)
    (case ne3 => decide +kernel)
    (case ne4 => decide +kernel)
