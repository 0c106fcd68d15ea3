import PyProof.Rows.All
import Wide.All
import OpenK.AllK
import Wide.FinOn
import KE.KStateDown
import HandS.TupAny
import HandS.Comp
import HandS.ForMost
import HandS.IsInst
import HandS.Star
import HandS.Deep
import HandS.Zip
import HandS.TupMul
import HandS.Wide
import KE.KTupSum
import HandS.RaiseMore
import HandS.Defaults
import HandS.Flow
import HandS.Exc
import HandS.CallSlots
import HandS.Style
import HandS.HeadEnd
import HandS.HeadHook2
import HandS.Head0
import HandS.Head1
import HandS.Head2
import PySem.Challenge.RW_unseenask_k01_kinds_told
set_option Elab.async false
set_option linter.all false
set_option maxRecDepth 100000
set_option maxHeartbeats 0
/-! Pv1: plain data, the store, the small language (IR) and its evaluator. -/
namespace Pv
open PySem

/-- built-in types that stand as values -/
inductive BT where
  | int | bool | str | tuple | list | dict | valueError
  deriving DecidableEq

inductive D where
  | non | bl (b : Bool) | int (i : Int) | str (s : Str)
  | tup (xs : List D)
  | loc (n : Nat)
  | lst (xs : List D)
  | scr (xs : List D)
  | rpr (p : PyData)
  | ty (t : BT)
instance : Inhabited D := ⟨.non⟩

/-- what a cell of the store holds -/
inductive O where
  | lst (xs : List D)

/-! ### the store: a trie -/
inductive Tr (α : Type) where
  | nil
  | node (l : Tr α) (v : Option α) (r : Tr α)
def Tr.get {α : Type} : Tr α → Nat → Option α
  | .nil, _ => none
  | .node l v r, n => match n with
    | 0 => v
    | m + 1 => match m % 2 with
      | 0 => l.get (m / 2)
      | _ => r.get (m / 2)
def Tr.ins {α : Type} (x : α) : Nat → Tr α → Nat → Tr α
  | 0, t, _ => t
  | f + 1, t, n =>
    let l := match t with | .nil => .nil | .node l _ _ => l
    let v := match t with | .nil => none | .node _ v _ => v
    let r := match t with | .nil => .nil | .node _ _ r => r
    match n with
    | 0 => .node l (some x) r
    | m + 1 => match m % 2 with
      | 0 => .node (Tr.ins x f l (m / 2)) v r
      | _ => .node l v (Tr.ins x f r (m / 2))
structure Sto where
  size : Nat
  tr : Tr O
def Sto.get (A : Sto) (i : Nat) : Option O := A.tr.get i
def Sto.put (A : Sto) (i : Nat) (o : O) : Sto := ⟨A.size, A.tr.ins o 60 i⟩
def Sto.push (A : Sto) (o : O) : Sto := ⟨A.size + 1, A.tr.ins o 60 A.size⟩

/-- an error of the program's own: its class, its fields -/
structure Xc where
  cls : Nat
  fs : List D
inductive Res (α : Type) where
  | ok (a : α) (A : Sto)
  | ex (q : Xc) (A : Sto)
  | bad

abbrev Env := List (Option D)

/-! ### the language -/
inductive Bi where
  | len | sum | all | any | tuple | list | abs | int | repr | isinstance | str | min | max | sorted
  deriving DecidableEq
inductive Mt where
  | append | count | index
  deriving DecidableEq
/-- a parameter's source -/
inductive Bd where
  | arg (i : Nat)
  | dflt (d : D)
  | rest (i : Nat)
inductive Tg where
  | nm (i : Nat)
  | tp (ts : List Tg)
mutual
inductive E where
  | c (d : D)
  | v (i : Nat)
  | tup (es : List Ar)
  | lst (es : List Ar)
  | cell (e : E)
  | bin (op : Operator) (a b : E)
  | neg (a : E)
  | not (a : E)
  | cmp (op : CmpOp) (a b : E)
  | chain (op op' : CmpOp) (a b c : E)
  | and (a b : E)
  | or (a b : E)
  | ite (c a b : E)
  | idx (a i : E)
  | slc (a : E) (lo hi : Option E)
  | rev (a : E)
  | call (k : Nat) (es : List E) (bs : List Bd)
  | bi (f : Bi) (es : List E)
  | mt (m : Mt) (o : E) (es : List E)
  | lc (elt : E) (own : List Nat) (gs : List G)
/-- an item of a display; all items of a list or tuple -/
inductive Ar where
  | one (e : E)
  | all (e : E)
inductive G where
  | mk (tg : Tg) (it : I) (ifs : List E)
inductive I where
  | seq (e : E)
  | rng1 (a : E)
  | rng2 (a b : E)
  | enum (e : E)
  | zip (a b : E)
end
inductive S where
  | ex (e : E)
  | asg (t : Tg) (e : E)
  | ret (e : E)
  | retN
  | ifs (c : E) (t f : List S)
  | for_ (t : Tg) (it : I) (b : List S)
  | whl (c : E) (b : List S)
  | brk
  | pass
structure Fn where
  np : Nat
  ns : Nat
  body : List S
abbrev Prog := List Fn

/-! ### values -/
def mapO {α β : Type} (f : α → Option β) : List α → Option (List β)
  | [] => some []
  | x :: xs => match f x with
    | some y => (match mapO f xs with
      | some ys => some (y :: ys)
      | none => none)
    | none => none
/-- the plain data behind a value -/
def toPy (A : Sto) : Nat → D → Option PyData
  | 0, _ => none
  | n + 1, d => match d with
    | .non => some .none
    | .bl b => some (.bool b)
    | .int i => some (.int i)
    | .str s => if PyData.strOk s then some (.str s) else none
    | .rpr _ => none
    | .scr _ => none
    | .tup xs => (match mapO (toPy A n) xs with
      | some ys => some (.tuple ys)
      | none => none)
    | .lst xs => (match mapO (toPy A n) xs with
      | some ys => some (.list ys)
      | none => none)
    | .loc i => (match A.get i with
      | some (.lst xs) => (match mapO (toPy A n) xs with
        | some ys => some (.list ys)
        | none => none)
      | _ => none)
    | .ty _ => none
def depthFuel : Nat := 40
mutual
def sameP : PyData → PyData → Bool
  | .none, .none => true
  | .bool a, .bool b => a == b
  | .int i, .int j => decide (i = j)
  | .str x, .str y => decide (x = y)
  | .list xs, .list ys => samePs xs ys
  | .tuple xs, .tuple ys => samePs xs ys
  | _, _ => false
def samePs : List PyData → List PyData → Bool
  | [], [] => true
  | x :: xs, y :: ys => sameP x y && samePs xs ys
  | _, _ => false
end
/-- items of a list or a tuple -/
def seqOf (A : Sto) : D → Option (List D)
  | .tup xs => some xs
  | .lst xs => some xs
  | .loc i => (match A.get i with
    | some (.lst xs) => some xs
    | _ => none)
  | _ => none
def lstOf (A : Sto) : D → Option (List D)
  | .lst xs => some xs
  | .loc i => (match A.get i with
    | some (.lst xs) => some xs
    | _ => none)
  | _ => none
def forceI (z : Int) : D := match z with
  | .ofNat n => (match n with
    | 0 => .int (.ofNat 0)
    | m + 1 => .int (.ofNat (Nat.succ m)))
  | .negSucc n => (match n with
    | 0 => .int (.negSucc 0)
    | m + 1 => .int (.negSucc (Nat.succ m)))
def isBT (A : Sto) (d : D) (t : BT) : Option Bool := match d with
  | .non => some false
  | .bl _ => some (match t with | .int => true | .bool => true | _ => false)
  | .int _ => some (match t with | .int => true | _ => false)
  | .str _ => some (match t with | .str => true | _ => false)
  | .rpr _ => some (match t with | .str => true | _ => false)
  | .tup _ => some (match t with | .tuple => true | _ => false)
  | .lst _ => some (match t with | .list => true | _ => false)
  | .scr _ => none
  | .loc i => (match A.get i with
    | some (.lst _) => some (match t with | .list => true | _ => false)
    | _ => none)
  | .ty _ => none
def truth (A : Sto) (d : D) : Option Bool := match d with
  | .non => some false
  | .bl b => some b
  | .int i => some (decide (i ≠ 0))
  | .tup xs => some (!xs.isEmpty)
  | .lst xs => some (!xs.isEmpty)
  | .loc i => (match A.get i with
    | some (.lst xs) => some (!xs.isEmpty)
    | _ => none)
  | _ => none
def wideOk (i j : Int) : Bool := Nat.ble (i.natAbs.log2 + j.natAbs.log2) 900000
def addD (A : Sto) (x y : D) : Option D := match x, y with
  | .int i, .int j => some (forceI (i + j))
  | .str i, .str j => if i.length + j.length ≤ sizeLine then some (.str (i ++ j)) else none
  | .tup xs, .tup ys => if xs.length + ys.length ≤ sizeLine then some (.tup (xs ++ ys)) else none
  | x, y => (match lstOf A x, lstOf A y with
    | some xs, some ys => if xs.length + ys.length ≤ sizeLine then some (.lst (xs ++ ys)) else none
    | _, _ => none)
def mulD (A : Sto) (x y : D) : Option D := match x, y with
  | .int i, .int j => if wideOk i j then some (forceI (i * j)) else none
  | .tup xs, .int k => if 0 ≤ k ∧ k ≤ 1000 ∧ xs.length ≤ 1000 then some (.tup (List.replicate k.toNat xs).flatten) else none
  | x, .int k => (match lstOf A x with
    | some xs => if 0 ≤ k ∧ k ≤ 1000 ∧ xs.length ≤ 1000 then some (.lst (List.replicate k.toNat xs).flatten) else none
    | none => none)
  | _, _ => none
def binD (A : Sto) (op : Operator) (x y : D) : Option D := match op with
  | .Add => addD A x y
  | .Mult => mulD A x y
  | .Sub => (match x, y with
    | .int i, .int j => some (forceI (i - j))
    | _, _ => none)
  | .FloorDiv => (match x, y with
    | .int i, .int j => if 0 < j ∧ j.natAbs.log2 < 9000 then some (forceI (i / j)) else none
    | _, _ => none)
  | .Mod => (match x, y with
    | .int i, .int j => if 0 < j then some (forceI (i % j)) else none
    | _, _ => none)
  | .Pow => (match x, y with
    | .int i, .int j => if 0 ≤ j ∧ j ≤ 1000 ∧ i.natAbs < 2 ^ 64 then some (forceI (i ^ j.toNat)) else none
    | _, _ => none)
  | _ => none
/-- order: ints, tuples of ints -/
def intsOf : List D → Option (List Int)
  | [] => some []
  | .int i :: r => (match intsOf r with
    | some s => some (i :: s)
    | none => none)
  | _ => none
def ltD (x y : D) : Option Bool := match x, y with
  | .int i, .int j => some (decide (i < j))
  | .tup xs, .tup ys => (match intsOf xs, intsOf ys with
    | some ns, some ms => some (HT.lexLt ns ms)
    | _, _ => none)
  | _, _ => none
def eqD (A : Sto) (x y : D) : Option Bool := match x, y with
  | .rpr p, .rpr q => if sameP p q then some true else some (decide (p.shown = q.shown))
  | .rpr p, .str s => some (decide (p.shown = s))
  | .str s, .rpr q => some (decide (s = q.shown))
  | x, y => match toPy A depthFuel x, toPy A depthFuel y with
    | some p, some q => some (PyData.eqv p q)
    | _, _ => none
def inD (A : Sto) (x y : D) : Option Bool := match toPy A depthFuel x, toPy A depthFuel y with
  | some p, some (.list qs) => some (qs.any fun q => PyData.eqv q p)
  | some p, some (.tuple qs) => some (qs.any fun q => PyData.eqv q p)
  | _, _ => none
mutual
def reprW : PyData → Nat
  | .none => 5
  | .bool _ => 5
  | .int i => i.natAbs.log2 + 2
  | .str x => 10 * x.cps.size + 2
  | .list xs => reprWs xs + 3
  | .tuple xs => reprWs xs + 3
  | .dict _ => 0
def reprWs : List PyData → Nat
  | [] => 0
  | x :: xs => reprW x + 2 + reprWs xs
end
def D.isN : D → Bool
  | .non => true
  | _ => false
def cmpD (A : Sto) (op : CmpOp) (x y : D) : Option Bool := match op with
  | .Eq => eqD A x y
  | .NotEq => (match eqD A x y with
    | some b => some (!b)
    | none => none)
  | .Lt => ltD x y
  | .Gt => (match x, y with
    | .int i, .int j => some (decide (j < i))
    | _, _ => none)
  | .LtE => (match x, y with
    | .int i, .int j => some (decide (i ≤ j))
    | _, _ => none)
  | .GtE => (match x, y with
    | .int i, .int j => some (decide (j ≤ i))
    | _, _ => none)
  | .Is => (match y with
    | .non => some x.isN
    | _ => none)
  | .IsNot => (match y with
    | .non => some (!x.isN)
    | _ => none)
  | .In => inD A x y
  | .NotIn => (match inD A x y with
    | some b => some (!b)
    | none => none)
def boolsOf : List D → Option (List Bool)
  | [] => some []
  | .bl b :: r => (match boolsOf r with
    | some s => some (b :: s)
    | none => none)
  | _ => none
def biLen (A : Sto) : List D → Option D
  | [x] => (match seqOf A x with
    | some ys => some (.int ys.length)
    | none => none)
  | _ => none
def biSum (A : Sto) : List D → Option D
  | [x] => (match seqOf A x with
    | some ys => (match intsOf ys with
      | some ns => some (forceI ns.sum)
      | none => none)
    | none => none)
  | _ => none
def biAll (A : Sto) : List D → Option D
  | [x] => (match lstOf A x with
    | some ys => (match boolsOf ys with
      | some bs => some (.bl (bs.all id))
      | none => none)
    | none => none)
  | _ => none
def biAny (A : Sto) : List D → Option D
  | [x] => (match lstOf A x with
    | some ys => (match boolsOf ys with
      | some bs => some (.bl (bs.any id))
      | none => none)
    | none => none)
  | _ => none
def biTuple (A : Sto) : List D → Option D
  | [x] => (match seqOf A x with
    | some ys => some (.tup ys)
    | none => none)
  | _ => none
def biList (A : Sto) : List D → Option D
  | [x] => (match seqOf A x with
    | some ys => some (.lst ys)
    | none => none)
  | _ => none
def biAbs : List D → Option D
  | [.int i] => some (forceI (if i < 0 then -i else i))
  | _ => none
def biInt : List D → Option D
  | [.int i] => some (.int i)
  | _ => none
def biRepr (A : Sto) : List D → Option D
  | [x] => (match toPy A depthFuel x with
    | some p => if p.showable = true ∧ reprW p ≤ sizeLine then some (.rpr p) else none
    | none => none)
  | _ => none
def biIsi (A : Sto) : List D → Option D
  | [x, .ty t] => (match isBT A x t with
    | some b => some (.bl b)
    | none => none)
  | _ => none
def biD (f : Bi) (A : Sto) (xs : List D) : Option D := match f with
  | .len => biLen A xs
  | .sum => biSum A xs
  | .all => biAll A xs
  | .any => biAny A xs
  | .tuple => biTuple A xs
  | .list => biList A xs
  | .abs => biAbs xs
  | .int => biInt xs
  | .repr => biRepr A xs
  | .isinstance => biIsi A xs
  | _ => none
def idxD (A : Sto) (x i : D) : Option D := match i with
  | .int k => if -(2 ^ 63) ≤ k ∧ k < 2 ^ 63 then (match seqOf A x with
    | some ys => L2.atI ys k
    | none => none) else none
  | _ => none
def cutD (xs : List D) (lo hi : Option Int) : List D := List.take (HT.sIx xs.length xs.length hi - HT.sIx xs.length 0 lo) (List.drop (HT.sIx xs.length 0 lo) xs)
def slcD (A : Sto) (x : D) (lo hi : Option Int) : Option D := match x with
  | .tup xs => some (.tup (cutD xs lo hi))
  | .scr xs => some (.lst (cutD xs lo hi))
  | x => (match lstOf A x with
    | some xs => some (.lst (cutD xs lo hi))
    | none => none)
def revD (A : Sto) (x : D) : Option D := match lstOf A x with
  | some xs => some (.lst xs.reverse)
  | none => none
/-- the object has such a method -/
def mtOk (m : Mt) (A : Sto) (x : D) : Bool := match m with
  | .append => (lstOf A x).isSome
  | .count => (lstOf A x).isSome
  | .index => (lstOf A x).isSome
def mtD (m : Mt) (A : Sto) (o : D) (xs : List D) : Res D := match m, o, xs with
  | .append, .loc i, [x] => (match A.get i with
    | some (.lst ys) => if ys.length < sizeLine then .ok .non (A.put i (.lst (ys ++ [x]))) else .bad
    | _ => .bad)
  | _, _, _ => .bad

/-! ### walks -/
inductive Itr where
  | seq (xs : List D)
  | cell (i j : Nat)
  | rng (lo : Int) (n : Nat)
  | enum (k : Nat) (it : Itr)
  | zip (a b : Itr)
def Itr.next (A : Sto) : Itr → Option (Option (D × Itr))
  | .seq [] => some none
  | .seq (x :: xs) => some (some (x, .seq xs))
  | .cell i j => (match A.get i with
    | some (.lst xs) => (match xs[j]? with
      | some x => some (some (x, .cell i (j + 1)))
      | none => some none)
    | _ => none)
  | .rng _ 0 => some none
  | .rng lo (n + 1) => some (some (.int lo, .rng (lo + 1) n))
  | .enum k it => (match it.next A with
    | some (some (x, it')) => some (some (.tup [.int k, x], .enum (k + 1) it'))
    | some none => some none
    | none => none)
  | .zip a b => (match a.next A, b.next A with
    | some (some (x, a')), some (some (y, b')) => some (some (.tup [x, y], .zip a' b'))
    | some _, some _ => some none
    | _, _ => none)
def itOf (A : Sto) : D → Option Itr
  | .tup xs => some (.seq xs)
  | .lst xs => some (.seq xs)
  | .loc i => (match A.get i with
    | some (.lst _) => some (.cell i 0)
    | _ => none)
  | _ => none
def bindL (f : Tg → D → Env → Option Env) : List Tg → List D → Env → Option Env
  | [], [], ρ => some ρ
  | t :: ts, x :: xs, ρ => (match f t x ρ with
    | some ρ' => bindL f ts xs ρ'
    | none => none)
  | _, _, _ => none
def bindT : Nat → Tg → D → Env → Option Env
  | 0, _, _, _ => none
  | n + 1, t, d, ρ => match t with
    | .nm i => some (ρ.set i (some d))
    | .tp ts => (match d with
      | .tup xs => bindL (bindT n) ts xs ρ
      | _ => none)
mutual
def tgIxs : Tg → List Nat
  | .nm i => [i]
  | .tp ts => tgsIxs ts
def tgsIxs : List Tg → List Nat
  | [] => []
  | t :: ts => tgIxs t ++ tgsIxs ts
end
def wipeE (ρ : Env) : List Nat → Env
  | [] => ρ
  | i :: r => (wipeE ρ r).set i none

/-! ### the evaluator -/
inductive Fl where
  | next (ρ : Env) | ret (d : D) | brk (ρ : Env)
structure Ev where
  e : E → Env → Sto → Res D
  s : S → Env → Sto → Res Fl
  f : Nat → List D → Sto → Res D
  fuel : Nat
def Ev.bad : Ev := ⟨fun _ _ _ => .bad, fun _ _ _ => .bad, fun _ _ _ => .bad, 0⟩

/-- values from the left -/
def evEs (r : Ev) (ρ : Env) : List E → Sto → Res (List D)
  | [], A => .ok [] A
  | e :: es, A => (match r.e e ρ A with
    | .ok x A1 => (match evEs r ρ es A1 with
      | .ok ys A2 => .ok (x :: ys) A2
      | .ex q A2 => .ex q A2
      | .bad => .bad)
    | .ex q A1 => .ex q A1
    | .bad => .bad)
/-- the items of a display -/
def evAr (r : Ev) (ρ : Env) : List Ar → Sto → Res (List D)
  | [], A => .ok [] A
  | .all e :: es, A => (match r.e e ρ A with
    | .ok x A1 => (match seqOf A1 x with
      | some xs => (match evAr r ρ es A1 with
        | .ok ys A2 => .ok (xs ++ ys) A2
        | .ex q A2 => .ex q A2
        | .bad => .bad)
      | none => .bad)
    | .ex q A1 => .ex q A1
    | .bad => .bad)
  | .one e :: es, A => (match r.e e ρ A with
    | .ok x A1 => (match evAr r ρ es A1 with
      | .ok ys A2 => .ok (x :: ys) A2
      | .ex q A2 => .ex q A2
      | .bad => .bad)
    | .ex q A1 => .ex q A1
    | .bad => .bad)
def ev2 (r : Ev) (ρ : Env) (a b : E) (A : Sto) (k : D → D → Sto → Res D) : Res D := match r.e a ρ A with
  | .ok x A1 => (match r.e b ρ A1 with
    | .ok y A2 => k x y A2
    | .ex q A2 => .ex q A2
    | .bad => .bad)
  | .ex q A1 => .ex q A1
  | .bad => .bad
def ofO {α : Type} (o : Option α) (A : Sto) : Res α := match o with
  | some a => .ok a A
  | none => .bad
def evO (r : Ev) (ρ : Env) : Option E → Sto → Res (Option Int)
  | none, A => .ok none A
  | some e, A => (match r.e e ρ A with
    | .ok (.int i) A1 => .ok (some i) A1
    | .ok _ _ => .bad
    | .ex q A1 => .ex q A1
    | .bad => .bad)
def isTp : D → Bool
  | .tup _ => true
  | _ => false
def evI (r : Ev) (ρ : Env) (it : I) (A : Sto) : Res Itr := match it with
  | .seq e => (match r.e e ρ A with
    | .ok x A1 => ofO (itOf A1 x) A1
    | .ex q A1 => .ex q A1
    | .bad => .bad)
  | .rng1 e => (match r.e e ρ A with
    | .ok (.int j) A1 => if j < 2 ^ 40 ∧ -(2 ^ 40) < j then .ok (.rng 0 j.toNat) A1 else .bad
    | .ok _ _ => .bad
    | .ex q A1 => .ex q A1
    | .bad => .bad)
  | .rng2 a b => (match r.e a ρ A with
    | .ok (.int i) A1 => (match r.e b ρ A1 with
      | .ok (.int j) A2 => if j < 2 ^ 40 ∧ -(2 ^ 40) < j ∧ i < 2 ^ 40 ∧ -(2 ^ 40) < i then .ok (.rng i (j - i).toNat) A2 else .bad
      | .ok _ _ => .bad
      | .ex q A2 => .ex q A2
      | .bad => .bad)
    | .ok _ _ => .bad
    | .ex q A1 => .ex q A1
    | .bad => .bad)
  | .enum e => (match r.e e ρ A with
    | .ok x A1 => (match itOf A1 x with
      | some it => .ok (.enum 0 it) A1
      | none => .bad)
    | .ex q A1 => .ex q A1
    | .bad => .bad)
  | .zip a b => (match r.e a ρ A with
    | .ok x A1 => (match r.e b ρ A1 with
      | .ok y A2 => (match itOf A2 x, itOf A2 y with
        | some i, some j => if isTp x = isTp y then .ok (.zip i j) A2 else .bad
        | _, _ => .bad)
      | .ex q A2 => .ex q A2
      | .bad => .bad)
    | .ex q A1 => .ex q A1
    | .bad => .bad)
def evIfs (r : Ev) (ρ : Env) : List E → Sto → Res Bool
  | [], A => .ok true A
  | c :: cs, A => (match r.e c ρ A with
    | .ok x A1 => (match truth A1 x with
      | some true => evIfs r ρ cs A1
      | some false => .ok false A1
      | none => .bad)
    | .ex _ _ => .bad
    | .bad => .bad)
/-- the turns of a comprehension; acc: what is made so far, the last one first -/
def lcLoop (r : Ev) (tg : Tg) (ifs : List E) (inner : Env → Sto → List D → Res (List D)) : Nat → Itr → Env → Sto → List D → Res (List D)
  | 0, _, _, _, _ => .bad
  | n + 1, it, ρ, A, acc => match it.next A with
    | none => .bad
    | some none => .ok acc A
    | some (some (x, it')) => (match bindT depthFuel tg x ρ with
      | none => .bad
      | some ρ1 => (match evIfs r ρ1 ifs A with
        | .ok false A1 => lcLoop r tg ifs inner n it' ρ A1 acc
        | .ok true A1 => (match inner ρ1 A1 acc with
          | .ok acc' A2 => lcLoop r tg ifs inner n it' ρ A2 acc'
          | .ex _ _ => .bad
          | .bad => .bad)
        | .ex _ _ => .bad
        | .bad => .bad))
def lcGens (r : Ev) (elt : E) : List G → Env → Sto → List D → Res (List D)
  | [], ρ, A, acc => (match r.e elt ρ A with
    | .ok x A1 => .ok (x :: acc) A1
    | .ex _ _ => .bad
    | .bad => .bad)
  | .mk tg it ifs :: gs, ρ, A, acc => (match evI r ρ it A with
    | .ok i A1 => lcLoop r tg ifs (lcGens r elt gs) r.fuel i (wipeE ρ (tgIxs tg)) A1 acc
    | .ex _ _ => .bad
    | .bad => .bad)
def bindArgs (vs : List D) : List Bd → Option (List D)
  | [] => some []
  | .arg i :: bs => (match vs[i]? with
    | some v => (match bindArgs vs bs with
      | some r => some (v :: r)
      | none => none)
    | none => none)
  | .dflt d :: bs => (match bindArgs vs bs with
    | some r => some (d :: r)
    | none => none)
  | .rest _ :: _ => none
def stepE (r : Ev) (x : E) (ρ : Env) (A : Sto) : Res D := match x with
  | .c d => .ok d A
  | .v i => (match ρ[i]? with
    | some (some d) => .ok d A
    | _ => .bad)
  | .tup es => (match evAr r ρ es A with
    | .ok xs A1 => if xs.length ≤ sizeLine then .ok (.tup xs) A1 else .bad
    | .ex q A1 => .ex q A1
    | .bad => .bad)
  | .lst es => (match evAr r ρ es A with
    | .ok xs A1 => if xs.length ≤ sizeLine then .ok (.lst xs) A1 else .bad
    | .ex q A1 => .ex q A1
    | .bad => .bad)
  | .cell e => (match r.e e ρ A with
    | .ok (.lst xs) A1 => if A1.size + 1 < 2 ^ 60 then .ok (.loc A1.size) (A1.push (.lst xs)) else .bad
    | .ok d A1 => .ok d A1
    | .ex q A1 => .ex q A1
    | .bad => .bad)
  | .bin op a b => ev2 r ρ a b A fun x y A2 => ofO (binD A2 op x y) A2
  | .neg a => (match r.e a ρ A with
    | .ok (.int i) A1 => .ok (forceI (-i)) A1
    | .ok _ _ => .bad
    | .ex q A1 => .ex q A1
    | .bad => .bad)
  | .not a => (match r.e a ρ A with
    | .ok x A1 => (match truth A1 x with
      | some b => .ok (.bl (!b)) A1
      | none => .bad)
    | .ex q A1 => .ex q A1
    | .bad => .bad)
  | .cmp op a b => ev2 r ρ a b A fun x y A2 => (match cmpD A2 op x y with
    | some k => .ok (.bl k) A2
    | none => .bad)
  | .chain op op' a b c => ev2 r ρ a b A fun x y A2 => (match cmpD A2 op x y with
    | some false => .ok (.bl false) A2
    | some true => (match r.e c ρ A2 with
      | .ok z A3 => (match cmpD A3 op' y z with
        | some k => .ok (.bl k) A3
        | none => .bad)
      | .ex q A3 => .ex q A3
      | .bad => .bad)
    | none => .bad)
  | .and a b => (match r.e a ρ A with
    | .ok (.bl true) A1 => r.e b ρ A1
    | .ok (.bl false) A1 => .ok (.bl false) A1
    | .ok _ _ => .bad
    | .ex q A1 => .ex q A1
    | .bad => .bad)
  | .or a b => (match r.e a ρ A with
    | .ok (.bl false) A1 => r.e b ρ A1
    | .ok (.bl true) A1 => .ok (.bl true) A1
    | .ok _ _ => .bad
    | .ex q A1 => .ex q A1
    | .bad => .bad)
  | .ite c a b => (match r.e c ρ A with
    | .ok x A1 => (match truth A1 x with
      | some true => r.e a ρ A1
      | some false => r.e b ρ A1
      | none => .bad)
    | .ex q A1 => .ex q A1
    | .bad => .bad)
  | .idx a b => ev2 r ρ a b A fun x y A2 => ofO (idxD A2 x y) A2
  | .slc a lo hi => (match r.e a ρ A with
    | .ok x A1 => (match evO r ρ lo A1 with
      | .ok l A2 => (match evO r ρ hi A2 with
        | .ok h A3 => ofO (slcD A3 x l h) A3
        | .ex q A3 => .ex q A3
        | .bad => .bad)
      | .ex q A2 => .ex q A2
      | .bad => .bad)
    | .ex q A1 => .ex q A1
    | .bad => .bad)
  | .rev a => (match r.e a ρ A with
    | .ok x A1 => ofO (revD A1 x) A1
    | .ex q A1 => .ex q A1
    | .bad => .bad)
  | .call k es bs => (match evEs r ρ es A with
    | .ok vs A1 => (match bindArgs vs bs with
      | some ws => r.f k ws A1
      | none => .bad)
    | .ex q A1 => .ex q A1
    | .bad => .bad)
  | .bi f es => (match evEs r ρ es A with
    | .ok vs A1 => ofO (biD f A1 vs) A1
    | .ex q A1 => .ex q A1
    | .bad => .bad)
  | .mt m o es => (match r.e o ρ A with
    | .ok x A1 => if mtOk m A1 x then (match evEs r ρ es A1 with
      | .ok vs A2 => mtD m A2 x vs
      | .ex q A2 => .ex q A2
      | .bad => .bad) else .bad
    | .ex q A1 => .ex q A1
    | .bad => .bad)
  | .lc elt own gs => (match gs with
    | .mk tg it ifs :: gs' => (match evI r ρ it A with
      | .ok i A1 => (match lcLoop r tg ifs (lcGens r elt gs') r.fuel i (wipeE ρ own) A1 [] with
        | .ok acc A2 => if acc.length ≤ sizeLine then .ok (.lst acc.reverse) A2 else .bad
        | _ => .bad)
      | .ex q A1 => .ex q A1
      | .bad => .bad)
    | [] => .bad)
def evSs (r : Ev) : List S → Env → Sto → Res Fl
  | [], ρ, A => .ok (.next ρ) A
  | s :: ss, ρ, A => (match r.s s ρ A with
    | .ok (.next ρ1) A1 => evSs r ss ρ1 A1
    | .ok f A1 => .ok f A1
    | .ex q A1 => .ex q A1
    | .bad => .bad)
def forLoop (tg : Tg) (body : Env → Sto → Res Fl) : Nat → Itr → Env → Sto → Res Fl
  | 0, _, _, _ => .bad
  | n + 1, it, ρ, A => match it.next A with
    | none => .bad
    | some none => .ok (.next ρ) A
    | some (some (x, it')) => (match bindT depthFuel tg x ρ with
      | none => .bad
      | some ρ1 => (match body ρ1 A with
        | .ok (.next ρ2) A2 => forLoop tg body n it' ρ2 A2
        | .ok (.brk ρ2) A2 => .ok (.next ρ2) A2
        | .ok (.ret d) A2 => .ok (.ret d) A2
        | .ex q A2 => .ex q A2
        | .bad => .bad))
def whLoop (c : Env → Sto → Res D) (body : Env → Sto → Res Fl) : Nat → Env → Sto → Res Fl
  | 0, _, _ => .bad
  | n + 1, ρ, A => match c ρ A with
    | .ok x A1 => (match truth A1 x with
      | some true => (match body ρ A1 with
        | .ok (.next ρ2) A2 => whLoop c body n ρ2 A2
        | .ok (.brk ρ2) A2 => .ok (.next ρ2) A2
        | .ok (.ret d) A2 => .ok (.ret d) A2
        | .ex q A2 => .ex q A2
        | .bad => .bad)
      | some false => .ok (.next ρ) A1
      | none => .bad)
    | .ex q A1 => .ex q A1
    | .bad => .bad
def stepS (r : Ev) (x : S) (ρ : Env) (A : Sto) : Res Fl := match x with
  | .ex e => (match r.e e ρ A with
    | .ok _ A1 => .ok (.next ρ) A1
    | .ex q A1 => .ex q A1
    | .bad => .bad)
  | .asg t e => (match r.e e ρ A with
    | .ok x A1 => (match bindT depthFuel t x ρ with
      | some ρ1 => .ok (.next ρ1) A1
      | none => .bad)
    | .ex q A1 => .ex q A1
    | .bad => .bad)
  | .ret e => (match r.e e ρ A with
    | .ok x A1 => .ok (.ret x) A1
    | .ex q A1 => .ex q A1
    | .bad => .bad)
  | .retN => .ok (.ret .non) A
  | .ifs c t f => (match r.e c ρ A with
    | .ok x A1 => (match truth A1 x with
      | some true => evSs r t ρ A1
      | some false => evSs r f ρ A1
      | none => .bad)
    | .ex q A1 => .ex q A1
    | .bad => .bad)
  | .for_ t it b => (match evI r ρ it A with
    | .ok i A1 => forLoop t (evSs r b) r.fuel i ρ A1
    | .ex q A1 => .ex q A1
    | .bad => .bad)
  | .whl c b => whLoop (r.e c) (evSs r b) r.fuel ρ A
  | .brk => .ok (.brk ρ) A
  | .pass => .ok (.next ρ) A
def callF (P : Prog) (r : Ev) (k : Nat) (vs : List D) (A : Sto) : Res D := match P[k]? with
  | some f => (match evSs r f.body (vs.map some ++ List.replicate (f.ns - f.np) none) A with
    | .ok (.ret d) A1 => .ok d A1
    | .ok (.next _) A1 => .ok .non A1
    | .ok (.brk _) _ => .bad
    | .ex q A1 => .ex q A1
    | .bad => .bad)
  | none => .bad
def evs (P : Prog) : Nat → Nat → Ev
  | 0 => fun _ => Ev.bad
  | n + 1 => fun d => ⟨fun x ρ A => stepE (evs P n d) x ρ A, fun x ρ A => stepS (evs P n d) x ρ A, fun k vs A => (match d with
    | 0 => .bad
    | d' + 1 => callF P (evs P n d') k vs A), n⟩
end Pv

/-! Pv2: from the model's syntax to the small language. -/
namespace Pv
open PySem

/-- a def of the top: its number, its parameters, their defaults -/
structure Sig where
  k : Nat
  ps : List Str
  ds : List (Option D)
structure Cc where
  N : List Str
  sc : Scope
  top : Bool
  os : Scope
  mu : List Str
  fns : List (Str × Sig)
  cst : List (Str × D)

def ixOf (x : Str) : List Str → Option Nat
  | [] => none
  | y :: r => if x == y then some 0 else (match ixOf x r with
    | some i => some (i + 1)
    | none => none)
def isVis (sc : Scope) (x : Str) : Bool := match sc.names.lookup x with
  | some .local => true
  | some .cell => true
  | some .free => true
  | _ => false
def isGl (sc : Scope) (x : Str) : Bool := match sc.names.lookup x with
  | some .globalImplicit => true
  | _ => false
def isLoc (sc : Scope) (x : Str) : Bool := match sc.names.lookup x with
  | some .local => true
  | some .cell => true
  | _ => false
/-- a name that may be stored -/
def okStore (c : Cc) (x : Str) : Bool := match c.sc.names.lookup x with
  | some .local => true
  | some .cell => c.top || (match c.os.names.lookup x with
    | some .cell => true
    | _ => false)
  | _ => false
/-- the inner context of a comprehension -/
def Cc.inn (c : Cc) (scope : Scope) : Cc := { c with sc := L2.relS scope c.sc, top := false, os := scope }
/-- a name that no def or constant of the top has: a built-in -/
def isBlt (c : Cc) (x : Str) : Bool := isGl c.sc x && (c.fns.lookup x).isNone && (c.cst.lookup x).isNone
def btOf (x : Str) : Option BT :=
  if x == "int" then some .int else if x == "bool" then some .bool else if x == "str" then some .str else if x == "tuple" then some .tuple
  else if x == "list" then some .list else if x == "dict" then some .dict else if x == "ValueError" then some .valueError else none
def biOf (x : Str) : Option Bi :=
  if x == "len" then some .len else if x == "sum" then some .sum else if x == "all" then some .all else if x == "any" then some .any
  else if x == "tuple" then some .tuple else if x == "list" then some .list else if x == "abs" then some .abs else if x == "int" then some .int
  else if x == "repr" then some .repr else if x == "isinstance" then some .isinstance else if x == "str" then some .str
  else if x == "min" then some .min else if x == "max" then some .max else if x == "sorted" then some .sorted else none
def mtOf (x : Str) : Option Mt :=
  if x == "append" then some .append else if x == "count" then some .count else if x == "index" then some .index else none
def isStar : Expr → Bool
  | .Starred .. => true
  | _ => false

/-- where each parameter comes from: p positional arguments, then the keywords named ks -/
def kwIx (x : Str) : Nat → List Str → Option Nat
  | _, [] => none
  | p, k :: r => if k == x then some p else kwIx x (p + 1) r
def srcs (p : Nat) (ks : List Str) : Nat → List Str → List (Option D) → Option (List Bd)
  | _, [], [] => some []
  | j, x :: ps, d :: ds =>
    let b : Option Bd := if j < p then some (.arg j) else (match kwIx x p ks with
      | some i => some (.arg i)
      | none => (match d with
        | some d => some (.dflt d)
        | none => none))
    (match b, srcs p ks (j + 1) ps ds with
      | some b, some r => some (b :: r)
      | _, _ => none)
  | _, _, _ => none
def nodupS : List Str → Bool
  | [] => true
  | x :: r => !r.contains x && nodupS r
/-- all keywords name parameters behind the positional ones, none twice -/
def kwOk (p : Nat) (ps ks : List Str) : Bool := decide (p ≤ ps.length) && ks.all (fun k => (ps.drop p).contains k) && nodupS ks

/-- expressions whose list, if they give one, is new -/
def freshE : E → Bool
  | .lst _ => true
  | .lc .. => true
  | .bin .. => true
  | .slc .. => true
  | .rev _ => true
  | .bi .list _ => true
  | .bi .sorted _ => true
  | _ => false
def cellE (e : E) : E := if freshE e then .cell e else e
/-- a value for the names: lists for names that are changed get cells -/
def cellsGo (mu : List Str) : List Expr → List Ar → List Ar
  | .Name x _ :: ts, .one e :: es => .one (if mu.contains x then cellE e else e) :: cellsGo mu ts es
  | _ :: ts, e :: es => e :: cellsGo mu ts es
  | _, es => es
def cellFor (mu : List Str) (t src : Expr) (e : E) : E := match t with
  | .Name x _ => if mu.contains x then cellE e else e
  | .Tuple ts _ _ => (match src with
    | .Tuple _ _ _ => (match e with
      | .tup es => .tup (cellsGo mu ts es)
      | e => e)
    | _ => e)
  | _ => e
def okName (x : Str) : Bool := !(x == "__debug__") && !(x == "__classdict__") && !(x == "__name__")
def compTg (c : Cc) : Nat → Expr → Option Tg
  | 0, _ => none
  | n + 1, e => match e with
    | .Name x _ => if okStore c x then (match ixOf x c.N with
      | some i => some (.nm i)
      | none => none) else none
    | .Tuple es _ _ => (match mapO (compTg c n) es with
      | some ts => some (.tp ts)
      | none => none)
    | _ => none
def constD : Const → Option D
  | .none => some .non
  | .bool b => some (.bl b)
  | .int i => some (.int i)
  | .str s => some (.str s)
  | _ => none
/-- the comprehension's own names with their slots -/
def oneIf (es : List Expr) : Bool := match es with
  | [] => true
  | [_] => true
  | _ => false
def ownOf (c : Cc) (scope : Scope) : List (Str × Nat) := scope.names.filterMap fun (n, k) => match k with
  | .local | .cell => (match ixOf n c.N with
    | some i => some (n, i)
    | none => none)
  | _ => none
def blkB (N : List Str) (sc scope : Scope) (own : List (Str × Nat)) : Bool := L2.blkC N sc scope own
def kwNames : List Keyword → Option (List Str)
  | [] => some []
  | ⟨some x, _, _⟩ :: r => (match kwNames r with
    | some xs => some (x :: xs)
    | none => none)
  | ⟨none, _, _⟩ :: _ => none
/-- pairs want a target of several names -/
def itTg (it : I) (tg : Expr) : Bool := match it with
  | .enum _ => (match tg with | .Tuple .. => true | _ => false)
  | .zip _ _ => (match tg with | .Tuple .. => true | _ => false)
  | _ => true
mutual
def compE (c : Cc) : Nat → Expr → Option E
  | 0, _ => none
  | n + 1, e => match e with
    | .Constant k _ _ => (match constD k with
      | some d => some (.c d)
      | none => none)
    | .Name x _ => if !okName x then none else if isVis c.sc x then (match ixOf x c.N with
        | some i => some (.v i)
        | none => none)
      else if isGl c.sc x then (match c.cst.lookup x with
        | some d => some (.c d)
        | none => if isBlt c x then (match btOf x with
          | some t => some (.c (.ty t))
          | none => none) else none)
      else none
    | .BoolOp op (a :: b :: r) _ => compB c n op (a :: b :: r)
    | .BinOp a op b _ => (match compE c n a, compE c n b with
      | some a, some b => some (.bin op a b)
      | _, _ => none)
    | .UnaryOp .USub a _ => (match compE c n a with
      | some a => some (.neg a)
      | none => none)
    | .UnaryOp .Not a _ => (match compE c n a with
      | some a => some (.not a)
      | none => none)
    | .IfExp t a b _ => (match compE c n t, compE c n a, compE c n b with
      | some t, some a, some b => some (.ite t a b)
      | _, _, _ => none)
    | .Compare a [op] [b] _ => (match compE c n a, compE c n b with
      | some a, some b => some (.cmp op a b)
      | _, _ => none)
    | .Compare a [op, op'] [b, d] _ => (match compE c n a, compE c n b, compE c n d with
      | some a, some b, some d => some (.chain op op' a b d)
      | _, _, _ => none)
    | .Tuple es _ _ => (match compAs c n es with
      | some es => some (.tup es)
      | none => none)
    | .List es _ => (match compAs c n es with
      | some es => some (.lst es)
      | none => none)
    | .Subscript a (.Slice none none (some (.UnaryOp .USub (.Constant (.int 1) _ _) _)) _) _ => (match compE c n a with
      | some a => some (.rev a)
      | none => none)
    | .Subscript a (.Slice lo hi none _) _ => (match compE c n a, compO c n lo, compO c n hi with
      | some a, some lo, some hi => some (.slc a lo hi)
      | _, _, _ => none)
    | .Subscript a i _ => (match compE c n a, compE c n i with
      | some a, some i => some (.idx a i)
      | _, _ => none)
    | .Call (.Name x _) es kws _ => (match c.fns.lookup x with
      | some s => if isGl c.sc x && !es.any isStar && okName x then (match compEs c n es, compKs c n kws, kwNames kws with
          | some es', some ks', some ks => if kwOk es.length s.ps ks then (match srcs es.length ks 0 s.ps s.ds with
              | some bs => some (.call s.k (es' ++ ks') bs)
              | none => none) else none
          | _, _, _ => none) else none
      | none => if isBlt c x && !es.any isStar && kws.isEmpty then (match biOf x, compEs c n es with
          | some f, some es => some (.bi f es)
          | _, _ => none) else none)
    | .Call (.Attribute (.Name y yp) m apos) [a] [] cpos => if m == "append" && apos.endLine == cpos.line then (match compE c n (.Name y yp), compE c n a with
      | some o, some a => some (.mt .append o [a])
      | _, _ => none) else none
    | .ListComp elt gs scope _ => if !((gs.all fun g => oneIf g.ifs && g.is_async == 0) && decide (gs.length ≤ 2)) then none else (match compG0 (c.inn scope) c n gs, compE (c.inn scope) n elt with
      | some gs, some elt => if blkB c.N c.sc scope (ownOf c scope) && gs.all (fun g => match g with | .mk tg _ _ => (tgIxs tg).all fun i => ((ownOf c scope).map (·.2)).contains i) then some (.lc elt ((ownOf c scope).map (·.2)) gs) else none
      | _, _ => none)
    | _ => none
def compB (c : Cc) : Nat → BoolOp → List Expr → Option E
  | 0, _, _ => none
  | n + 1, op, es => match es with
    | [] => none
    | [a] => compE c n a
    | a :: r => (match compE c n a, compB c n op r with
      | some a, some b => some (match op with | .And => .and a b | .Or => .or a b)
      | _, _ => none)
def compEs (c : Cc) : Nat → List Expr → Option (List E)
  | 0, _ => none
  | n + 1, es => match es with
    | [] => some []
    | e :: r => (match compE c n e, compEs c n r with
      | some e, some r => some (e :: r)
      | _, _ => none)
def compAs (c : Cc) : Nat → List Expr → Option (List Ar)
  | 0, _ => none
  | n + 1, es => match es with
    | [] => some []
    | .Starred e _ :: r => (match compE c n e, compAs c n r with
      | some e, some r => some (.all e :: r)
      | _, _ => none)
    | e :: r => (match compE c n e, compAs c n r with
      | some e, some r => some (.one e :: r)
      | _, _ => none)
def compKs (c : Cc) : Nat → List Keyword → Option (List E)
  | 0, _ => none
  | n + 1, es => match es with
    | [] => some []
    | ⟨_, e, _⟩ :: r => (match compE c n e, compKs c n r with
      | some e, some r => some (e :: r)
      | _, _ => none)
def compO (c : Cc) : Nat → Option Expr → Option (Option E)
  | 0, _ => none
  | n + 1, e => match e with
    | none => some none
    | some e => (match compE c n e with
      | some e => some (some e)
      | none => none)
/-- what is walked; c: where it is read -/
def compI (c : Cc) : Nat → Expr → Option I
  | 0, _ => none
  | n + 1, e => match e with
    | .Call (.Name x _) es [] _ => if isBlt c x then
        (if x == "range" then (match es with
          | [a] => (match compE c n a with
            | some a => some (.rng1 a)
            | none => none)
          | [a, b] => (match compE c n a, compE c n b with
            | some a, some b => some (.rng2 a b)
            | _, _ => none)
          | _ => none)
        else if x == "enumerate" then (match es with
          | [a] => (match compE c n a with
            | some a => some (.enum a)
            | none => none)
          | _ => none)
        else if x == "zip" then (match es with
          | [a, b] => (match compE c n a, compE c n b with
            | some a, some b => some (.zip a b)
            | _, _ => none)
          | _ => none)
        else (match compE c n e with
          | some e => some (.seq e)
          | none => none))
      else (match compE c n e with
        | some e => some (.seq e)
        | none => none)
    | e => (match compE c n e with
      | some e => some (.seq e)
      | none => none)
/-- the clauses: the first one's iterable is read outside -/
def compG0 (c c0 : Cc) : Nat → List Comprehension → Option (List G)
  | 0, _ => none
  | n + 1, gs => match gs with
    | ⟨tg, it, ifs, _⟩ :: r => (match compTg c 20 tg, compI c0 n it, compEs c n ifs, compG c n r with
      | some tg', some it, some ifs, some r => if itTg it tg then some (.mk tg' it ifs :: r) else none
      | _, _, _, _ => none)
    | [] => none
def compG (c : Cc) : Nat → List Comprehension → Option (List G)
  | 0, _ => none
  | n + 1, gs => match gs with
    | ⟨tg, it, ifs, _⟩ :: r => (match compTg c 20 tg, compI c n it, compEs c n ifs, compG c n r with
      | some tg', some it, some ifs, some r => if itTg it tg then some (.mk tg' it ifs :: r) else none
      | _, _, _, _ => none)
    | [] => some []
end
/-- whether a pair of displays is stored name by name -/
def swapNames (sc : Scope) (ts vs : List Expr) : Option (Option (List Str)) :=
  if !(ts.length == 2 || ts.length == 3) || vs.length != ts.length then some none
  else if vs.any fun | .Starred .. => true | _ => false then some none
  else
    let line := (ts.head?.map (·.pos.line)).getD 0
    let names := ts.filterMap fun
      | .Name id pos => if sc.names.lookup id == some .local && pos.line == line then some id else none
      | _ => none
    if names.length != ts.length || names.eraseDups.length != names.length then some none
    else if vs.all (foldedForSure 8) then some none
    else if vs.all (constantsAlone 8) then none
    else some (some names)
def asgOk (sc : Scope) (t e : Expr) : Bool := match t, e with
  | .Tuple ts _ _, .Tuple vs _ _ => (match swapNames sc ts vs with
    | some none => true
    | some (some ns) => nodupS ns
    | none => false)
  | _, _ => true
def isLc : Expr → Bool
  | .ListComp .. => true
  | _ => false
mutual
def compS (c : Cc) : Nat → Stmt → Option S
  | 0, _ => none
  | n + 1, s => match s with
    | .Expr e _ => if isLc e then none else (match compE c 100 e with
      | some e => some (.ex e)
      | none => none)
    | .Pass _ => some .pass
    | .Break _ => some .brk
    | .Return none _ => some .retN
    | .Return (some e) _ => (match compE c 100 e with
      | some e => some (.ret e)
      | none => none)
    | .Assign [t] e _ => if asgOk c.sc t e then (match compTg c 20 t, compE c 100 e with
      | some t', some e' => some (.asg t' (cellFor c.mu t e e'))
      | _, _ => none) else none
    | .If t a b _ => (match compE c 100 t, compSs c n a, compSs c n b with
      | some t, some a, some b => some (.ifs t a b)
      | _, _, _ => none)
    | .For t it b [] _ => (match compTg c 20 t, compI c 100 it, compSs c n b with
      | some t', some it, some b => if itTg it t then some (.for_ t' it b) else none
      | _, _, _ => none)
    | .While t b [] _ => (match compE c 100 t, compSs c n b with
      | some t, some b => some (.whl t b)
      | _, _ => none)
    | _ => none
def compSs (c : Cc) : Nat → List Stmt → Option (List S)
  | 0, _ => none
  | n + 1, ss => match ss with
    | [] => some []
    | s :: r => (match compS c n s, compSs c n r with
      | some s, some r => some (s :: r)
      | _, _ => none)
end

/-! ### the names of comprehensions in a body -/
mutual
def lcE : Nat → Expr → List Str
  | 0, _ => []
  | n + 1, e => match e with
    | .BoolOp _ es _ => lcEs n es
    | .BinOp a _ b _ => lcE n a ++ lcE n b
    | .UnaryOp _ a _ => lcE n a
    | .IfExp a b c _ => lcE n a ++ lcE n b ++ lcE n c
    | .Compare a _ bs _ => lcE n a ++ lcEs n bs
    | .Call f es ks _ => lcE n f ++ lcEs n es ++ ks.flatMap fun k => lcE n k.value
    | .Attribute o _ _ => lcE n o
    | .Subscript a i _ => lcE n a ++ lcE n i
    | .Starred a _ => lcE n a
    | .List es _ => lcEs n es
    | .Tuple es _ _ => lcEs n es
    | .Slice a b c _ => (a.toList ++ b.toList ++ c.toList).flatMap (lcE n)
    | .ListComp elt gs scope _ => (scope.names.filterMap fun (x, k) => match k with
        | .local | .cell => if x == ".0" then none else some x
        | _ => none) ++ lcE n elt ++ gs.flatMap fun g => lcE n g.iter ++ lcEs n g.ifs
    | _ => []
def lcEs : Nat → List Expr → List Str
  | 0, _ => []
  | _ + 1, [] => []
  | n + 1, e :: r => lcE n e ++ lcEs n r
end
mutual
def muS : Nat → Stmt → List Str
  | 0, _ => []
  | n + 1, s => match s with
    | .Expr (.Call (.Attribute (.Name x _) m _) _ _ _) _ => if m == "append" || m == "extend" || m == "pop" || m == "clear" then [x] else []
    | .Assign [.Subscript (.Name x _) _ _] _ _ => [x]
    | .If _ a b _ => muSs n a ++ muSs n b
    | .For _ _ b _ _ => muSs n b
    | .While _ b _ _ => muSs n b
    | _ => []
def muSs : Nat → List Stmt → List Str
  | 0, _ => []
  | _ + 1, [] => []
  | n + 1, s :: r => muS n s ++ muSs n r
end
mutual
def lcS : Nat → Stmt → List Str
  | 0, _ => []
  | n + 1, s => match s with
    | .Expr e _ => lcE 100 e
    | .Return (some e) _ => lcE 100 e
    | .Assign ts e _ => lcEs 100 ts ++ lcE 100 e
    | .If t a b _ => lcE 100 t ++ lcSs n a ++ lcSs n b
    | .For _ it b _ _ => lcE 100 it ++ lcSs n b
    | .While t b _ _ => lcE 100 t ++ lcSs n b
    | _ => []
def lcSs : Nat → List Stmt → List Str
  | 0, _ => []
  | _ + 1, [] => []
  | n + 1, s :: r => lcS n s ++ lcSs n r
end
def slotsOf (args : Arguments) (body : List Stmt) (scope : Scope) : List Str :=
  let ps := args.args.map (·.arg)
  let ls := scope.names.filterMap fun (x, k) => match k with
    | .local | .cell => some x
    | _ => none
  (ls ++ lcSs 1000 body).foldl (fun acc x => if acc.contains x then acc else acc ++ [x]) ps
def dflE : Expr → Option D
  | .Constant k _ _ => constD k
  | .UnaryOp .USub (.Constant (.int i) _ _) _ => some (.int (-i))
  | _ => none
/-- the defaults, from the right -/
def dfltsOf (args : Arguments) : Option (List (Option D)) :=
  match mapO dflE args.defaults with
  | some ds => some (List.replicate (args.args.length - ds.length) none ++ ds.map some)
  | none => none
/-- the defs of the top -/
structure Df where
  name : Str
  args : Arguments
  body : List Stmt
  scope : Scope
def dfsOf : List Stmt → List Df
  | [] => []
  | .FunctionDef name args body [] none [] scope none _ _ :: r => ⟨name, args, body, scope⟩ :: dfsOf r
  | _ :: r => dfsOf r
def sigsOf : Nat → List Df → Option (List (Str × Sig))
  | _, [] => some []
  | k, d :: r => (match dfltsOf d.args, sigsOf (k + 1) r with
    | some ds, some r => some ((d.name, ⟨k, d.args.args.map (·.arg), ds⟩) :: r)
    | _, _ => none)
def constE : Nat → Expr → Option D
  | 0, _ => none
  | n + 1, e => match e with
    | .Constant k _ _ => constD k
    | .Tuple es _ _ => (match mapO (constE n) es with
      | some ds => some (.tup ds)
      | none => none)
    | _ => none
def cstsOf : List Stmt → List (Str × D)
  | [] => []
  | .Assign [.Name x _] e _ :: r => if x == "__name__" then cstsOf r else (match constE 5 e with
    | some d => (x, d) :: cstsOf r
    | none => cstsOf r)
  | _ :: r => cstsOf r
def compDf (sg : List (Str × Sig)) (cs : List (Str × D)) (d : Df) : Option Fn :=
  let N := slotsOf d.args d.body d.scope
  match compSs ⟨N, d.scope, true, d.scope, muSs 1000 d.body, sg, cs⟩ 1000 d.body with
  | some b => some ⟨d.args.args.length, N.length, b⟩
  | none => none
def compP (p : Program) : Option (Prog × List (Str × Sig)) :=
  let ds := dfsOf p.main.body
  match sigsOf 0 ds with
  | some sg => (match mapO (compDf sg (cstsOf p.main.body)) ds with
    | some fs => some (fs, sg)
    | none => none)
  | none => none
/-- which defs do not compile -/
def badDf (p : Program) : List Str :=
  let ds := dfsOf p.main.body
  match sigsOf 0 ds with
  | some sg => (ds.filter fun d => (compDf sg (cstsOf p.main.body) d).isNone).map (·.name)
  | none => ["sigs"]
end Pv

/-! Pv3: plain data stand for values. -/
namespace Pv
open PySem L2

/-- what is known beside the heap: frozen things, cells -/
structure Gh where
  F : Addr → Prop
  φ : List Addr

def BT.nm : BT → String
  | .int => "int" | .bool => "bool" | .str => "str" | .tuple => "tuple" | .list => "list" | .dict => "dict" | .valueError => "ValueError"

/-- a tuple of the written part -/
def KTup (K : PySem.W.Frag) (a : Addr) (vs : List V) : Prop := ∃ o its n, K.lookup a = some o ∧ o.cls = Value.type "tuple" ∧ o.data = Data.seq its n ∧ its.size ≤ sizeLine ∧ Vals vs its.toList
/-- a list of the written part -/
def KLst (K : PySem.W.Frag) (a : Addr) (vs : List V) : Prop := ∃ o its n, K.lookup a = some o ∧ o.cls = Value.type "list" ∧ o.dict = none ∧ o.data = Data.seq its n ∧ its.size ≤ sizeLine ∧ Vals vs its.toList
section
variable (K : PySem.W.Frag)
mutual
inductive RepD (g : Gh) (H : Hp) : D → V → Prop
  | non : RepD g H .non .non
  | bl (b : Bool) : RepD g H (.bl b) (.bl b)
  | int (i : Int) : RepD g H (.int i) (.int i)
  | str (s : Str) : RepD g H (.str s) (.str s)
  | rpr (p : PyData) : RepD g H (.rpr p) (.str p.shown)
  | ty (t : BT) : RepD g H (.ty t) (.ty t.nm)
  | loc {i : Nat} {a : Addr} : g.φ[i]? = some a → RepD g H (.loc i) (.ref a)
  | tup {a : Addr} {ds : List D} {vs : List V} : g.F a → H a = some (.tup vs) → RepL g H ds vs → RepD g H (.tup ds) (.ref a)
  | ktup {a : Addr} {ds : List D} {vs : List V} : KTup K a vs → RepL g H ds vs → RepD g H (.tup ds) (.ref a)
  | lst {a : Addr} {ds : List D} {vs : List V} : g.F a → H a = some (.lst vs) → RepL g H ds vs → RepD g H (.lst ds) (.ref a)
  | scr {a : Addr} {ds : List D} {vs : List V} {o : Obj} : g.F a → H a = some (.frz o (.lst vs)) → RepL g H ds vs → RepD g H (.scr ds) (.ref a)
  | kscr {a : Addr} {ds : List D} {vs : List V} : KLst K a vs → RepL g H ds vs → RepD g H (.scr ds) (.ref a)
inductive RepL (g : Gh) (H : Hp) : List D → List V → Prop
  | nil : RepL g H [] []
  | cons {d : D} {v : V} {ds : List D} {vs : List V} : RepD g H d v → RepL g H ds vs → RepL g H (d :: ds) (v :: vs)
end
def RepO (g : Gh) (H : Hp) (a : Addr) : O → Prop
  | .lst ds => ∃ vs, H a = some (.lst vs) ∧ RepL K g H ds vs
structure RelA (g : Gh) (A : Sto) (H : Hp) : Prop where
  len : g.φ.length = A.size
  nd : g.φ.Nodup
  disj : ∀ a, g.F a → a ∉ g.φ
  trk : ∀ a ∈ g.φ, ∃ o, H a = some o
  trF : ∀ a, g.F a → ∃ o, H a = some o
  cel : ∀ i o, A.get i = some o → ∃ a, g.φ[i]? = some a ∧ RepO K g H a o
  sz : A.size < 2 ^ 60
def RepS (g : Gh) (H : Hp) (ρ : Env) (σ : L2.St) : Prop := ρ.length = σ.length ∧ ∀ (i : Nat) (d : D), ρ[i]? = some (some d) → ∃ v, σ[i]? = some (some v) ∧ RepD K g H d v
end
structure Post (g : Gh) (H : Hp) (g' : Gh) (H' : Hp) : Prop where
  pre : ∃ ψ, g'.φ = g.φ ++ ψ
  inF : ∀ a, g.F a → g'.F a
  newφ : ∀ a ∈ g'.φ, a ∈ g.φ ∨ H a = none
  newF : ∀ a, g'.F a → g.F a ∨ H a = none
  frm : ∀ a o, H a = some o → a ∉ g.φ → H' a = some o
  trk : ∀ a o, H a = some o → ∃ o', H' a = some o'

theorem Post.refl (g : Gh) (H : Hp) : Post g H g H := ⟨⟨[], by simp⟩, fun _ h => h, fun _ h => .inl h, fun _ h => .inl h, fun _ _ h _ => h, fun _ o h => ⟨o, h⟩⟩
theorem Post.trans {g g1 g2 : Gh} {H H1 H2 : Hp} (a : Post g H g1 H1) (b : Post g1 H1 g2 H2) : Post g H g2 H2 := by
  have nn : ∀ x, H1 x = none → H x = none := fun x h => by
    cases e : H x with
    | none => rfl
    | some o =>
      obtain ⟨o', e'⟩ := a.trk x o e
      rw [h] at e'; cases e'
  refine ⟨?_, fun x h => b.inF x (a.inF x h), fun x h => ?_, fun x h => ?_, fun x o h n => ?_, fun x o h => ?_⟩
  · obtain ⟨ψ, e⟩ := a.pre
    obtain ⟨ψ', e'⟩ := b.pre
    exact ⟨ψ ++ ψ', by rw [e', e, List.append_assoc]⟩
  · rcases b.newφ x h with h | h
    · exact a.newφ x h
    · exact .inr (nn x h)
  · rcases b.newF x h with h | h
    · exact a.newF x h
    · exact .inr (nn x h)
  · refine b.frm x o (a.frm x o h n) fun hx => ?_
    rcases a.newφ x hx with z | z
    · exact n z
    · rw [h] at z; cases z
  · obtain ⟨o', e'⟩ := a.trk x o h
    exact b.trk x o' e'

section
variable {K : PySem.W.Frag} {g g' : Gh} {H H' : Hp}
theorem RepL.length : ∀ {ds : List D} {vs : List V}, RepL K g H ds vs → ds.length = vs.length
  | _, _, .nil => rfl
  | _, _, .cons _ t => by simp [RepL.length t]
theorem RepL.append : ∀ {ds es : List D} {vs us : List V}, RepL K g H ds vs → RepL K g H es us → RepL K g H (ds ++ es) (vs ++ us)
  | _, _, _, _, .nil, s => s
  | _, _, _, _, .cons r t, s => .cons r (RepL.append t s)
theorem RepL.get : ∀ {ds : List D} {vs : List V} {i : Nat} {d : D}, RepL K g H ds vs → ds[i]? = some d → ∃ v, vs[i]? = some v ∧ RepD K g H d v
  | _, _, _, _, .nil, e => by simp at e
  | _, _, 0, _, .cons r _, e => by simp at e; subst e; exact ⟨_, rfl, r⟩
  | _, _, i + 1, d, .cons _ t, e => by
    obtain ⟨v, h1, h2⟩ := RepL.get (i := i) (d := d) t (by simpa using e)
    exact ⟨v, by simpa using h1, h2⟩
theorem RepL.take : ∀ {ds : List D} {vs : List V} (n : Nat), RepL K g H ds vs → RepL K g H (ds.take n) (vs.take n)
  | _, _, 0, _ => .nil
  | _, _, _ + 1, .nil => .nil
  | _, _, n + 1, .cons r t => .cons r (RepL.take n t)
theorem RepL.drop : ∀ {ds : List D} {vs : List V} (n : Nat), RepL K g H ds vs → RepL K g H (ds.drop n) (vs.drop n)
  | _, _, 0, r => r
  | _, _, _ + 1, .nil => .nil
  | _, _, n + 1, .cons _ t => RepL.drop n t
theorem RepL.reverse {ds : List D} {vs : List V} (h : RepL K g H ds vs) : RepL K g H ds.reverse vs.reverse := by
  induction ds generalizing vs with
  | nil => cases h; exact .nil
  | cons d ds ih =>
    cases h with
    | cons r t =>
      rw [List.reverse_cons, List.reverse_cons]
      exact (ih t).append (.cons r .nil)
theorem RepL.flat {ds : List D} {vs : List V} (h : RepL K g H ds vs) : ∀ n, RepL K g H (List.replicate n ds).flatten (List.replicate n vs).flatten
  | 0 => .nil
  | n + 1 => by
    rw [List.replicate_succ, List.replicate_succ, List.flatten_cons, List.flatten_cons]
    exact h.append (RepL.flat h n)

/-- what is known of frozen and cells stays -/
structure Keeps (K : PySem.W.Frag) (g : Gh) (H : Hp) (g' : Gh) (H' : Hp) : Prop where
  inF : ∀ a, g.F a → g'.F a
  pre : ∀ (i : Nat) (a : Addr), g.φ[i]? = some a → g'.φ[i]? = some a
  frm : ∀ a o, g.F a → H a = some o → H' a = some o
mutual
theorem RepD.keeps (k : Keeps K g H g' H') : ∀ {d : D} {v : V}, RepD K g H d v → RepD K g' H' d v
  | _, _, .non => .non
  | _, _, .bl b => .bl b
  | _, _, .int i => .int i
  | _, _, .str s => .str s
  | _, _, .rpr p => .rpr p
  | _, _, .ty t => .ty t
  | _, _, .loc e => .loc (k.pre _ _ e)
  | _, _, .tup f s r => .tup (k.inF _ f) (k.frm _ _ f s) (RepL.keeps k r)
  | _, _, .ktup s r => .ktup s (RepL.keeps k r)
  | _, _, .lst f s r => .lst (k.inF _ f) (k.frm _ _ f s) (RepL.keeps k r)
  | _, _, .scr f s r => .scr (k.inF _ f) (k.frm _ _ f s) (RepL.keeps k r)
  | _, _, .kscr s r => .kscr s (RepL.keeps k r)
theorem RepL.keeps (k : Keeps K g H g' H') : ∀ {ds : List D} {vs : List V}, RepL K g H ds vs → RepL K g' H' ds vs
  | _, _, .nil => .nil
  | _, _, .cons r t => .cons (RepD.keeps k r) (RepL.keeps k t)
end
theorem RepS.keeps (k : Keeps K g H g' H') {ρ : Env} {σ : L2.St} (h : RepS K g H ρ σ) : RepS K g' H' ρ σ :=
  ⟨h.1, fun i d e => let ⟨v, a, b⟩ := h.2 i d e; ⟨v, a, b.keeps k⟩⟩
theorem Post.keeps (p : Post g H g' H') (dj : ∀ a, g.F a → a ∉ g.φ) : Keeps K g H g' H' :=
  ⟨p.inF, fun i a e => by
    obtain ⟨ψ, q⟩ := p.pre
    rw [q, List.getElem?_append_left (List.getElem?_eq_some_iff.mp e).1]
    exact e, fun a o f e => p.frm a o e (dj a f)⟩
theorem RelA.keeps {A : Sto} (r : RelA K g A H) (p : Post g H g' H') : Keeps K g H g' H' := p.keeps r.disj

/-- a new object, frozen -/
def Gh.frz (g : Gh) (p : Addr) : Gh := ⟨fun a => g.F a ∨ a = p, g.φ⟩
/-- a new object that is not known -/
theorem RelA.laid {A : Sto} {p : Addr} {o : HO} (r : RelA K g A H) (hp : H p = none) : RelA K g A (upd H p o) := by
  have np : p ∉ g.φ := fun h => by
    obtain ⟨o, e⟩ := r.trk p h
    rw [hp] at e; cases e
  have kp : Keeps K g H g (upd H p o) := ⟨fun _ h => h, fun _ _ e => e, fun a u f e => by
    rw [upd_ne (ne_of_none e hp)]; exact e⟩
  refine ⟨r.len, r.nd, r.disj, fun a h => ?_, fun a h => ?_, fun i ob e => ?_, r.sz⟩
  · obtain ⟨u, e⟩ := r.trk a h
    exact ⟨u, by rw [upd_ne (ne_of_none e hp)]; exact e⟩
  · obtain ⟨u, e⟩ := r.trF a h
    exact ⟨u, by rw [upd_ne (ne_of_none e hp)]; exact e⟩
  · obtain ⟨a, e1, e2⟩ := r.cel i ob e
    refine ⟨a, e1, ?_⟩
    cases ob with
    | lst ds =>
      obtain ⟨vs, h1, h2⟩ := e2
      exact ⟨vs, by rw [upd_ne (ne_of_none h1 hp)]; exact h1, h2.keeps kp⟩
theorem Post.laid {p : Addr} {o : HO} (hp : H p = none) : Post g H g (upd H p o) :=
  ⟨⟨[], by simp⟩, fun _ h => h, fun _ h => .inl h, fun _ h => .inl h, fun a u e _ => by rw [upd_ne (ne_of_none e hp)]; exact e, fun a u e => ⟨u, by rw [upd_ne (ne_of_none e hp)]; exact e⟩⟩
/-- something that is no cell is frozen -/
theorem RelA.freeze {A : Sto} {p : Addr} {o : HO} (r : RelA K g A H) (np : p ∉ g.φ) (hp : H p = some o) : RelA K (g.frz p) A H := by
  have kp : Keeps K g H (g.frz p) H := ⟨fun _ h => .inl h, fun _ _ e => e, fun _ _ _ e => e⟩
  refine ⟨r.len, r.nd, fun a h => ?_, r.trk, fun a h => ?_, fun i ob e => ?_, r.sz⟩
  · rcases h with h | h
    · exact r.disj a h
    · subst h; exact np
  · rcases h with h | h
    · exact r.trF a h
    · subst h; exact ⟨o, hp⟩
  · obtain ⟨a, e1, e2⟩ := r.cel i ob e
    refine ⟨a, e1, ?_⟩
    cases ob with
    | lst ds =>
      obtain ⟨vs, h1, h2⟩ := e2
      exact ⟨vs, h1, h2.keeps kp⟩
theorem Post.freeze {p : Addr} {g0 : Gh} {H0 : Hp} (po : Post g0 H0 g H) (hp : H0 p = none) : Post g0 H0 (g.frz p) H :=
  ⟨po.pre, fun a h => .inl (po.inF a h), po.newφ, fun a h => by
    rcases h with h | h
    · exact po.newF a h
    · subst h; exact .inr hp, po.frm, po.trk⟩
theorem RelA.notF {A : Sto} {p : Addr} (r : RelA K g A H) (hp : H p = none) : ¬ g.F p := fun h => by
  obtain ⟨o, e⟩ := r.trF p h
  rw [hp] at e; cases e
theorem KTup.sq {a : Addr} {vs : List V} (h : KTup K a vs) : SqT K H a vs := .inr h
theorem RelA.notφ {A : Sto} {p : Addr} (r : RelA K g A H) (hp : H p = none) : p ∉ g.φ := fun h => by
  obtain ⟨o, e⟩ := r.trk p h
  rw [hp] at e; cases e
end
end Pv

/-! Pv4: operations on values do what the evaluator does on data. -/
namespace Pv
open PySem L2 PyProof.Rows

/-- where a body runs: room, no repr running -/
structure Ctx (X : Cx) (k : Nat) : Prop where
  hr : Room k X.A
  hg : X.A.guards = some []
  calm : X.calm = true

section
variable (K : PySem.W.Frag) (g : Gh) (A : Sto) (H : Hp)
/-- what is wanted of a value -/
def Out (d : D) (Q : VK) : Prop := ∀ g' v H', Post g H g' H' → RelA K g' A H' → RepD K g' H' d v → Q v H'
/-- of a new list: nobody knows it yet -/
def NewL (ds : List D) (Q : VK) : Prop := ∀ g' p vs H', Post g H g' H' → RelA K g' A H' → H p = none → p ∉ g'.φ → ¬ g'.F p → H' p = some (.lst vs) → RepL K g' H' ds vs → Q (.ref p) H'
def FOut (d : D) (Q : VK) : Prop := match d with
  | .lst ds => NewL K g A H ds Q
  | d => Out K g A H d Q
end
section
variable {K : PySem.W.Frag} {g : Gh} {A : Sto} {H : Hp} {Q : VK}
theorem Out.new {ds : List D} (h : Out K g A H (.lst ds) Q) : NewL K g A H ds Q := fun g' p vs H' po r hp np nf e rl => by
  have kp : Keeps K g' H' (g'.frz p) H' := ⟨fun _ h => .inl h, fun _ _ e => e, fun _ _ _ e => e⟩
  exact h (g'.frz p) _ H' (po.freeze hp) (r.freeze np e) (.lst (.inr rfl) e (rl.keeps kp))
theorem Out.fresh : ∀ {d : D}, Out K g A H d Q → FOut K g A H d Q
  | .lst _, h => Out.new h
  | .non, h => h
  | .bl _, h => h
  | .int _, h => h
  | .str _, h => h
  | .tup _, h => h
  | .loc _, h => h
  | .scr _, h => h
  | .rpr _, h => h
  | .ty _, h => h
/-- nothing changes -/
theorem Out.same {d : D} {v : V} (h : Out K g A H d Q) (r : RelA K g A H) (rd : RepD K g H d v) : Q v H := h g v H (Post.refl g H) r rd
/-- a new tuple -/
theorem Out.tup {ds : List D} {vs : List V} {p : Addr} (h : Out K g A H (.tup ds) Q) (r : RelA K g A H) (rl : RepL K g H ds vs) (hp : H p = none) : Q (.ref p) (upd H p (.tup vs)) := by
  have kp : Keeps K g H (g.frz p) (upd H p (.tup vs)) := ⟨fun _ h => .inl h, fun _ _ e => e, fun a o _ e => by rw [upd_ne (ne_of_none e hp)]; exact e⟩
  refine h (g.frz p) _ _ ((Post.laid hp).freeze hp) ((r.laid hp).freeze (r.notφ hp) upd_same) (.tup (.inr rfl) upd_same (rl.keeps kp))
/-- a new list -/
theorem NewL.lst {ds : List D} {vs : List V} {p : Addr} (h : NewL K g A H ds Q) (r : RelA K g A H) (rl : RepL K g H ds vs) (hp : H p = none) : Q (.ref p) (upd H p (.lst vs)) := by
  have kp : Keeps K g H g (upd H p (.lst vs)) := ⟨fun _ h => h, fun _ _ e => e, fun a o _ e => by rw [upd_ne (ne_of_none e hp)]; exact e⟩
  exact h g p vs _ (Post.laid hp) (r.laid hp) hp (r.notφ hp) (r.notF hp) upd_same (rl.keeps kp)
end

/-! ### data -/
section
variable {K : PySem.W.Frag} {g : Gh} {A : Sto} {H : Hp}
theorem mapO_py (n : Nat) (ih : ∀ (d : D) (v : V) (p : PyData), RepD K g H d v → toPy A n d = some p → Dp K H v p) :
    ∀ (ds : List D) (vs : List V) (ps : List PyData), RepL K g H ds vs → mapO (toPy A n) ds = some ps → DpAll K H vs ps
  | [], _, ps, .nil, e => by
    simp only [mapO, Option.some.injEq] at e
    subst e
    exact .nil
  | d :: ds, _, ps, .cons r t, e => by
    unfold mapO at e
    split at e
    · rename_i y hy
      split at e
      · rename_i ys hys
        cases e
        exact .cons (ih d _ y r hy) (mapO_py n ih ds _ ys t hys)
      · cases e
    · cases e
theorem toPy_dp (r : RelA K g A H) : ∀ (n : Nat) (d : D) (v : V) (p : PyData), RepD K g H d v → toPy A n d = some p → Dp K H v p
  | 0, _, _, _, _, e => by cases e
  | n + 1, d, v, p, rd, e => by
    unfold toPy at e
    cases rd with
    | non => cases e; exact .non
    | bl b => cases e; exact .bl b
    | int i => cases e; exact .int i
    | str s =>
      simp only at e
      split at e
      · cases e; exact .str s
      · cases e
    | rpr p => cases e
    | ty t => cases e
    | scr _ _ _ => cases e
    | kscr _ _ => cases e
    | tup f s rl =>
      simp only at e
      split at e
      · rename_i ys hys
        cases e
        exact .tup (SqT.of s) (mapO_py n (toPy_dp r n) _ _ ys rl hys)
      · cases e
    | ktup s rl =>
      simp only at e
      split at e
      · rename_i ys hys
        cases e
        exact .tup s.sq (mapO_py n (toPy_dp r n) _ _ ys rl hys)
      · cases e
    | lst f s rl =>
      simp only at e
      split at e
      · rename_i ys hys
        cases e
        exact .lst (SqL.of s) (mapO_py n (toPy_dp r n) _ _ ys rl hys)
      · cases e
    | loc hl =>
      simp only at e
      split at e
      · rename_i xs hx
        obtain ⟨a, e1, vs, e2, rl⟩ := r.cel _ _ hx
        rw [hl] at e1
        cases e1
        split at e
        · rename_i ys hys
          cases e
          exact .lst (SqL.of e2) (mapO_py n (toPy_dp r n) _ _ ys rl hys)
        · cases e
      · cases e
theorem mapO_shape (n : Nat) (ih : ∀ (d : D) (p : PyData), toPy A n d = some p → p.canLay0 = true ∧ p.depth ≤ n) :
    ∀ (ds : List D) (ps : List PyData), mapO (toPy A n) ds = some ps → PyData.canLayAll0 ps = true ∧ PyData.depthAll ps ≤ n
  | [], ps, e => by
    simp only [mapO, Option.some.injEq] at e
    subst e
    exact ⟨rfl, Nat.zero_le _⟩
  | d :: ds, ps, e => by
    unfold mapO at e
    split at e
    · rename_i y hy
      split at e
      · rename_i ys hys
        cases e
        obtain ⟨a1, a2⟩ := ih d y hy
        obtain ⟨b1, b2⟩ := mapO_shape n ih ds ys hys
        refine ⟨?_, ?_⟩
        · simp only [PyData.canLayAll0, a1, b1, Bool.and_self]
        · simp only [PyData.depthAll]
          omega
      · cases e
    · cases e
theorem toPy_shape : ∀ (n : Nat) (d : D) (p : PyData), toPy A n d = some p → p.canLay0 = true ∧ p.depth ≤ n
  | 0, _, _, e => by cases e
  | n + 1, d, p, e => by
    unfold toPy at e
    have seq : ∀ (xs : List D) (C : List PyData → PyData), (∀ ys, (C ys).canLay0 = PyData.canLayAll0 ys) → (∀ ys, (C ys).depth = PyData.depthAll ys + 1) →
        (match mapO (toPy A n) xs with | some ys => some (C ys) | none => none) = some p → p.canLay0 = true ∧ p.depth ≤ n + 1 := fun xs C h1 h2 e => by
      split at e
      · rename_i ys hys
        cases e
        obtain ⟨b1, b2⟩ := mapO_shape n (toPy_shape n) xs ys hys
        rw [h1, h2]
        exact ⟨b1, by omega⟩
      · cases e
    cases d with
    | non => cases e; exact ⟨rfl, Nat.zero_le _⟩
    | bl b => cases e; exact ⟨rfl, Nat.zero_le _⟩
    | int i => cases e; exact ⟨rfl, Nat.zero_le _⟩
    | str s =>
      simp only at e
      split at e
      · rename_i h
        cases e
        exact ⟨h, Nat.zero_le _⟩
      · cases e
    | rpr p => cases e
    | scr p => cases e
    | ty t => cases e
    | tup xs => exact seq xs .tuple (fun _ => rfl) (fun _ => rfl) e
    | lst xs => exact seq xs .list (fun _ => rfl) (fun _ => rfl) e
    | loc i =>
      simp only at e
      split at e
      · rename_i xs hx
        exact seq xs .list (fun _ => rfl) (fun _ => rfl) e
      · cases e
theorem toPy_shaped {d : D} {p : PyData} (e : toPy A depthFuel d = some p) : SeqAt.shaped p = true := by
  obtain ⟨a, b⟩ := toPy_shape _ _ _ e
  unfold SeqAt.shaped
  rw [a, Bool.true_and]
  exact decide_eq_true (Nat.le_trans b (by decide))
theorem forceI_eq (z : Int) : forceI z = .int z := by
  unfold forceI
  split
  · split <;> rfl
  · split <;> rfl
end
end Pv

/-! Pv5: binary operations, comparisons. -/
namespace Pv
open PySem L2 PyProof.Rows

section
variable {X : Cx}
theorem OpR.imp {f : Value → Value → Sem Value} {r r' : R2} (h : OpR X f r) (i : ∀ x y H Q, r' x y H Q → r x y H Q) : OpR X f r' := fun pins s σ H x y v u Q I rx ry q =>
  h pins s σ H x y v u Q I rx ry (i x y H Q q)
theorem UnR.imp {f : Value → Sem Value} {r r' : V → Hp → VK → Prop} (h : UnR X f r) (i : ∀ x H Q, r' x H Q → r x H Q) : UnR X f r' := fun pins s σ H x v Q I rx q =>
  h pins s σ H x v Q I rx (i x H Q q)
theorem CallR.imp {f : Value} {r r' : List V → Hp → VK → Prop} (h : CallR X f r) (i : ∀ xs H Q, r' xs H Q → r xs H Q) : CallR X f r' := fun pins s σ H xs us Q I rx q =>
  h pins s σ H xs us Q I rx (i xs H Q q)
theorem IxR.imp {r r' : R2} (h : IxR X r) (i : ∀ x y H Q, r' x y H Q → r x y H Q) : IxR X r' := fun value slice pins s σ H x y v u Q I rx ry q e =>
  h value slice pins s σ H x y v u Q I rx ry (i x y H Q q) e
theorem IxR.or {r r' : R2} (h : IxR X r) (h' : IxR X r') : IxR X (fun x y H Q => r x y H Q ∨ r' x y H Q) := fun value slice pins s σ H x y v u Q I rx ry q e => by
  rcases q with q | q
  · exact h value slice pins s σ H x y v u Q I rx ry q e
  · exact h' value slice pins s σ H x y v u Q I rx ry q e
end

section
variable {K : PySem.W.Frag} {g : Gh} {A : Sto} {H : Hp}
theorem RepD.int' {i : Int} {v : V} (h : RepD K g H (.int i) v) : v = .int i := by cases h; rfl
theorem RepD.bl' {b : Bool} {v : V} (h : RepD K g H (.bl b) v) : v = .bl b := by cases h; rfl
theorem RepD.str' {b : Str} {v : V} (h : RepD K g H (.str b) v) : v = .str b := by cases h; rfl
theorem RepD.rpr' {b : PyData} {v : V} (h : RepD K g H (.rpr b) v) : v = .str b.shown := by cases h; rfl
theorem RepD.non' {v : V} (h : RepD K g H .non v) : v = .non := by cases h; rfl
theorem RepD.ty' {t : BT} {v : V} (h : RepD K g H (.ty t) v) : v = .ty t.nm := by cases h; rfl
theorem RepD.tup' {ds : List D} {v : V} (h : RepD K g H (.tup ds) v) : ∃ a vs, v = .ref a ∧ SqT K H a vs ∧ RepL K g H ds vs := by
  cases h with
  | tup f s r => exact ⟨_, _, rfl, SqT.of s, r⟩
  | ktup s r => exact ⟨_, _, rfl, s.sq, r⟩
theorem lst_at (r : RelA K g A H) {d : D} {v : V} {xs : List D} (h : RepD K g H d v) (e : lstOf A d = some xs) : ∃ a vs, v = .ref a ∧ H a = some (.lst vs) ∧ RepL K g H xs vs := by
  unfold lstOf at e
  split at e
  · cases e
    cases h with
    | lst f s r => exact ⟨_, _, rfl, s, r⟩
  · split at e
    · rename_i hx
      cases e
      cases h with
      | loc hl =>
        obtain ⟨a, e1, vs, e2, rl⟩ := r.cel _ _ hx
        rw [hl] at e1
        cases e1
        exact ⟨_, vs, rfl, e2, rl⟩
    · cases e
  · cases e
theorem seq_at (r : RelA K g A H) {d : D} {v : V} {xs : List D} (h : RepD K g H d v) (e : seqOf A d = some xs) : ∃ a vs, v = .ref a ∧ (H a = some (.lst vs) ∨ SqT K H a vs) ∧ RepL K g H xs vs := by
  unfold seqOf at e
  split at e
  · cases e
    obtain ⟨a, vs, e1, e2, e3⟩ := h.tup'
    exact ⟨a, vs, e1, .inr e2, e3⟩
  · cases e
    cases h with
    | lst f s r => exact ⟨_, _, rfl, .inl s, r⟩
  · split at e
    · rename_i hx
      cases e
      cases h with
      | loc hl =>
        obtain ⟨a, e1, vs, e2, rl⟩ := r.cel _ _ hx
        rw [hl] at e1
        cases e1
        exact ⟨_, vs, rfl, .inl e2, rl⟩
    · cases e
  · cases e
end

/-- what is asked of a binary operation -/
def rBin (K : PySem.W.Frag) (op : Operator) : R2 := fun x y H Q => ∃ g A dx dy d, RelA K g A H ∧ RepD K g H dx x ∧ RepD K g H dy y ∧ binD A op dx dy = some d ∧ FOut K g A H d Q

section
variable {X : Cx}
/-- t * 1, () * k: t itself -/
theorem tuple_mul1 (l : Addr) (items : Array Value) (n : Nat) (dd : Option Addr) (sl : Array (Option Value)) (x : Int) (u : Tok) (c0 : (decide (x < -(2 ^ 63)) || decide (x ≥ 2 ^ 63)) = false) (c1 : (items.isEmpty || x == 1) = true) :
    Meets (Builtin.«tuple.__mul__» ⟨[.ref l, .int x u], []⟩) (fun _ R s => s.heap.get? l = some { cls := .type "tuple", dict := dd, data := .seq items n, slots := sl } ∧ R (.ok (.ret (Value.ref l))) s) :=
  .of_wp fun prog w A R s h => by
    obtain ⟨hp, g, d, tk, os⟩ := s
    obtain ⟨hl, h⟩ := h
    have f1 := AutoSeq1.idx_int
    wp_walk using wpAny_loadPart' hl
    repeat (first
      | (refine wpAny_ite_false (decide_eq_false (by rw [c0]; exact Bool.false_ne_true)) ?_; wp_walk using wpAny_loadPart' hl)
      | (refine wpAny_ite_true (decide_eq_true (by rw [c1])) ?_; wp_walk using wpAny_loadPart' hl))
    exact ⟨_, rfl, h⟩
/-- t * k, k not above 0: () -/
theorem tuple_mul0 (l : Addr) (items : Array Value) (n : Nat) (dd : Option Addr) (sl : Array (Option Value)) (x : Int) (u : Tok) (c0 : (decide (x < -(2 ^ 63)) || decide (x ≥ 2 ^ 63)) = false) (c1 : (items.isEmpty || x == 1) = false) (c2 : (decide (x ≤ 0) || items.isEmpty) = true) :
    Meets (Builtin.«tuple.__mul__» ⟨[.ref l, .int x u], []⟩) (fun _ R s => s.heap.get? l = some { cls := .type "tuple", dict := dd, data := .seq items n, slots := sl } ∧
      R (.ok (.ret (Value.ref s.heap.objs.size))) { s with heap := s.heap.push { cls := Value.type "tuple", data := Data.seq #[] }, toks := s.toks }) :=
  .of_wp fun prog w A R s h => by
    obtain ⟨hp, g, d, tk, os⟩ := s
    obtain ⟨hl, h⟩ := h
    have f1 := AutoSeq1.idx_int
    wp_walk using wpAny_loadPart' hl
    repeat (first
      | (refine wpAny_ite_false (decide_eq_false (by rw [c0]; exact Bool.false_ne_true)) ?_; wp_walk using wpAny_loadPart' hl)
      | (refine wpAny_ite_false (decide_eq_false (by rw [c1]; exact Bool.false_ne_true)) ?_; wp_walk using wpAny_loadPart' hl)
      | (refine wpAny_ite_true (decide_eq_true (by rw [c2])) ?_; wp_walk using wpAny_loadPart' hl))
    exact ⟨_, rfl, h⟩
/-- tuple * int, the count from 0 on -/
def rRepA (K : PySem.W.Frag) : R2 := fun x y H Q => ∃ l k xs, x = .ref l ∧ y = .int k ∧ SqT K H l xs ∧ 0 ≤ k ∧ k ≤ 1000 ∧ xs.length ≤ 1000 ∧
  (xs = [] ∨ k = 1 → Q (.ref l) H) ∧ (xs ≠ [] → k ≠ 1 → ∀ p, H p = none → Q (.ref p) (upd H p (.tup (List.replicate k.toNat xs).flatten)))
theorem op_repA : OpR X (binaryOp .Mult) (rRepA X.K) := by
  intro pins s σ H x y v u Q I rx ry h
  obtain ⟨l, k, xs, rfl, rfl, hT, h0, h1, hz, q1, q2⟩ := h
  have c0 : (decide (k < -(2 ^ 63)) || decide (k ≥ 2 ^ 63)) = false := by
    rw [decide_eq_false (by omega), decide_eq_false (by omega)] <;> rfl
  by_cases hs : xs = [] ∨ k = 1
  · cases rx
    obtain ⟨t, rfl⟩ := ry
    obtain ⟨its, r, ⟨⟨cls, dd, data, sl⟩, ho, hc, n, hd⟩, _⟩ := I.tuple hT
    simp only at hc hd
    subst hc hd
    have c1 : (its.toArray.isEmpty || k == 1) = true := by
      rcases hs with e | e
      · subst e
        have := r.length
        cases its with
        | nil => rfl
        | cons a b => simp at this
      · subst e
        simp
    refine wpAny_binaryOp_repeat_ref (T := "tuple") (U := "int") (by decide) ⟨_, ho, rfl⟩ (fun s' => typeIs_int s' k t) noFill_tuple_mul F.fills_int_mul F.slot_int_rmul repeat_tuple F.slot_int_index.lookup
      (call_meets F.slot_int_rmul (typeIs_int s k t) F.entry_int_rmul (F.args_int_rmul_2 _ _) (int_rmul_tuple k t l its.toArray n dd sl)
        ⟨ho, rfl, ⟨_, ho, rfl⟩, call_meets F.slot_tuple_mul ⟨_, ho, rfl⟩ F.entry_tuple_mul (F.args_tuple_mul_2 _ _) (tuple_mul1 l its.toArray n dd sl k t c0 c1) ⟨ho, ?_⟩⟩)
    exact ⟨.ref l, H, I, rfl, q1 hs⟩
  · have hne : xs ≠ [] := fun e => hs (.inl e)
    have hk1 : k ≠ 1 := fun e => hs (.inr e)
    by_cases hk : k = 0
    · subst hk
      cases rx
      obtain ⟨t, rfl⟩ := ry
      obtain ⟨its, r, ⟨⟨cls, dd, data, sl⟩, ho, hc, n, hd⟩, _⟩ := I.tuple hT
      simp only at hc hd
      subst hc hd
      have hi : its.toArray.isEmpty = false := by
        have := r.length
        cases its with
        | nil => exact absurd (List.eq_nil_of_length_eq_zero (by simpa using this)) hne
        | cons a b => rfl
      have c1 : (its.toArray.isEmpty || (0 : Int) == 1) = false := by rw [hi]; rfl
      have c2 : (decide ((0 : Int) ≤ 0) || its.toArray.isEmpty) = true := by simp
      refine wpAny_binaryOp_repeat_ref (T := "tuple") (U := "int") (by decide) ⟨_, ho, rfl⟩ (fun s' => typeIs_int s' 0 t) noFill_tuple_mul F.fills_int_mul F.slot_int_rmul repeat_tuple F.slot_int_index.lookup
        (call_meets F.slot_int_rmul (typeIs_int s 0 t) F.entry_int_rmul (F.args_int_rmul_2 _ _) (int_rmul_tuple 0 t l its.toArray n dd sl)
          ⟨ho, rfl, ⟨_, ho, rfl⟩, call_meets F.slot_tuple_mul ⟨_, ho, rfl⟩ F.entry_tuple_mul (F.args_tuple_mul_2 _ _) (tuple_mul0 l its.toArray n dd sl 0 t c0 c1 c2) ⟨ho, ?_⟩⟩)
      refine ⟨.ref s.heap.objs.size, _, I.laid (t' := s.toks) (o := .tup []) (fun b ob q => Heap.get?_push_of_some _ q) (Nat.le_refl _) ?_, rfl, q2 hne hk1 _ (I.hok.fresh (Nat.le_refl _))⟩
      exact ⟨Nat.zero_le _, [], .nil, IsTup.new _ _⟩
    · exact op_repT pins s σ H _ _ v u Q I rx ry ⟨l, k, xs, rfl, rfl, hT, hne, by omega, h1, hz, q2 hne hk1⟩

theorem flat_nil {α : Type} (n : Nat) : (List.replicate n ([] : List α)).flatten = [] := by
  induction n with
  | zero => rfl
  | succ n ih => rw [List.replicate_succ, List.flatten_cons, ih]; rfl
theorem flat_one {α : Type} (xs : List α) : (List.replicate 1 xs).flatten = xs := by
  simp [List.replicate]

theorem op_addX : OpR X (binaryOp .Add) (rBin X.K .Add) := by
  refine OpR.imp (OpR.or (OpR.or op_add op_add_str) (OpR.or op_catA op_cat)) fun x y H Q h => ?_
  obtain ⟨g, A, dx, dy, d, r, hx, hy, e0, q⟩ := h
  have e : addD A dx dy = some d := e0
  clear e0
  unfold addD at e
  split at e
  · cases e
    cases hx; cases hy
    rw [forceI_eq] at q
    exact .inl (.inl ⟨_, _, rfl, rfl, Out.same q r (.int _)⟩)
  · split at e
    · rename_i hz
      cases e
      cases hx; cases hy
      exact .inl (.inr ⟨_, _, rfl, rfl, hz, Out.same q r (.str _)⟩)
    · cases e
  · split at e
    · rename_i xs ys hz
      cases e
      obtain ⟨a, vs, rfl, s1, l1⟩ := hx.tup'
      obtain ⟨b, us, rfl, s2, l2⟩ := hy.tup'
      have q : Out X.K g A H (.tup (xs ++ ys)) Q := q
      refine .inr (.inl ⟨a, b, vs, us, rfl, rfl, s1, s2, by rw [← l1.length, ← l2.length]; exact hz, fun z => ?_, fun _ z => ?_, fun _ _ p hp => ?_⟩)
      · subst z
        cases l1
        exact Out.same q r hy
      · subst z
        cases l2
        rw [List.append_nil] at q
        exact Out.same q r hx
      · exact q.tup r (l1.append l2) hp
    · cases e
  · split at e
    · rename_i xs ys h1 h2
      split at e
      · rename_i hz
        cases e
        obtain ⟨a, vs, rfl, s1, l1⟩ := lst_at r hx h1
        obtain ⟨b, us, rfl, s2, l2⟩ := lst_at r hy h2
        have q : NewL X.K g A H (xs ++ ys) Q := q
        exact .inr (.inr ⟨a, b, vs, us, rfl, rfl, s1, s2, by rw [← l1.length, ← l2.length]; exact hz, fun p hp => q.lst r (l1.append l2) hp⟩)
      · cases e
    · cases e
theorem wideOk_mul {i j : Int} (h : wideOk i j = true) : CMulW i j := by
  unfold wideOk at h
  have := Nat.le_of_ble_eq_true h
  show _ < _
  omega
theorem op_mulX' : OpR X (binaryOp .Mult) (rBin X.K .Mult) := by
  refine OpR.imp (OpR.or op_mulW (OpR.or op_repA op_rep)) fun x y H Q h => ?_
  obtain ⟨g, A, dx, dy, d, r, hx, hy, e0, q⟩ := h
  have e : mulD A dx dy = some d := e0
  clear e0
  unfold mulD at e
  split at e
  · split at e
    · rename_i hw
      cases e
      cases hx; cases hy
      rw [forceI_eq] at q
      exact .inl ⟨_, _, rfl, rfl, wideOk_mul hw, Out.same q r (.int _)⟩
    · cases e
  · split at e
    · rename_i xs k hz
      cases e
      obtain ⟨a, vs, rfl, s1, l1⟩ := hx.tup'
      cases hy
      have q : Out X.K g A H (.tup (List.replicate k.toNat xs).flatten) Q := q
      refine .inr (.inl ⟨a, k, vs, rfl, rfl, s1, hz.1, hz.2.1, by rw [← l1.length]; exact hz.2.2, fun z => ?_, fun _ _ p hp => ?_⟩)
      · rcases z with z | z
        · subst z
          cases l1
          rw [flat_nil] at q
          exact Out.same q r hx
        · subst z
          rw [show (1 : Int).toNat = 1 from rfl, flat_one] at q
          exact Out.same q r hx
      · exact q.tup r (l1.flat _) hp
    · cases e
  · rename_i k _ _
    split at e
    · rename_i xs h1
      split at e
      · rename_i hz
        cases e
        obtain ⟨a, vs, rfl, s1, l1⟩ := lst_at r hx h1
        cases hy
        have q : NewL X.K g A H (List.replicate k.toNat xs).flatten Q := q
        refine .inr (.inr ⟨a, k, vs, rfl, rfl, s1, by omega, by omega, ?_, fun p hp => q.lst r (l1.flat _) hp⟩)
        have h3 : vs.length ≤ 1000 := by rw [← l1.length]; exact hz.2.2
        have h4 : vs.length * k.toNat ≤ 1000 * 1000 := Nat.mul_le_mul h3 (by omega)
        exact Nat.le_trans h4 (by decide)
      · cases e
    · cases e
  · cases e
theorem op_bin (op : Operator) : OpR X (binaryOp op) (rBin X.K op) := by
  have none : (∀ A x y, binD A op x y = none) → OpR X (binaryOp op) (rBin X.K op) := fun hn pins s σ H x y v u Q I rx ry h => by
    obtain ⟨g, A, dx, dy, d, r, hx, hy, e, q⟩ := h
    rw [hn] at e; cases e
  cases op with
  | Add => exact op_addX
  | Mult => exact op_mulX'
  | Sub =>
    refine OpR.imp op_sub fun x y H Q h => ?_
    obtain ⟨g, A, dx, dy, d, r, hx, hy, e, q⟩ := h
    unfold binD at e
    simp only at e
    split at e
    · cases e
      cases hx; cases hy
      rw [forceI_eq] at q
      exact ⟨_, _, rfl, rfl, Out.same q r (.int _)⟩
    · cases e
  | FloorDiv =>
    refine OpR.imp op_fdivW fun x y H Q h => ?_
    obtain ⟨g, A, dx, dy, d, r, hx, hy, e, q⟩ := h
    unfold binD at e
    simp only at e
    split at e
    · split at e
      · rename_i hz
        cases e
        cases hx; cases hy
        rw [forceI_eq] at q
        exact ⟨_, _, rfl, rfl, hz, Out.same q r (.int _)⟩
      · cases e
    · cases e
  | Mod =>
    refine OpR.imp op_mod fun x y H Q h => ?_
    obtain ⟨g, A, dx, dy, d, r, hx, hy, e, q⟩ := h
    unfold binD at e
    simp only at e
    split at e
    · split at e
      · rename_i hz
        cases e
        cases hx; cases hy
        rw [forceI_eq] at q
        exact ⟨_, _, rfl, rfl, hz, Out.same q r (.int _)⟩
      · cases e
    · cases e
  | Pow =>
    refine OpR.imp op_pow fun x y H Q h => ?_
    obtain ⟨g, A, dx, dy, d, r, hx, hy, e, q⟩ := h
    unfold binD at e
    simp only at e
    split at e
    · split at e
      · rename_i hz
        cases e
        cases hx; cases hy
        rw [forceI_eq] at q
        exact ⟨_, _, rfl, rfl, ⟨hz.1, by omega, hz.2.2⟩, Out.same q r (.int _)⟩
      · cases e
    · cases e
  | _ => exact none fun _ _ _ => rfl
end

/-! ### comparisons -/
def rCmp (K : PySem.W.Frag) (op : CmpOp) : R2 := fun x y H Q => ∃ g A dx dy b, RelA K g A H ∧ RepD K g H dx x ∧ RepD K g H dy y ∧ cmpD A op dx dy = some b ∧ Q (.bl b) H
mutual
theorem sameP_eq : ∀ {p q : PyData}, sameP p q = true → p = q
  | .none, .none, _ => rfl
  | .bool a, .bool b, h => by simp only [sameP, beq_iff_eq] at h; rw [h]
  | .int a, .int b, h => by simp only [sameP, decide_eq_true_eq] at h; rw [h]
  | .str a, .str b, h => by simp only [sameP, decide_eq_true_eq] at h; rw [h]
  | .list a, .list b, h => by simp only [sameP] at h; rw [samePs_eq h]
  | .tuple a, .tuple b, h => by simp only [sameP] at h; rw [samePs_eq h]
theorem samePs_eq : ∀ {p q : List PyData}, samePs p q = true → p = q
  | [], [], _ => rfl
  | a :: as, b :: bs, h => by
    simp only [samePs, Bool.and_eq_true] at h
    rw [sameP_eq h.1, samePs_eq h.2]
end
section
variable {X : Cx} {k : Nat}
theorem eqD_cases {K : PySem.W.Frag} {g : Gh} {A : Sto} {H : Hp} {dx dy : D} {x y : V} {b : Bool} (r : RelA K g A H) (hx : RepD K g H dx x) (hy : RepD K g H dy y) (e : eqD A dx dy = some b) :
    (∃ s t, x = .str s ∧ y = .str t ∧ b = decide (s = t)) ∨ ∃ p q, Dp K H x p ∧ Dp K H y q ∧ SeqAt.shaped p = true ∧ SeqAt.shaped q = true ∧ b = PyData.eqv p q := by
  unfold eqD at e
  split at e
  · rename_i p q
    cases hx; cases hy
    refine .inl ⟨_, _, rfl, rfl, ?_⟩
    split at e
    · rename_i hs
      cases e
      rw [sameP_eq hs]
      simp
    · cases e; rfl
  · cases hx; cases hy
    cases e
    exact .inl ⟨_, _, rfl, rfl, rfl⟩
  · cases hx; cases hy
    cases e
    exact .inl ⟨_, _, rfl, rfl, rfl⟩
  · split at e
    · rename_i p q hp hq
      cases e
      exact .inr ⟨p, q, toPy_dp r _ _ _ _ hx hp, toPy_dp r _ _ _ _ hy hq, toPy_shaped hp, toPy_shaped hq, rfl⟩
    · cases e
theorem op_eqX (c : Ctx X k) : OpR X (compareOp .Eq) (rCmp X.K .Eq) := by
  refine OpR.imp (OpR.or op_eq (op_eqD c.hr.units)) fun x y H Q h => ?_
  obtain ⟨g, A, dx, dy, b, r, hx, hy, e, q⟩ := h
  rcases eqD_cases r hx hy e with ⟨s, t, rfl, rfl, rfl⟩ | ⟨p, p', h1, h2, h3, h4, rfl⟩
  · refine .inl ⟨rfl, ?_⟩
    have z : decide ((V.str s) = V.str t) = decide (s = t) := by
      by_cases h : s = t
      · subst h; simp
      · rw [decide_eq_false h, decide_eq_false (fun q => h (V.str.inj q))]
    rw [z]
    exact q
  · exact .inr ⟨p, p', h1, h2, h3, h4, q⟩
theorem op_neX (c : Ctx X k) : OpR X (compareOp .NotEq) (rCmp X.K .NotEq) := by
  refine OpR.imp (OpR.or op_ne (op_neD c.hr.units)) fun x y H Q h => ?_
  obtain ⟨g, A, dx, dy, b, r, hx, hy, e, q⟩ := h
  unfold cmpD at e
  simp only at e
  split at e
  · rename_i b' he
    cases e
    rcases eqD_cases r hx hy he with ⟨s, t, rfl, rfl, rfl⟩ | ⟨p, p', h1, h2, h3, h4, rfl⟩
    · refine .inl ⟨rfl, ?_⟩
      have z : decide ((V.str s) = V.str t) = decide (s = t) := by
        by_cases h : s = t
        · subst h; simp
        · rw [decide_eq_false h, decide_eq_false (fun q => h (V.str.inj q))]
      rw [z]
      exact q
    · exact .inr ⟨p, p', h1, h2, h3, h4, q⟩
  · cases e
theorem inD_cases {K : PySem.W.Frag} {g : Gh} {A : Sto} {H : Hp} {dx dy : D} {x y : V} {b : Bool} (r : RelA K g A H) (hx : RepD K g H dx x) (hy : RepD K g H dy y) (e : inD A dx dy = some b) :
    ∃ p qs, Dp K H x p ∧ (Dp K H y (.list qs) ∨ Dp K H y (.tuple qs)) ∧ SeqAt.shaped p = true ∧ PyData.canLayAll0 qs = true ∧ b = qs.any fun q => PyData.eqv q p := by
  unfold inD at e
  split at e
  · rename_i p qs hp hq
    cases e
    exact ⟨p, qs, toPy_dp r _ _ _ _ hx hp, .inl (toPy_dp r _ _ _ _ hy hq), toPy_shaped hp, (toPy_shape _ _ _ hq).1, rfl⟩
  · rename_i p qs hp hq
    cases e
    exact ⟨p, qs, toPy_dp r _ _ _ _ hx hp, .inr (toPy_dp r _ _ _ _ hy hq), toPy_shaped hp, (toPy_shape _ _ _ hq).1, rfl⟩
  · cases e
theorem room_in {p : PyData} {qs : List PyData} {u : Nat} (h : SeqAt.shaped p = true) (hu : u + 200 < cLine) : u + 1 + min (PyData.depthAll qs) p.depth < cLine := by
  unfold SeqAt.shaped at h
  have := of_decide_eq_true (Bool.and_eq_true_iff.mp h).2
  omega
theorem op_inX (c : Ctx X k) : OpR X (compareOp .In) (rCmp X.K .In) := by
  intro pins s σ H x y v u Q I rx ry h
  obtain ⟨g, A, dx, dy, b, r, hx, hy, e, q⟩ := h
  obtain ⟨p, qs, h1, h2, h3, h4, rfl⟩ := inD_cases r hx hy e
  obtain ⟨as, r1⟩ := Dp.reads I p x v h1 rx
  have hu : X.A.units + 200 < cLine := by have := c.hr.un; omega
  rcases h2 with h2 | h2
  · obtain ⟨bs, r2⟩ := Dp.reads I _ y u h2 ry
    exact SeqAt.in_list_reads r2 r1 h4 (SeqAt.canLay_of_shaped h3) (room_in h3 hu) ⟨.bl _, H, I, rfl, q⟩
  · obtain ⟨bs, r2⟩ := Dp.reads I _ y u h2 ry
    exact SeqAt.in_tuple_reads r2 r1 h4 (SeqAt.canLay_of_shaped h3) (room_in h3 hu) ⟨.bl _, H, I, rfl, q⟩
theorem op_notInX (c : Ctx X k) : OpR X (compareOp .NotIn) (rCmp X.K .NotIn) := by
  intro pins s σ H x y v u Q I rx ry h
  obtain ⟨g, A, dx, dy, b, r, hx, hy, e, q⟩ := h
  unfold cmpD at e
  simp only at e
  split at e
  · rename_i b' he
    cases e
    obtain ⟨p, qs, h1, h2, h3, h4, rfl⟩ := inD_cases r hx hy he
    obtain ⟨as, r1⟩ := Dp.reads I p x v h1 rx
    have hu : X.A.units + 200 < cLine := by have := c.hr.un; omega
    rcases h2 with h2 | h2
    · obtain ⟨bs, r2⟩ := Dp.reads I _ y u h2 ry
      exact SeqAt.notIn_list_reads r2 r1 h4 (SeqAt.canLay_of_shaped h3) (room_in h3 hu) ⟨.bl _, H, I, rfl, q⟩
    · obtain ⟨bs, r2⟩ := Dp.reads I _ y u h2 ry
      exact SeqAt.notIn_tuple_reads r2 r1 h4 (SeqAt.canLay_of_shaped h3) (room_in h3 hu) ⟨.bl _, H, I, rfl, q⟩
  · cases e
end
end Pv

/-! Pv6: more operations. -/
namespace Pv
open PySem L2 PyProof.Rows
section
variable {K : PySem.W.Frag} {g : Gh} {A : Sto} {H : Hp}
theorem ints_at : ∀ {ds : List D} {vs : List V} {ns : List Int}, RepL K g H ds vs → intsOf ds = some ns → vs = ns.map V.int
  | [], _, _, .nil, e => by cases e; rfl
  | d :: ds, _, ns, .cons r t, e => by
    unfold intsOf at e
    split at e
    · rename_i q; cases q
    · rename_i q; cases q
      split at e
      · rename_i s hs
        cases e
        cases r
        rw [ints_at t hs]
        rfl
      · cases e
    · cases e
theorem bools_at : ∀ {ds : List D} {vs : List V} {ns : List Bool}, RepL K g H ds vs → boolsOf ds = some ns → vs = ns.map V.bl
  | [], _, _, .nil, e => by cases e; rfl
  | d :: ds, _, ns, .cons r t, e => by
    unfold boolsOf at e
    split at e
    · rename_i q; cases q
    · rename_i q; cases q
      split at e
      · rename_i s hs
        cases e
        cases r
        rw [bools_at t hs]
        rfl
      · cases e
    · cases e
end
section
variable {X : Cx} {k : Nat}
theorem isN {K : PySem.W.Frag} {g : Gh} {H : Hp} {d : D} {v : V} (h : RepD K g H d v) : decide (v = .non) = d.isN := by
  cases h <;> rfl
theorem op_cmp (c : Ctx X k) (op : CmpOp) : OpR X (compareOp op) (rCmp X.K op) := by
  cases op with
  | Eq => exact op_eqX c
  | NotEq => exact op_neX c
  | In => exact op_inX c
  | NotIn => exact op_notInX c
  | Lt =>
    refine OpR.imp (OpR.or op_lt (op_ltT c.hr.units0)) fun x y H Q h => ?_
    obtain ⟨g, A, dx, dy, b, r, hx, hy, e, q⟩ := h
    unfold cmpD ltD at e
    simp only at e
    split at e
    · cases e
      cases hx; cases hy
      exact .inl ⟨_, _, rfl, rfl, q⟩
    · split at e
      · rename_i ns ms h1 h2
        cases e
        obtain ⟨a, vs, rfl, s1, l1⟩ := hx.tup'
        obtain ⟨b, us, rfl, s2, l2⟩ := hy.tup'
        rw [ints_at l1 h1] at s1
        rw [ints_at l2 h2] at s2
        exact .inr ⟨a, b, ns, ms, rfl, rfl, s1, s2, q⟩
      · cases e
    · cases e
  | LtE =>
    refine OpR.imp op_le fun x y H Q h => ?_
    obtain ⟨g, A, dx, dy, b, r, hx, hy, e, q⟩ := h
    unfold cmpD at e
    simp only at e
    split at e
    · cases e
      cases hx; cases hy
      exact ⟨_, _, rfl, rfl, q⟩
    · cases e
  | Gt =>
    refine OpR.imp op_gt fun x y H Q h => ?_
    obtain ⟨g, A, dx, dy, b, r, hx, hy, e, q⟩ := h
    unfold cmpD at e
    simp only at e
    split at e
    · cases e
      cases hx; cases hy
      exact ⟨_, _, rfl, rfl, q⟩
    · cases e
  | GtE =>
    refine OpR.imp op_ge fun x y H Q h => ?_
    obtain ⟨g, A, dx, dy, b, r, hx, hy, e, q⟩ := h
    unfold cmpD at e
    simp only at e
    split at e
    · cases e
      cases hx; cases hy
      exact ⟨_, _, rfl, rfl, q⟩
    · cases e
  | Is =>
    refine OpR.imp op_isN fun x y H Q h => ?_
    obtain ⟨g, A, dx, dy, b, r, hx, hy, e, q⟩ := h
    unfold cmpD at e
    simp only at e
    split at e
    · cases e
      cases hy
      refine ⟨rfl, ?_⟩
      rw [isN hx]
      exact q
    · cases e
  | IsNot =>
    refine OpR.imp op_notN fun x y H Q h => ?_
    obtain ⟨g, A, dx, dy, b, r, hx, hy, e, q⟩ := h
    unfold cmpD at e
    simp only at e
    split at e
    · cases e
      cases hy
      refine ⟨rfl, ?_⟩
      rw [isN hx]
      exact q
    · cases e

/-! ### truth -/
theorem truth_at {K : PySem.W.Frag} {g : Gh} {A : Sto} {H : Hp} {d : D} {v : V} {b : Bool} (r : RelA K g A H) (h : RepD K g H d v) (e : truth A d = some b) : TruV K v H b := by
  unfold truth at e
  split at e
  · cases e; cases h; rfl
  · cases e; cases h; rfl
  · rename_i i
    cases e; cases h
    show _ = (i != 0)
    by_cases z : i = 0
    · subst z; rfl
    · simp [z]
  · rename_i xs
    cases e
    obtain ⟨a, vs, rfl, s, l⟩ := h.tup'
    refine .inr (.inl ⟨vs, s, ?_⟩)
    have := l.length
    cases xs <;> cases vs <;> simp_all
  · rename_i xs
    cases e
    cases h with
    | lst f s l =>
      refine .inl ⟨_, SqL.of s, ?_⟩
      have := l.length
      rename_i vs
      cases xs <;> cases vs <;> simp_all
  · split at e
    · rename_i xs hx
      cases e
      cases h with
      | loc hl =>
        obtain ⟨a, e1, vs, e2, l⟩ := r.cel _ _ hx
        rw [hl] at e1
        cases e1
        refine .inl ⟨_, SqL.of e2, ?_⟩
        have := l.length
        cases xs <;> cases vs <;> simp_all
    · cases e
  · cases e

/-! ### subscripts, slices -/
def rIdx (K : PySem.W.Frag) : R2 := fun x y H Q => ∃ g A dx dy d, RelA K g A H ∧ RepD K g H dx x ∧ RepD K g H dy y ∧ idxD A dx dy = some d ∧ Out K g A H d Q
theorem at_rep {K : PySem.W.Frag} {g : Gh} {H : Hp} {ds : List D} {vs : List V} {i : Int} {d : D} (l : RepL K g H ds vs) (e : atI ds i = some d) : ∃ v, atI vs i = some v ∧ RepD K g H d v := by
  unfold atI at e ⊢
  rw [← l.length]
  cases h : ixN ds.length i with
  | none => rw [h] at e; cases e
  | some j =>
    rw [h] at e
    exact l.get e
theorem ix_all : IxR X (rIdx X.K) := by
  refine IxR.imp (IxR.or ix_list ix_tup) fun x y H Q h => ?_
  obtain ⟨g, A, dx, dy, d, r, hx, hy, e, q⟩ := h
  unfold idxD at e
  split at e
  · split at e
    · split at e
      · rename_i ys hs
        obtain ⟨a, vs, rfl, s, l⟩ := seq_at r hx hs
        cases hy
        obtain ⟨v, ev, rv⟩ := at_rep l e
        rcases s with s | s
        · exact .inl ⟨a, vs, _, v, rfl, rfl, SqL.of s, ev, q.same r rv⟩
        · exact .inr ⟨a, vs, _, v, rfl, rfl, s, ev, q.same r rv⟩
      · cases e
    · cases e
  · cases e
theorem cut_rep {K : PySem.W.Frag} {g : Gh} {H : Hp} {ds : List D} {vs : List V} {lo hi : Option Int} (l : RepL K g H ds vs) : RepL K g H (cutD ds lo hi) (cutV vs lo hi) := by
  unfold cutD cutV
  rw [l.length]
  exact (l.drop _).take _
def rSlc (K : PySem.W.Frag) : V → Option Int → Option Int → Hp → VK → Prop := fun x lo hi H Q => ∃ g A dx d, RelA K g A H ∧ RepD K g H dx x ∧ slcD A dx lo hi = some d ∧ FOut K g A H d Q
theorem sl_all : SlR X (rSlc X.K) := by
  intro pins s σ H x v vl vu lo hi sl Q I rx hs pl pu h
  obtain ⟨g, A, dx, d, r, hx, e, q⟩ := h
  unfold slcD at e
  split at e
  · rename_i xs
    cases e
    obtain ⟨a, vs, rfl, s1, l⟩ := hx.tup'
    have q : Out X.K g A H (.tup (cutD xs lo hi)) Q := q
    refine sl_tupA pins s σ H _ v vl vu lo hi sl Q I rx hs pl pu ⟨a, vs, rfl, s1, fun z => ?_, fun _ p hp => q.tup r (cut_rep l) hp⟩
    have e : cutD xs lo hi = xs := by
      unfold cutD
      rw [l.length, z.1, z.2, Nat.sub_zero, List.drop_zero, ← l.length, List.take_length]
    rw [e] at q
    exact q.same r hx
  · rename_i xs
    cases e
    cases hx with
    | scr f s1 l =>
      have q : NewL X.K g A H (cutD xs lo hi) Q := q
      exact sl_list pins s σ H _ v vl vu lo hi sl Q I rx hs pl pu ⟨_, _, rfl, .inl (.inr ⟨_, s1⟩), fun p hp => q.lst r (cut_rep l) hp⟩
    | kscr s1 l =>
      have q : NewL X.K g A H (cutD xs lo hi) Q := q
      exact sl_list pins s σ H _ v vl vu lo hi sl Q I rx hs pl pu ⟨_, _, rfl, .inr s1, fun p hp => q.lst r (cut_rep l) hp⟩
  · split at e
    · rename_i xs hx'
      cases e
      obtain ⟨a, vs, rfl, s1, l⟩ := lst_at r hx hx'
      have q : NewL X.K g A H (cutD xs lo hi) Q := q
      exact sl_list pins s σ H _ v vl vu lo hi sl Q I rx hs pl pu ⟨_, _, rfl, SqL.of s1, fun p hp => q.lst r (cut_rep l) hp⟩
    · cases e
end
end Pv

/-! Pv7: calls of built-ins. -/
namespace Pv
open PySem L2 PyProof.Rows

mutual
theorem reprW_le : ∀ d : PyData, d.canLay0 = true → d.shown.length ≤ reprW d
  | .none, _ => by
    have e : (PyData.shown .none).length = 4 := rfl
    simp only [reprW]; omega
  | .bool b, _ => by
    have e : (PyData.shown (.bool b)).length ≤ 5 := by cases b <;> decide
    simp only [reprW]; omega
  | .int i, _ => by
    have e := int_text_length_le (a := i) (k := i.natAbs.log2 + 1) (by omega) (by omega)
    rw [PyData.shown_int]
    show (Str.ofString (toString i)).length ≤ _
    rw [PySem.ofString_length]
    simp only [reprW]; omega
  | .str x, h => by
    have hx : ∀ c ∈ x.cps.toList, c < 16 ^ 8 := fun c hc => by
      have h : PyData.strOk x = true := h
      unfold PyData.strOk at h
      rw [← Array.all_toList] at h
      have := List.all_eq_true.mp h c hc
      have := of_decide_eq_true this
      omega
    have e := StrLaws.reprText_len x hx
    have e2 : x.length = x.cps.size := rfl
    rw [PyData.shown_str]
    simp only [reprW]; omega
  | .list xs, h => by
    have h1 := reprWs_le xs h
    have h2 := listText_len_le (PyData.shownAll xs)
    have h3 := PyData.shownAll_length xs
    simp only [PyData.shown, reprW]
    omega
  | .tuple xs, h => by
    have h1 := reprWs_le xs h
    have h2 := tupleText_len_le (PyData.shownAll xs)
    have h3 := PyData.shownAll_length xs
    simp only [PyData.shown, reprW]
    omega
theorem reprWs_le : ∀ xs : List PyData, PyData.canLayAll0 xs = true → ((PyData.shownAll xs).map (·.length)).sum + 2 * xs.length ≤ reprWs xs
  | [], _ => by simp [PyData.shownAll, reprWs]
  | x :: xs, h => by
    simp only [PyData.canLayAll0, Bool.and_eq_true] at h
    have h1 := reprW_le x h.1
    have h2 := reprWs_le xs h.2
    simp only [PyData.shownAll, reprWs, List.map_cons, List.sum_cons, List.length_cons]
    omega
end

/-- the built-in's value -/
def Bi.val : Bi → Value
  | .len => .builtin "len" | .sum => .builtin "sum" | .all => .builtin "all" | .any => .builtin "any" | .tuple => .type "tuple" | .list => .type "list"
  | .abs => .builtin "abs" | .int => .type "int" | .repr => .builtin "repr" | .isinstance => .builtin "isinstance" | .str => .type "str"
  | .min => .builtin "min" | .max => .builtin "max" | .sorted => .builtin "sorted"
def rBi (K : PySem.W.Frag) (f : Bi) : List V → Hp → VK → Prop := fun xs H Q => ∃ g A ds d, RelA K g A H ∧ RepL K g H ds xs ∧ biD f A ds = some d ∧ FOut K g A H d Q

section
variable {X : Cx} {k : Nat}
theorem RepL.one {K : PySem.W.Frag} {g : Gh} {H : Hp} {d : D} {xs : List V} (h : RepL K g H [d] xs) : ∃ v, xs = [v] ∧ RepD K g H d v := by
  cases h with
  | cons r t => cases t; exact ⟨_, rfl, r⟩
theorem RepL.two {K : PySem.W.Frag} {g : Gh} {H : Hp} {d e : D} {xs : List V} (h : RepL K g H [d, e] xs) : ∃ v u, xs = [v, u] ∧ RepD K g H d v ∧ RepD K g H e u := by
  cases h with
  | cons r t => obtain ⟨u, rfl, r2⟩ := t.one; exact ⟨_, _, rfl, r, r2⟩
theorem bi_len : CallR X (.builtin "len") (rBi X.K .len) := by
  refine CallR.imp call_len_seq fun xs H Q h => ?_
  obtain ⟨g, A, ds, d, r, hl, e, q⟩ := h
  replace e : biLen A ds = some d := e
  unfold biLen at e
  split at e
  · obtain ⟨v, rfl, rv⟩ := hl.one
    split at e
    · rename_i ys hy
      cases e
      obtain ⟨a, vs, rfl, s, l⟩ := seq_at r rv hy
      refine ⟨a, vs, rfl, ?_, ?_⟩
      · rcases s with s | s
        · exact .inl (SqL.of s)
        · exact .inr s
      · rw [← l.length]
        exact Out.same q r (.int _)
    · cases e
  · cases e
/-- sum of a tuple of ints -/
def rSumT (K : PySem.W.Frag) : List V → Hp → VK → Prop := fun vs H Q => ∃ (a : Addr) (ns : List Int), vs = [V.ref a] ∧ SqT K H a (ns.map V.int) ∧ Q (.int ns.sum) H
theorem cr_sumT (hc : X.calm = true) : CallR X (.builtin "sum") (rSumT X.K) := by
  intro pins s σ H vs us Q I r h
  obtain ⟨a, ns, rfl, hs, q⟩ := h
  obtain ⟨its, rv, ht, _⟩ := I.tuple hs
  rw [Vals.ref1 r]
  have hi : IntsAre its ns := rv.ints
  obtain ⟨xs, e⟩ := hi.allInts.items
  have hn : numsOf (intItems xs).toList = ns := by rw [← e]; exact hi.numsOf
  rw [nums_intItems] at hn
  rw [e] at ht
  refine PySem.W.ktm_sumG (I.ok.hd hc) ht fun h' tk t' hk => ?_
  have z : (⟨.int ns.sum, H, I.kept hk, ⟨t', rfl⟩, q⟩ : EP X pins σ Q (.int ns.sum t') { s with heap := h', toks := tk }) = ⟨.int ns.sum, H, I.kept hk, ⟨t', rfl⟩, q⟩ := rfl
  rw [preSum_eq, List.take_of_length_le (by simp), hn]
  exact ⟨.int ns.sum, H, I.kept hk, ⟨t', rfl⟩, q⟩
theorem bi_sum (c : Ctx X k) : CallR X (.builtin "sum") (rBi X.K .sum) := by
  refine CallR.imp (CallR.or (cr_sum c.calm) (cr_sumT c.calm)) fun xs H Q h => ?_
  obtain ⟨g, A, ds, d, r, hl, e, q⟩ := h
  replace e : biSum A ds = some d := e
  unfold biSum at e
  split at e
  · obtain ⟨v, rfl, rv⟩ := hl.one
    split at e
    · rename_i ys hy
      split at e
      · rename_i ns hn
        cases e
        rw [forceI_eq] at q
        obtain ⟨a, vs, rfl, s, l⟩ := seq_at r rv hy
        rw [ints_at l hn] at s
        rcases s with s | s
        · exact .inl ⟨a, ns, rfl, SqL.of s, Out.same q r (.int _)⟩
        · exact .inr ⟨a, ns, rfl, s, Out.same q r (.int _)⟩
      · cases e
    · cases e
  · cases e
theorem bi_all (c : Ctx X k) : CallR X (.builtin "all") (rBi X.K .all) := by
  refine CallR.imp (cr_all c.calm) fun xs H Q h => ?_
  obtain ⟨g, A, ds, d, r, hl, e, q⟩ := h
  replace e : biAll A ds = some d := e
  unfold biAll at e
  split at e
  · obtain ⟨v, rfl, rv⟩ := hl.one
    split at e
    · rename_i ys hy
      split at e
      · rename_i ns hn
        cases e
        obtain ⟨a, vs, rfl, s, l⟩ := lst_at r rv hy
        rw [bools_at l hn] at s
        exact ⟨a, ns, rfl, SqL.of s, Out.same q r (.bl _)⟩
      · cases e
    · cases e
  · cases e
theorem bi_any (c : Ctx X k) : CallR X (.builtin "any") (rBi X.K .any) := by
  refine CallR.imp (cr_any c.calm) fun xs H Q h => ?_
  obtain ⟨g, A, ds, d, r, hl, e, q⟩ := h
  replace e : biAny A ds = some d := e
  unfold biAny at e
  split at e
  · obtain ⟨v, rfl, rv⟩ := hl.one
    split at e
    · rename_i ys hy
      split at e
      · rename_i ns hn
        cases e
        obtain ⟨a, vs, rfl, s, l⟩ := lst_at r rv hy
        rw [bools_at l hn] at s
        exact ⟨a, ns, rfl, SqL.of s, Out.same q r (.bl _)⟩
      · cases e
    · cases e
  · cases e
theorem bi_tuple : CallR X (.type "tuple") (rBi X.K .tuple) := by
  refine CallR.imp call_tuple_of fun xs H Q h => ?_
  obtain ⟨g, A, ds, d, r, hl, e, q⟩ := h
  replace e : biTuple A ds = some d := e
  unfold biTuple at e
  split at e
  · rename_i x
    obtain ⟨v, rfl, rv⟩ := hl.one
    split at e
    · rename_i ys hy
      cases e
      have q : Out X.K g A H (.tup ys) Q := q
      unfold seqOf at hy
      split at hy
      · cases hy
        obtain ⟨a, vs, rfl, s, l⟩ := rv.tup'
        exact ⟨a, vs, rfl, .inr ⟨s, q.same r rv⟩⟩
      · cases hy
        obtain ⟨a, vs, rfl, s, l⟩ := lst_at r rv (xs := ys) rfl
        exact ⟨a, vs, rfl, .inl ⟨SqL.of s, fun p hp => q.tup r l hp⟩⟩
      · rename_i i
        split at hy
        · rename_i xs hx
          cases hy
          obtain ⟨a, vs, rfl, s, l⟩ := lst_at r rv (xs := ys) (by simp only [lstOf, hx])
          exact ⟨a, vs, rfl, .inl ⟨SqL.of s, fun p hp => q.tup r l hp⟩⟩
        · cases hy
      · cases hy
    · cases e
  · cases e
theorem bi_list : CallR X (.type "list") (rBi X.K .list) := by
  refine CallR.imp call_list_of fun xs H Q h => ?_
  obtain ⟨g, A, ds, d, r, hl, e, q⟩ := h
  replace e : biList A ds = some d := e
  unfold biList at e
  split at e
  · obtain ⟨v, rfl, rv⟩ := hl.one
    split at e
    · rename_i ys hy
      cases e
      obtain ⟨a, vs, rfl, s, l⟩ := seq_at r rv hy
      have q : NewL X.K g A H ys Q := q
      refine ⟨a, vs, rfl, ?_, fun p hp => q.lst r l hp⟩
      rcases s with s | s
      · exact .inl (SqL.of s)
      · exact .inr s
    · cases e
  · cases e
theorem bi_abs : CallR X (.builtin "abs") (rBi X.K .abs) := by
  refine CallR.imp call_abs fun xs H Q h => ?_
  obtain ⟨g, A, ds, d, r, hl, e, q⟩ := h
  replace e : biAbs ds = some d := e
  unfold biAbs at e
  split at e
  · obtain ⟨v, rfl, rv⟩ := hl.one
    cases e
    rw [forceI_eq] at q
    cases rv
    exact ⟨_, rfl, Out.same q r (.int _)⟩
  · cases e
theorem bi_int : CallR X (.type "int") (rBi X.K .int) := by
  refine CallR.imp call_int1 fun xs H Q h => ?_
  obtain ⟨g, A, ds, d, r, hl, e, q⟩ := h
  replace e : biInt ds = some d := e
  unfold biInt at e
  split at e
  · obtain ⟨v, rfl, rv⟩ := hl.one
    cases e
    cases rv
    exact .inl ⟨_, rfl, Out.same q r (.int _)⟩
  · cases e
theorem bi_repr (c : Ctx X k) : CallR X (.builtin "repr") (rBi X.K .repr) := by
  intro pins s σ H xs us Q I rv h
  obtain ⟨g, A, ds, d, r, hl, e, q⟩ := h
  replace e : biRepr A ds = some d := e
  unfold biRepr at e
  split at e
  · rename_i x
    obtain ⟨v, rfl, rx⟩ := hl.one
    split at e
    · rename_i p hp
      split at e
      · rename_i hz
        cases e
        have hd := toPy_dp r _ _ _ _ rx hp
        have hs := toPy_shape _ _ _ hp
        have hlen : p.shown.length ≤ sizeLine := Nat.le_trans (reprW_le p hs.1) hz.2
        have qq : Q (.str p.shown) H := Out.same (d := .rpr p) q r (.rpr p)
        obtain ⟨u, rfl, ru⟩ : ∃ u, us = [u] ∧ RelV v u := by
          cases rv with
          | cons a b => cases b; exact ⟨_, rfl, a⟩
        cases hd with
        | non =>
          cases ru
          exact call_repr_gives (T := "NoneType") (typeIs_none _) F.slot_NoneType_repr F.entry_NoneType_repr (F.args_NoneType_repr_1 _) gives_none_repr ⟨.str _, H, I.tok _, ⟨_, rfl⟩, qq⟩
        | bl b =>
          cases ru
          exact call_repr_gives (T := "bool") (PySem.typeIs_bool _ _) F.slot_bool_repr F.entry_bool_repr (F.args_bool_repr_1 _) (gives_bool_repr b) ⟨.str _, H, I.tok _, ⟨_, rfl⟩, qq⟩ rfl (by cases b <;> decide)
        | int i =>
          obtain ⟨t, rfl⟩ := ru
          exact PySem.P.repr_of_int (of_decide_eq_true hz.1) ⟨.str _, H, I.tok _, ⟨_, rfl⟩, qq⟩
        | str z =>
          obtain ⟨t, rfl⟩ := ru
          exact call_repr_gives (T := "str") (typeIs_str _ _ _) F.slot_str_repr F.entry_str_repr (F.args_str_repr_1 _) (gives_str_repr z t) ⟨.str _, H, I.tok _, ⟨_, rfl⟩, qq⟩ rfl hlen
        | lst sq al =>
          cases ru
          obtain ⟨as, rd⟩ := Dp.reads I _ _ _ (.lst sq al) (show RelV (.ref _) (.ref _) from rfl)
          exact repr_of_reads' rd hz.1 (PyData.noDict_hsm (PyData.hasDict_of_canLay _ hs.1)) c.hg (by have := hs.2; have := c.hr.un; have : depthFuel = 40 := rfl; omega) (fun _ _ e => e) (fun h' u tk hk => ⟨.str _, H, I.kept hk, ⟨_, rfl⟩, qq⟩) hlen
        | tup sq al =>
          cases ru
          obtain ⟨as, rd⟩ := Dp.reads I _ _ _ (.tup sq al) (show RelV (.ref _) (.ref _) from rfl)
          exact repr_of_reads' rd hz.1 (PyData.noDict_hsm (PyData.hasDict_of_canLay _ hs.1)) c.hg (by have := hs.2; have := c.hr.un; have : depthFuel = 40 := rfl; omega) (fun _ _ e => e) (fun h' u tk hk => ⟨.str _, H, I.kept hk, ⟨_, rfl⟩, qq⟩) hlen
      · cases e
    · cases e
  · cases e
theorem ty_at {K : PySem.W.Frag} {g : Gh} {A : Sto} {H : Hp} {d : D} {v : V} {t : BT} {b : Bool} (r : RelA K g A H) (h : RepD K g H d v) (e : isBT A d t = some b) : ∃ T, TyX K H v (.type T) ∧ kitB T t.nm = some b := by
  unfold isBT at e
  split at e
  · cases e; cases h; exact ⟨_, .base .non, by cases t <;> decide +kernel⟩
  · cases e; cases h; exact ⟨_, .base (.bl _), by cases t <;> decide +kernel⟩
  · cases e; cases h; exact ⟨_, .base (.int _), by cases t <;> decide +kernel⟩
  · cases e; cases h; exact ⟨_, .base (.str _), by cases t <;> decide +kernel⟩
  · cases e; cases h; exact ⟨_, .base (.str _), by cases t <;> decide +kernel⟩
  · cases e
    cases h with
    | tup f s l => exact ⟨_, .base (.tup s), by cases t <;> decide +kernel⟩
    | ktup s l =>
      obtain ⟨o, its, n, h1, h2, _⟩ := s
      exact ⟨_, .kTuple h1 h2, by cases t <;> decide +kernel⟩
  · cases e
    cases h with
    | lst f s l => exact ⟨_, .base (.lst s), by cases t <;> decide +kernel⟩
  · cases e
  · split at e
    · rename_i hx
      cases e
      cases h with
      | loc hl =>
        obtain ⟨a, e1, vs, e2, l⟩ := r.cel _ _ hx
        rw [hl] at e1
        cases e1
        exact ⟨_, .base (.lst e2), by cases t <;> decide +kernel⟩
    · cases e
  · cases e
theorem bi_isi : CallR X (.builtin "isinstance") (rBi X.K .isinstance) := by
  refine CallR.imp call_isi fun xs H Q h => ?_
  obtain ⟨g, A, ds, d, r, hl, e, q⟩ := h
  replace e : biIsi A ds = some d := e
  unfold biIsi at e
  split at e
  · obtain ⟨v, u, rfl, rv, ru⟩ := hl.two
    split at e
    · rename_i b hb
      cases e
      cases ru
      obtain ⟨T, h1, h2⟩ := ty_at r rv hb
      exact ⟨v, _, _, _, b, rfl, .ty _, h1, kit_ty h2, Out.same q r (.bl _)⟩
    · cases e
  · cases e
theorem bi_none {f : Bi} {v : Value} (h : ∀ A xs, biD f A xs = none) : CallR X v (rBi X.K f) := fun pins s σ H xs us Q I rv q => by
  obtain ⟨g, A, ds, d, r, hl, e, q⟩ := q
  rw [h] at e; cases e
theorem call_bi (c : Ctx X k) (f : Bi) : CallR X f.val (rBi X.K f) := by
  cases f with
  | len => exact bi_len
  | sum => exact bi_sum c
  | all => exact bi_all c
  | any => exact bi_any c
  | tuple => exact bi_tuple
  | list => exact bi_list
  | abs => exact bi_abs
  | int => exact bi_int
  | repr => exact bi_repr c
  | isinstance => exact bi_isi
  | _ => exact bi_none fun _ _ => rfl
end
end Pv

/-! Pv8: how arguments come to parameters. -/
namespace Pv
open PySem L2 PyProof.Rows

theorem forIn_fold {α β : Type} (f : α → β → Sem (ForInStep β)) (g : β → α → β) : ∀ (l : List α) (init : β) (h : ∀ pre x post, l = pre ++ x :: post → f x (pre.foldl g init) = pure (.yield (g (pre.foldl g init) x))),
    (forIn l init f : Sem β) = pure (l.foldl g init)
  | [], init, _ => by rw [List.forIn_nil]; rfl
  | x :: l, init, h => by
    have h0 : f x init = pure (.yield (g init x)) := h [] x l rfl
    rw [List.forIn_cons, h0, pure_bind]
    exact forIn_fold f g l (g init x) fun pre y post e => h (x :: pre) y post (by rw [e]; rfl)

theorem lookup_app {α : Type} (x : Str) : ∀ (l r : List (Str × α)), (l ++ r).lookup x = (l.lookup x).or (r.lookup x)
  | [], r => by simp
  | (k, v) :: l, r => by
    rw [List.cons_append, List.lookup_cons, List.lookup_cons]
    cases h : x == k with
    | true => simp
    | false => exact lookup_app x l r
theorem lookup_zip_none {α : Type} {x : Str} : ∀ {l : List Str} {r : List α}, x ∉ l → (l.zip r).lookup x = none
  | [], _, _ => rfl
  | _ :: _, [], _ => rfl
  | k :: l, v :: r, h => by
    rw [List.zip_cons_cons, List.lookup_cons]
    have : (x == k) = false := beq_eq_false_iff_ne.mpr fun e => h (by rw [e]; exact List.mem_cons_self)
    rw [this]
    exact lookup_zip_none fun z => h (List.mem_cons_of_mem _ z)
theorem lookup_zip_at {α : Type} {x : Str} : ∀ {l : List Str} {r : List α} {j : Nat} {v : α}, l.Nodup → l[j]? = some x → r[j]? = some v → (l.zip r).lookup x = some v
  | [], _, _, _, _, h, _ => by simp at h
  | _ :: _, [], _, _, _, _, h => by simp at h
  | k :: l, w :: r, 0, v, _, h1, h2 => by
    simp at h1 h2
    subst h1 h2
    rw [List.zip_cons_cons, List.lookup_cons, beq_self_eq_true]
  | k :: l, w :: r, j + 1, v, nd, h1, h2 => by
    have h1 : l[j]? = some x := by simpa using h1
    have h2 : r[j]? = some v := by simpa using h2
    have hx : x ∈ l := List.mem_of_getElem? h1
    have : (x == k) = false := beq_eq_false_iff_ne.mpr fun e => (List.nodup_cons.mp nd).1 (e ▸ hx)
    rw [List.zip_cons_cons, List.lookup_cons, this]
    exact lookup_zip_at (List.nodup_cons.mp nd).2 h1 h2
theorem lookup_zip_out {α : Type} {x : Str} : ∀ {l : List Str} {r : List α} {j : Nat}, l.Nodup → l[j]? = some x → r.length ≤ j → (l.zip r).lookup x = none
  | [], _, _, _, h, _ => by simp at h
  | _ :: _, [], _, _, _, _ => rfl
  | k :: l, w :: r, 0, _, _, h => by simp at h
  | k :: l, w :: r, j + 1, nd, h1, h2 => by
    have h1 : l[j]? = some x := by simpa using h1
    have hx : x ∈ l := List.mem_of_getElem? h1
    have : (x == k) = false := beq_eq_false_iff_ne.mpr fun e => (List.nodup_cons.mp nd).1 (e ▸ hx)
    rw [List.zip_cons_cons, List.lookup_cons, this]
    exact lookup_zip_out (List.nodup_cons.mp nd).2 h1 (by simpa using h2)
theorem filterMap_zip {α : Type} (slots : List (Str × α)) : ∀ (ps : List Str) (full : List α), ps.length = full.length → (∀ (j : Nat) (x : Str) (v : α), ps[j]? = some x → full[j]? = some v → slots.lookup x = some v) →
    ps.filterMap (fun n => (slots.lookup n).map (n, ·)) = ps.zip full
  | [], [], _, _ => rfl
  | [], _ :: _, h, _ => by simp at h
  | _ :: _, [], h, _ => by simp at h
  | x :: ps, v :: full, hl, h => by
    rw [List.filterMap_cons, h 0 x v rfl rfl]
    show (x, v) :: _ = _
    rw [filterMap_zip slots ps full (by simpa using hl) fun j y w h1 h2 => h (j + 1) y w (by simpa using h1) (by simpa using h2)]
    rfl
/-- the defaults' loop -/
def addD1 (slots : List (Str × Value)) (x : Str × Value) : List (Str × Value) := if (slots.lookup x.1).isNone then slots ++ [x] else slots
theorem addD_lookup {x : Str} : ∀ (l : List (Str × Value)) (slots : List (Str × Value)), (l.foldl addD1 slots).lookup x = (slots.lookup x).or (l.lookup x)
  | [], slots => by simp
  | (k, v) :: l, slots => by
    rw [List.foldl_cons, addD_lookup l]
    unfold addD1
    by_cases hk : (slots.lookup k).isNone = true
    · rw [if_pos hk, lookup_app]
      cases hs : slots.lookup x with
      | some w => simp
      | none =>
        rw [List.lookup_cons]
        cases hx : x == k with
        | true => simp [List.lookup, hx]
        | false => simp [List.lookup, hx]
    · rw [if_neg hk]
      cases hs : slots.lookup x with
      | some w => simp
      | none =>
        rw [List.lookup_cons]
        cases hx : x == k with
        | true =>
          have e := beq_iff_eq.mp hx
          subst e
          rw [hs] at hk
          exact absurd rfl hk
        | false => simp

/-- a def without *args, **kw, keyword-only and positional-only parameters -/
structure Plain (p : Arguments) (ps : List Str) : Prop where
  po : p.posonlyargs = []
  ar : p.args.map (·.arg) = ps
  va : p.vararg = none
  ko : p.kwonlyargs = []
  kw : p.kwarg = none

theorem kw_fold (kw : List (Str × Value)) : ∀ (a : List (Str × Value)), kw.foldl (fun (s : List (Str × Value) × List (Str × Value)) x => (s.1 ++ [(x.1, x.2)], s.2)) (a, []) = (a ++ kw, []) := by
  induction kw with
  | nil => intro a; simp
  | cons x kw ih =>
    intro a
    rw [List.foldl_cons, ih]
    simp
theorem bind_plain {fd : FuncData} {ps ks : List Str} {us ws its full : List Value} (pl : Plain fd.params ps) (nd : ps.Nodup) (nk : ks.Nodup) (hp : us.length ≤ ps.length) (hks : ∀ x ∈ ks, x ∈ ps.drop us.length) (hw : ks.length = ws.length)
    (hi : its.length ≤ ps.length) (hf : full.length = ps.length)
    (h1 : ∀ (j : Nat) (v : Value), us[j]? = some v → full[j]? = some v)
    (h2 : ∀ (j i : Nat) (x : Str) (v : Value), ps[j]? = some x → ks[i]? = some x → ws[i]? = some v → full[j]? = some v)
    (h3 : ∀ (j : Nat) (x : Str), ps[j]? = some x → us.length ≤ j → x ∉ ks → ps.length - its.length ≤ j ∧ ∀ v, its[j - (ps.length - its.length)]? = some v → full[j]? = some v) :
    ∃ k, PySem.bindArgs fd ⟨us, ks.zip ws⟩ = seqItems? fd.defaults >>= k ∧ (k (some its.toArray) = pure (ps.zip full)) ∧ (its = [] → k none = pure (ps.zip full)) := by
  have dis : ∀ x ∈ ks, (ps.zip us).lookup x = none := fun x hx => by
    obtain ⟨j, hj⟩ := List.getElem?_of_mem (hks x hx)
    rw [List.getElem?_drop] at hj
    exact lookup_zip_out nd hj (by omega)
  -- the keywords' loop
  have e1 : ∀ (f : Str × Value → List (Str × Value) × List (Str × Value) → Sem (ForInStep (List (Str × Value) × List (Str × Value)))),
      (∀ x s, x.1 ∈ ps → (s.1.lookup x.1).isSome = false → f x s = pure (.yield (s.1 ++ [(x.1, x.2)], s.2))) → (forIn (ks.zip ws) (ps.zip us, []) f : Sem _) = pure (ps.zip us ++ ks.zip ws, []) := fun f hfx => by
    rw [forIn_fold f (fun s x => (s.1 ++ [(x.1, x.2)], s.2)) (ks.zip ws) (ps.zip us, []) fun pre x post e => ?_, kw_fold]
    rw [kw_fold]
    have hx : x.1 ∈ ks := (List.of_mem_zip (show (x.1, x.2) ∈ ks.zip ws by rw [e]; simp)).1
    refine hfx x _ (List.mem_of_mem_drop (hks _ hx)) ?_
    show ((ps.zip us ++ pre).lookup x.1).isSome = false
    rw [lookup_app, dis _ hx, Option.none_or]
    cases hl : pre.lookup x.1 with
    | none => rfl
    | some v =>
      exfalso
      have hm := PySem.mem_of_lookup hl
      have hmap : (ks.zip ws).map (·.1) = ks := by
        rw [List.map_fst_zip]
        omega
      rw [e, List.map_append, List.map_cons] at hmap
      rw [← hmap] at nk
      have := (List.nodup_append.mp nk).2.2
      exact this x.1 (List.mem_map_of_mem (f := (·.1)) hm) x.1 (by simp) rfl
  -- what every name has in the end
  have fin : ∀ (j : Nat) (x : Str) (v : Value), ps[j]? = some x → full[j]? = some v →
      (((ps.drop (ps.length - its.length)).zip its).foldl addD1 (ps.zip us ++ ks.zip ws)).lookup x = some v := fun j x v hj hv => by
    rw [addD_lookup, lookup_app]
    by_cases hju : j < us.length
    · obtain ⟨u, hu⟩ : ∃ u, us[j]? = some u := ⟨us[j], List.getElem?_eq_getElem hju⟩
      rw [lookup_zip_at nd hj hu, Option.some_or, Option.some_or]
      have := h1 j u hu
      rw [hv] at this
      exact this.symm
    · rw [lookup_zip_out nd hj (by omega), Option.none_or]
      by_cases hxk : x ∈ ks
      · obtain ⟨i, hi'⟩ := List.getElem?_of_mem hxk
        have hil : i < ws.length := by rw [← hw]; exact (List.getElem?_eq_some_iff.mp hi').1
        obtain ⟨u, hu⟩ : ∃ u, ws[i]? = some u := ⟨ws[i], List.getElem?_eq_getElem hil⟩
        rw [lookup_zip_at nk hi' hu, Option.some_or]
        have := h2 j i x u hj hi' hu
        rw [hv] at this
        exact this.symm
      · rw [lookup_zip_none hxk, Option.none_or]
        obtain ⟨h31, h32⟩ := h3 j x hj (by omega) hxk
        have hjl : j < ps.length := (List.getElem?_eq_some_iff.mp hj).1
        obtain ⟨u, hu⟩ : ∃ u, its[j - (ps.length - its.length)]? = some u := ⟨its[j - (ps.length - its.length)], List.getElem?_eq_getElem (by omega)⟩
        have := h32 u hu
        rw [hv] at this
        cases this
        refine lookup_zip_at (j := j - (ps.length - its.length)) (nd.sublist (List.drop_sublist _ _)) ?_ hu
        rw [List.getElem?_drop, show ps.length - its.length + (j - (ps.length - its.length)) = j by omega]
        exact hj
  -- none is missing
  have mis : (ps.take (ps.length - its.length)).filter (fun n => ((ps.zip us ++ ks.zip ws).lookup n).isNone) = [] := by
    refine List.filter_eq_nil_iff.mpr fun x hx => ?_
    obtain ⟨j, hj⟩ := List.getElem?_of_mem hx
    have hjm : j < ps.length - its.length := by
      have := (List.getElem?_eq_some_iff.mp hj).1
      rw [List.length_take] at this
      omega
    rw [List.getElem?_take_of_lt hjm] at hj
    rw [lookup_app]
    by_cases hju : j < us.length
    · obtain ⟨u, hu⟩ : ∃ u, us[j]? = some u := ⟨us[j], List.getElem?_eq_getElem hju⟩
      rw [lookup_zip_at nd hj hu, Option.some_or]
      simp
    · rw [lookup_zip_out nd hj (by omega), Option.none_or]
      by_cases hxk : x ∈ ks
      · obtain ⟨i, hi'⟩ := List.getElem?_of_mem hxk
        have hil : i < ws.length := by rw [← hw]; exact (List.getElem?_eq_some_iff.mp hi').1
        obtain ⟨u, hu⟩ : ∃ u, ws[i]? = some u := ⟨ws[i], List.getElem?_eq_getElem hil⟩
        rw [lookup_zip_at nk hi' hu]
        simp
      · exact absurd (h3 j x hj (by omega) hxk).1 (by omega)
  have dl : ∀ (f : Str × Value → List (Str × Value) → Sem (ForInStep (List (Str × Value)))) (l : List (Str × Value)) (a : List (Str × Value)),
      (∀ x s, f x s = pure (.yield (addD1 s x))) → (forIn l a f : Sem _) = pure (l.foldl addD1 a) := fun f l a hfx => forIn_fold f addD1 l a fun pre x post e => hfx x _
  have fm := filterMap_zip _ ps full hf.symm fin
  refine ⟨?k, ?h, ?h2, ?h3⟩
  case h =>
    unfold PySem.bindArgs
    dsimp only
    rw [pl.po, pl.ko, pl.ar, pl.va, pl.kw]
    simp only [List.map_nil, List.nil_append]
    rw [e1 _ fun x s hx hn => ?hf]
    · rw [pure_bind]
    case hf =>
      have hc : (ps.contains x.1 || ([] : List Str).contains x.1) = true := by
        rw [List.contains_iff_mem.mpr hx]; rfl
      rw [if_pos hc, if_neg (by rw [hn]; exact Bool.false_ne_true)]
  case h2 =>
    have e0 : ((some its.toArray).getD #[]).toList = its := by simp
    have d0 : List.drop (its.length - ps.length) its = its := by rw [show its.length - ps.length = 0 by omega]; rfl
    have c0 : ¬ (decide (us.length > ps.length) && (none : Option Arg).isNone) = true := by
      rw [decide_eq_false (by omega)]; exact Bool.false_ne_true
    simp only [e0, d0]
    rw [if_neg c0, if_neg (by rw [mis]; exact Bool.false_ne_true), dl _ _ _ fun x s => ?hx, pure_bind, List.forIn_nil, pure_bind, if_neg (by exact Bool.false_ne_true), List.append_nil, fm]
    case hx =>
      unfold addD1
      split <;> rfl
  case h3 =>
    intro hits
    subst hits
    have e0 : ((none : Option (Array Value)).getD #[]).toList = [] := rfl
    have d0 : List.drop (([] : List Value).length - ps.length) ([] : List Value) = [] := by simp
    have c0 : ¬ (decide (us.length > ps.length) && (none : Option Arg).isNone) = true := by
      rw [decide_eq_false (by omega)]; exact Bool.false_ne_true
    simp only [e0, d0]
    rw [if_neg c0, if_neg (by rw [mis]; exact Bool.false_ne_true), dl _ _ _ fun x s => ?hx, pure_bind, List.forIn_nil, pure_bind, if_neg (by exact Bool.false_ne_true), List.append_nil, fm]
    case hx =>
      unfold addD1
      split <;> rfl
end Pv

/-! Pv9: readings of the evaluator, calls of the program's defs. -/
namespace Pv
open PySem L2 PyProof.Rows

/-- where the program's things stand -/
structure Tb where
  fa : Nat → Addr
  xs : Nat → Option (Addr × List Str)

section
variable (K : PySem.W.Frag) (T : Tb)
def RepX (g : Gh) (H : Hp) (x : Xc) (cls : Value) (d : Option Addr) : Prop := ∃ C ns a vs, T.xs x.cls = some (C, ns) ∧ cls = .ref C ∧ d = some a ∧ g.F a ∧ H a = some (.xd (ns.zip vs)) ∧ RepL K g H x.fs vs ∧ ns.length = vs.length
def XOut (g : Gh) (A : Sto) (H : Hp) (x : Xc) (W : Value → Option Addr → Hp → Prop) : Prop := ∀ g' H' cls d, Post g H g' H' → RelA K g' A H' → RepX K T g' H' x cls d → W cls d H'
/-- an expression's reading; of a new list: nobody knows it -/
def rdE (W : WX) (r : Ev) (e : E) : TE := fun σ H Q => ∃ g ρ A, RelA K g A H ∧ RepS K g H ρ σ ∧ (match r.e e ρ A with
  | .ok d A' => Out K g A' H d Q
  | .ex x A' => XOut K T g A' H x (fun c d H' => W c d σ H')
  | .bad => False)
def rdF (W : WX) (r : Ev) (e : E) : TE := fun σ H Q => ∃ g ρ A, RelA K g A H ∧ RepS K g H ρ σ ∧ (match r.e e ρ A with
  | .ok d A' => FOut K g A' H d Q
  | .ex x A' => XOut K T g A' H x (fun c d H' => W c d σ H')
  | .bad => False)
def rdG (W : WX) (r : Ev) (e : E) : TE := if freshE e then rdF K T W r e else rdE K T W r e
/-- what is wanted of a list of values -/
def OutL (g : Gh) (A : Sto) (H : Hp) (ds : List D) (Q : List V → Hp → Prop) : Prop := ∀ g' vs H', Post g H g' H' → RelA K g' A H' → RepL K g' H' ds vs → Q vs H'
def rdA (W : WX) (r : Ev) (es : List E) : TA := fun σ H Q => ∃ g ρ A, RelA K g A H ∧ RepS K g H ρ σ ∧ (match evEs r ρ es A with
  | .ok ds A' => OutL K g A' H ds Q
  | .ex x A' => XOut K T g A' H x (fun c d H' => W c d σ H')
  | .bad => False)
def OutB (g : Gh) (A : Sto) (H : Hp) (b : Bool) (Q : Bool → Hp → Prop) : Prop := ∀ g' H', Post g H g' H' → RelA K g' A H' → Q b H'
def rdT (W : WX) (r : Ev) (e : E) : TT := fun σ H Q => ∃ g ρ A, RelA K g A H ∧ RepS K g H ρ σ ∧ (match r.e e ρ A with
  | .ok x A' => (match truth A' x with
    | some b => OutB K g A' H b Q
    | none => False)
  | .ex x A' => XOut K T g A' H x (fun c d H' => W c d σ H')
  | .bad => False)
def rdFl (W : WX) (res : Res Fl) (g : Gh) (σ : L2.St) (H : Hp) (D : Ends) : Prop := match res with
  | .ok (.next ρ') A' => ∀ g' σ' H', Post g H g' H' → RelA K g' A' H' → RepS K g' H' ρ' σ' → D.nx σ' H'
  | .ok (.brk ρ') A' => ∀ g' σ' H', Post g H g' H' → RelA K g' A' H' → RepS K g' H' ρ' σ' → D.bk σ' H'
  | .ok (.ret d) A' => Out K g A' H d D.rt
  | .ex x A' => ∀ g' σ' H' cls d, Post g H g' H' → RelA K g' A' H' → RepX K T g' H' x cls d → W cls d σ' H'
  | .bad => False
def rdS (W : WX) (r : Ev) (s : S) : TS := fun D σ H => ∃ g ρ A, RelA K g A H ∧ RepS K g H ρ σ ∧ rdFl K T W (r.s s ρ A) g σ H D
def rdSs (W : WX) (r : Ev) (ss : List S) : TS := fun D σ H => ∃ g ρ A, RelA K g A H ∧ RepS K g H ρ σ ∧ rdFl K T W (evSs r ss ρ A) g σ H D
/-- a def's promise -/
def spF (np : Nat) (r : Ev) (k : Nat) : Sp := fun vs H Q E => ∃ g ds A, RelA K g A H ∧ RepL K g H ds vs ∧ ds.length = np ∧ (match r.f k ds A with
  | .ok d A' => Out K g A' H d Q
  | .ex x A' => XOut K T g A' H x E
  | .bad => False)
end
section
variable {X : Cx}
theorem PE.imp {e : Expr} {t t' : TE} (h : PE X e t) (i : ∀ σ H Q, t' σ H Q → t σ H Q) : PE X e t' := ⟨fun pins s σ H Q I q => h.run pins s σ H Q I (i σ H Q q)⟩
theorem PT.imp {e : Expr} {t t' : TT} (h : PT X e t) (i : ∀ σ H Q, t' σ H Q → t σ H Q) : PT X e t' := ⟨fun pins s σ H Q I q => h.run pins s σ H Q I (i σ H Q q)⟩
theorem PW.imp {e : Expr} {t t' : TT} (h : PW X e t) (i : ∀ σ H Q, t' σ H Q → t σ H Q) : PW X e t' := ⟨fun w pins s σ H Q I q => h.run w pins s σ H Q I (i σ H Q q)⟩
theorem PA.imp {e : List Expr} {t t' : TA} (h : PA X e t) (i : ∀ σ H Q, t' σ H Q → t σ H Q) : PA X e t' := ⟨fun pos pins s σ H Q I q => h.run pos pins s σ H Q I (i σ H Q q)⟩
theorem PK.imp {e : List Keyword} {t t' : TA} (h : PK X e t) (i : ∀ σ H Q, t' σ H Q → t σ H Q) : PK X e t' := ⟨fun pos pins s σ H Q I q => h.run pos pins s σ H Q I (i σ H Q q)⟩
theorem PS.imp {e : Stmt} {t t' : TS} (h : PS X e t) (i : ∀ D σ H, t' D σ H → t D σ H) : PS X e t' := ⟨fun pins s σ H D I q => h.run pins s σ H D I (i D σ H q)⟩
theorem PSs.imp {e : List Stmt} {t t' : TS} (h : PSs X e t) (i : ∀ D σ H, t' D σ H → t D σ H) : PSs X e t' := ⟨fun pins s σ H D I q => h.run pins s σ H D I (i D σ H q)⟩
end
section
variable {K : PySem.W.Frag} {T : Tb} {g g' : Gh} {A : Sto} {H H' : Hp} {W : WX} {r : Ev} {σ : L2.St}
theorem Post.back (p : Post g H g' H') {a : Addr} (h : H' a = none) : H a = none := by
  cases e : H a with
  | none => rfl
  | some o =>
    obtain ⟨o', e'⟩ := p.trk a o e
    rw [h] at e'; cases e'
theorem Out.after {d : D} {Q : VK} (h : Out K g A H d Q) (p : Post g H g' H') : Out K g' A H' d Q := fun g2 v H2 p2 => h g2 v H2 (p.trans p2)
theorem NewL.after {ds : List D} {Q : VK} (h : NewL K g A H ds Q) (p : Post g H g' H') : NewL K g' A H' ds Q := fun g2 a vs H2 p2 r hp => h g2 a vs H2 (p.trans p2) r (p.back hp)
theorem FOut.after {d : D} {Q : VK} (h : FOut K g A H d Q) (p : Post g H g' H') : FOut K g' A H' d Q := by
  cases d <;> first | exact NewL.after h p | exact Out.after h p
theorem XOut.after {x : Xc} {Q : Value → Option Addr → Hp → Prop} (h : XOut K T g A H x Q) (p : Post g H g' H') : XOut K T g' A H' x Q := fun g2 H2 c d p2 => h g2 H2 c d (p.trans p2)
theorem OutL.after {ds : List D} {Q : List V → Hp → Prop} (h : OutL K g A H ds Q) (p : Post g H g' H') : OutL K g' A H' ds Q := fun g2 v H2 p2 => h g2 v H2 (p.trans p2)
theorem OutB.after {b : Bool} {Q : Bool → Hp → Prop} (h : OutB K g A H b Q) (p : Post g H g' H') : OutB K g' A H' b Q := fun g2 H2 p2 => h g2 H2 (p.trans p2)
theorem rdE_F {e : E} {Q : VK} (h : rdE K T W r e σ H Q) : rdF K T W r e σ H Q := by
  obtain ⟨g, ρ, A, rA, rS, h⟩ := h
  refine ⟨g, ρ, A, rA, rS, ?_⟩
  split at h
  · exact Out.fresh h
  · exact h
  · exact h
theorem rdE_G {e : E} {Q : VK} (h : rdE K T W r e σ H Q) : rdG K T W r e σ H Q := by
  unfold rdG
  split
  · exact rdE_F h
  · exact h
/-- an expression is read, then the rest -/
theorem rdE_do {e : E} {Q : VK} {ρ : Env} (rA : RelA K g A H) (rS : RepS K g H ρ σ) {R : Prop} (h : R)
    (k : ∀ d A1, r.e e ρ A = .ok d A1 → R → ∀ g1 v H1, Post g H g1 H1 → RelA K g1 A1 H1 → RepS K g1 H1 ρ σ → RepD K g1 H1 d v → Q v H1)
    (kx : ∀ x A1, r.e e ρ A = .ex x A1 → R → XOut K T g A1 H x (fun c d H' => W c d σ H')) (kb : r.e e ρ A = .bad → R → False) : rdE K T W r e σ H Q := by
  refine ⟨g, ρ, A, rA, rS, ?_⟩
  split
  · rename_i d A1 e1
    exact fun g1 v H1 po r1 rd => k d A1 e1 h g1 v H1 po r1 (rS.keeps (rA.keeps po)) rd
  · rename_i x A1 e1
    exact kx x A1 e1 h
  · rename_i e1
    exact kb e1 h
end
end Pv

/-! Pv10: the program's defs, called; their bodies. -/
namespace Pv
open PySem L2 PyProof.Rows

/-- a def keeps its promise, where no repr runs -/
structure FnG (P : Program) (w : World) (K : PySem.W.Frag) (mg : Str → Option Value) (base : Heap) (k : Nat) (f : Addr) (fd : FuncData) (ps : List Str) (sp : Sp) : Prop where
  len : ∀ vs H Q E, sp vs H Q E → vs.length = ps.length
  run : ∀ (A : Around) (outer : List PySem.Env) (s : Shared) (H : Hp) (args : Args) (us : List Value) (vs : List V) (Q : VK) (E : XK), Room k A → A.guards = some [] → Env0 P w K mg base A outer s H → BindsTo s fd args (ps.zip us) → Vals vs us → sp vs H Q E →
    codeAny (model P w) A (.call (.ref f) args) (CR (CX P w) outer P w H s Q E) s

theorem fng_of {P : Program} {w : World} {K : PySem.W.Frag} {mg : Str → Option Value} {base : Heap} {k : Nat} {f : Addr} {name qual : Str} {params : Arguments} {body : List Stmt} {scope : Scope} {dV kV doc pm cdv ct oc : Value} {an od : Option Addr}
    {osl : Array (Option Value)} {N ps : List Str} {sp : Sp} (lk : K.lookup f = some ⟨oc, od, .func (PySem.W.fnOf name qual params body scope dV kV doc pm an cdv ct), osl⟩) (hcd : PySem.W.codeIn K cdv qual = true) (S : FnScope N ps scope)
    (len : ∀ vs H Q E, sp vs H Q E → vs.length = ps.length)
    (hbody : ∀ (A : Around) (outer : List PySem.Env) (s : Shared) (H : Hp) (vs : List V) (Q : VK) (E : XK), Room k (A.deeper (envOfC qual scope s.heap.objs.size f cdv)) → A.guards = some [] → sp vs H Q E →
      ∃ t, PSs (cxOf (CX P w) P w K mg base N qual scope f cdv A outer s H E) body t ∧ t { nx := fun _ H' => Q .non H', rt := Q } (start N vs) H) :
    FnG P w K mg base (k + 1) f (PySem.W.fnOf name qual params body scope dV kV doc pm an cdv ct) ps sp := by
  refine ⟨len, fun A outer s H args us vs Q E hr hg e0 hb r hsp => ?_⟩
  have hl := len _ _ _ _ hsp
  have KX : K.In s.heap := e0.mod.kin.keeps fun b o e => (e0.bs b o e).1
  have lim : s.heap.NoLimit := e0.mod.nolimit.keeps fun b o e => (e0.bs b o e).1
  have hkind : ∀ y ∈ ps.zip us, scope.names.lookup y.1 = some .local ∨ (scope.names.lookup y.1 = some .cell ∧ ((cellsFrom (s.heap.objs.size + 1) scope.names []).lookup y.1).isSome = true) := fun ⟨n, v⟩ hy => by
    rcases S.par n (List.of_mem_zip hy).1 with q | q
    · exact .inl q
    · exact .inr ⟨q, PySem.W.cellsFrom_some _ _ _ (.inl q)⟩
  refine codeAny_call_function hr.depth (KX _ _ lk) rfl S.co S.gen rfl (PySem.W.codeRec_of KX hcd) (hb _ _ _ _ ?_)
  refine wpAny_newFunctionEnv_cells S.kind hkind fun env he s1 x => ?_
  subst he
  refine ⟨lim.keeps x.toInCall.keep, codeAny_func ?_⟩
  obtain ⟨t, ht, hq⟩ := hbody A outer s H vs Q E (hr.deeper _) hg hsp
  have I : Inv (cxOf (CX P w) P w K mg base N qual scope f cdv A outer s H E) [] (start N vs) H s1 := inv_start S hr.hd e0 hl r x
  refine wpAny_mono (ht.run [] s1 (start N vs) H _ I hq) (fun fl s' hs => ?_) fun e s' hs => hs
  have fin : ∀ {σ' : L2.St} {H' : Hp} {v : V} {u : Value}, Inv (cxOf (CX P w) P w K mg base N qual scope f cdv A outer s H E) [] σ' H' s' → RelV v u → Q v H' → CE outer P w H s Q u s' :=
    fun {σ' H' v u} J rv q => ⟨v, H', J.os, J.bare, J.base, J.hok, rv, q⟩
  cases fl with
  | ret u =>
    obtain ⟨v, σ', H', J, rv, q⟩ := hs
    exact fin J rv q
  | next =>
    obtain ⟨σ', H', J, q⟩ := hs
    exact fin (v := V.non) (u := Value.none) J rfl q
  | brk =>
    obtain ⟨_, _, _, q⟩ := hs
    exact False.elim q
  | cont =>
    obtain ⟨_, _, _, q⟩ := hs
    exact False.elim q

/-! ### syntax -/
theorem star_cons {e : Expr} {es : List Expr} {env : PySem.Env} (h : isStar e = false) : starEach (e :: es) env = (false, eval e env) :: starEach es env := by
  cases e <;> first | rfl | (simp [isStar] at h)
theorem star_any {pos : Pos} {env : PySem.Env} : ∀ {es : List Expr}, es.any isStar = false → (backTo pos (starEach es env)).any (·.1) = false
  | [], _ => rfl
  | e :: es, h => by
    rw [List.any_cons, Bool.or_eq_false_iff] at h
    rw [star_cons h.1]
    show (false || (backTo pos (starEach es env)).any (·.1)) = false
    rw [star_any h.2]; rfl
theorem kw_names {pos : Pos} {env : PySem.Env} : ∀ {kws : List Keyword} {ks : List Str}, kwNames kws = some ks →
    (backToKw pos (keywordEach kws env)).all (·.1.isSome) = true ∧ (backToKw pos (keywordEach kws env)).filterMap (·.1) = ks ∧ (backToKw pos (keywordEach kws env)).any (·.1.isNone) = false
  | [], _, h => by cases h; exact ⟨rfl, rfl, rfl⟩
  | ⟨none, v, p⟩ :: r, _, h => by cases h
  | ⟨some x, v, p⟩ :: r, ks, h => by
    unfold kwNames at h
    split at h
    · rename_i xs hx
      cases h
      obtain ⟨h1, h2, h3⟩ := kw_names (pos := pos) (env := env) hx
      refine ⟨?_, ?_, ?_⟩
      · show (true && (backToKw pos (keywordEach r env)).all (·.1.isSome)) = true
        rw [h1]; rfl
      · show x :: (backToKw pos (keywordEach r env)).filterMap (·.1) = x :: xs
        rw [h2]
      · show (false || (backToKw pos (keywordEach r env)).any (·.1.isNone)) = false
        rw [h3]; rfl
    · cases h

/-! ### binding by sources -/
/-- the defaults of a def: values of the written part -/
def DfOk (K : PySem.W.Frag) (ds : List (Option D)) (dvs : List V) : Prop := ∃ n es, ds = List.replicate n none ++ es.map some ∧ ∀ g H, RepL K g H es dvs

section
variable {X : Cx} {k : Nat} {f : Addr} {fd : FuncData} {ps ks : List Str} {sp : Sp} {x : Str} {p pos : Pos} {es : List Expr} {kws : List Keyword} {ta tk : TA} {W : WX}
/-- the callee runs -/
theorem run_fng {pins : List (Addr × Obj)} {σ : L2.St} {H : Hp} {s : Shared} {Q : VK} {us ws full : List Value} {vs : List V} (F : FnG X.prog X.w X.K X.mg X.base k f fd ps sp) (hr : Room k X.A) (hg : X.A.guards = some []) (tk : Takes X W)
    (I : Inv X pins σ H s) (hb : BindsTo s fd ⟨us, ks.zip ws⟩ (ps.zip full)) (r : Vals vs full) (h : sp vs H Q (fun c d H' => W c d σ H')) : wpAny (model X.prog X.w) X.A (call (.ref f) us (ks.zip ws)) (EP X pins σ Q) X.xe s := by
  refine wpAny_call (codeAny_mono (F.run X.A X.stack s H ⟨us, ks.zip ws⟩ full vs Q _ hr hg I.env0 hb r h) fun r s' hq => ?_)
  cases r with
  | error e => exact tk e s' (XE.of_call I (fun _ _ _ h => h) hq)
  | ok fl =>
    cases fl with
    | ret u => exact I.after hq
    | next => exact False.elim hq
    | brk => exact False.elim hq
    | cont => exact False.elim hq
/-- how a call binds: from the written values to the parameters' -/
def BindG (K : PySem.W.Frag) (fd : FuncData) (ps : List Str) (np : Nat) (ks : List Str) (gV : List V → List V → Option (List V)) : Prop :=
  ∀ (s : Shared) (us ws : List Value) (vs zs out : List V), K.In s.heap → us.length = np → ws.length = ks.length → Vals vs us → Vals zs ws → gV vs zs = some out → ∃ full, BindsTo s fd ⟨us, ks.zip ws⟩ (ps.zip full) ∧ Vals out full
/-- f(e, .., k = v, ..) -/
theorem pe_callG {gV : List V → List V → Option (List V)} (F : FnG X.prog X.w X.K X.mg X.base k f fd ps sp) (hr : Room k X.A) (hgu : X.A.guards = some []) (hg : Gl X x) (hm : X.mg x = some (.ref f)) (hk : PySem.W.keepIn X.K (.ref f) = true)
    (hb : BindG X.K fd ps es.length ks gV) (tk : Takes X W) (hst : es.any isStar = false) (hkn : kwNames kws = some ks) (ha : PA X es ta) (hkw : PK X kws tk') (hdb : (x == ("__debug__" : Str)) = false) :
    PE X (.Call (.Name x p) es kws pos) (fun σ H Q => ta σ H fun vs H1 => vs.length = es.length ∧ tk' σ H1 fun zs H2 => zs.length = ks.length ∧ ∃ out, gV vs zs = some out ∧ sp out H2 Q (fun c d H' => W c d σ H')) := by
  refine ⟨fun pins s σ H Q I h => ?_⟩
  obtain ⟨hall, hks, hno⟩ := kw_names (pos := pos) (env := X.env) hkn
  have hpl : ((backTo pos (starEach es X.env)).any (·.1) || (backToKw pos (keywordEach kws X.env)).any (·.1.isNone)) = false := by rw [star_any hst, hno]; rfl
  refine wpAny_Call_Name_kw (ld_glob I hg hm ?_ hdb)
  have key : ∀ (us : List Value) (s1 : Shared) (vs : List V) (H1 : Hp), Inv X pins σ H1 s1 → Vals vs us → (vs.length = es.length ∧ tk' σ H1 fun zs H2 => zs.length = ks.length ∧ ∃ out, gV vs zs = some out ∧ sp out H2 Q (fun c d H' => W c d σ H')) →
      wpAny (model X.prog X.w) X.A (evalAll ((backToKw pos (keywordEach kws X.env)).map (·.2))) (fun ks' s₂ => X.K.In s₂.heap ∧ wpAny (model X.prog X.w) X.A (call (.ref f) ([] ++ us) (((backToKw pos (keywordEach kws X.env)).filterMap (·.1)).zip ks')) (EP X pins σ Q) X.xe s₂) X.xe s1 := fun us s1 vs H1 I1 r q => by
    refine thn (hkw.run pos pins s1 σ H1 _ I1 q.2) fun ws s2 ⟨zs, H2, I2, rz, hzl, out, ho, q2⟩ => ⟨I2.kIn, ?_⟩
    rw [hks]
    obtain ⟨full, hbt, rf⟩ := hb s2 us ws vs zs out I2.kIn (by rw [← r.length]; exact q.1) (by rw [← rz.length]; exact hzl) r rz ho
    exact run_fng F hr hgu tk I2 hbt rf q2
  cases es with
  | nil =>
    have h0 := ha.run pos pins s σ H _ I h
    refine PySem.W.callWith_KW0 (h₀ := X.base) I.ok.mod.kin hk hall ?_ hpl
    intro Γ p' hΓ
    obtain ⟨vs, H1, I1, r, q⟩ := h0 Γ p' hΓ
    exact key [] s vs H1 I1 r q Γ p' hΓ
  | cons e es =>
    rw [List.any_cons, Bool.or_eq_false_iff] at hst
    exact PySem.W.callWith_KW (h₀ := X.base) I.ok.mod.kin hk hall (thn (ha.run pos pins s σ H _ I h) fun us s1 ⟨vs, H1, I1, r, q⟩ => key us s1 vs H1 I1 r q) hpl (star_cons hst.1)
end
end Pv

/-! Pv11: parameters by their sources. -/
namespace Pv
open PySem L2 PyProof.Rows

/-- the value of a written constant -/
def cV : D → Option V
  | .non => some .non
  | .bl b => some (.bl b)
  | .int i => some (.int i)
  | .str s => some (.str s)
  | _ => none
theorem cV_rep {K : PySem.W.Frag} {g : Gh} {H : Hp} {d : D} {v : V} (h : cV d = some v) : RepD K g H d v := by
  cases d <;> first | (cases h; constructor) | cases h
def bindV (vs : List V) : List Bd → Option (List V)
  | [] => some []
  | .arg i :: bs => (match vs[i]? with
    | some v => (match bindV vs bs with
      | some r => some (v :: r)
      | none => none)
    | none => none)
  | .dflt d :: bs => (match cV d with
    | some v => (match bindV vs bs with
      | some r => some (v :: r)
      | none => none)
    | none => none)
  | .rest i :: bs => none
theorem bindV_rep {K : PySem.W.Frag} {g : Gh} {H : Hp} {ds : List D} {vs : List V} (l : RepL K g H ds vs) : ∀ {bs : List Bd} {ws : List D}, (∀ d, Bd.dflt d ∈ bs → (cV d).isSome = true) → bindArgs ds bs = some ws → ∃ out, bindV vs bs = some out ∧ RepL K g H ws out
  | [], ws, _, e => by cases e; exact ⟨[], rfl, .nil⟩
  | .arg i :: bs, ws, hc, e => by
    unfold bindArgs at e
    split at e
    · rename_i d hd
      split at e
      · rename_i r hr
        cases e
        obtain ⟨out, h1, h2⟩ := bindV_rep l (fun d hd => hc d (List.mem_cons_of_mem _ hd)) hr
        obtain ⟨v, h3, h4⟩ := l.get hd
        exact ⟨v :: out, by simp only [bindV, h3, h1], .cons h4 h2⟩
      · cases e
    · cases e
  | .dflt d :: bs, ws, hc, e => by
    unfold bindArgs at e
    split at e
    · rename_i r hr
      cases e
      obtain ⟨out, h1, h2⟩ := bindV_rep l (fun d hd => hc d (List.mem_cons_of_mem _ hd)) hr
      obtain ⟨v, hv⟩ := Option.isSome_iff_exists.mp (hc d List.mem_cons_self)
      exact ⟨v :: out, by simp only [bindV, hv, h1], .cons (cV_rep hv) h2⟩
    · cases e
  | .rest i :: bs, ws, hc, e => by cases e

theorem bindV_len {vs : List V} : ∀ (bs : List Bd) (out : List V), bindV vs bs = some out → out.length = bs.length
  | [], out, h => by cases h; rfl
  | .arg i :: bs, out, ho => by
    unfold bindV at ho
    split at ho
    · split at ho
      · rename_i o ho'
        cases ho
        simp [bindV_len bs o ho']
      · cases ho
    · cases ho
  | .dflt d :: bs, out, ho => by
    unfold bindV at ho
    split at ho
    · split at ho
      · rename_i o ho'
        cases ho
        simp [bindV_len bs o ho']
      · cases ho
    · cases ho
  | .rest i :: bs, out, ho => by cases ho
theorem kwIx_at {x : Str} : ∀ {ks : List Str} {p m : Nat}, kwIx x p ks = some m → ∃ i, m = p + i ∧ ks[i]? = some x
  | [], _, _, h => by cases h
  | k :: r, p, m, h => by
    unfold kwIx at h
    split at h
    · rename_i hk
      cases h
      exact ⟨0, rfl, by rw [← beq_iff_eq.mp hk]; rfl⟩
    · obtain ⟨i, h1, h2⟩ := kwIx_at h
      exact ⟨i + 1, by omega, by simpa using h2⟩
theorem kwIx_none {x : Str} : ∀ {ks : List Str} {p : Nat}, kwIx x p ks = none → x ∉ ks
  | [], _, _ => by simp
  | k :: r, p, h => by
    unfold kwIx at h
    split at h
    · cases h
    · rename_i hk
      intro hx
      rcases List.mem_cons.mp hx with rfl | hx
      · exact hk (beq_self_eq_true x)
      · exact kwIx_none h hx
/-- what the sources are -/
def srcAt (p : Nat) (ks : List Str) (j : Nat) (x : Str) (d : Option D) : Option Bd := if j < p then some (.arg j) else (match kwIx x p ks with
  | some i => some (.arg i)
  | none => (match d with
    | some d => some (.dflt d)
    | none => none))
theorem srcs_at {p : Nat} {ks : List Str} : ∀ {ps : List Str} {ds : List (Option D)} {j : Nat} {bs : List Bd}, srcs p ks j ps ds = some bs →
    bs.length = ps.length ∧ ds.length = ps.length ∧ ∀ (i : Nat) (x : Str) (b : Bd), ps[i]? = some x → bs[i]? = some b → ∃ d, ds[i]? = some d ∧ srcAt p ks (j + i) x d = some b
  | [], [], j, bs, h => by cases h; exact ⟨rfl, rfl, fun i x b h => by simp at h⟩
  | [], _ :: _, j, bs, h => by cases h
  | _ :: _, [], j, bs, h => by cases h
  | x :: ps, d :: ds, j, bs, h => by
    unfold srcs at h
    simp only [] at h
    split at h
    · rename_i b r hb hr
      cases h
      obtain ⟨h1, h2, h3⟩ := srcs_at hr
      refine ⟨by simp [h1], by simp [h2], fun i y b' hy hb' => ?_⟩
      cases i with
      | zero =>
        simp at hy hb'
        subst hy hb'
        exact ⟨d, rfl, hb⟩
      | succ i =>
        obtain ⟨d', g1, g2⟩ := h3 i y b' (by simpa using hy) (by simpa using hb')
        exact ⟨d', by simpa using g1, by rw [show j + (i + 1) = j + 1 + i by omega]; exact g2⟩
    · cases h
theorem nodupS_ok : ∀ {ks : List Str}, nodupS ks = true → ks.Nodup
  | [], _ => .nil
  | x :: r, h => by
    simp only [nodupS, Bool.and_eq_true, Bool.not_eq_true'] at h
    refine List.nodup_cons.mpr ⟨fun hx => ?_, nodupS_ok h.2⟩
    rw [List.contains_iff_mem.mpr hx] at h
    exact Bool.noConfusion h.1
/-- the values behind the sources -/
theorem vals_src {vs : List V} {us its : List Value} {dvs : List V} (r : Vals vs us) (rd : Vals dvs its) : ∀ (bs : List Bd) (out : List V), bindV vs bs = some out →
    ∀ (off : Nat → Nat), (∀ (i : Nat) (d : D), bs[i]? = some (.dflt d) → ∃ v, cV d = some v ∧ dvs[off i]? = some v) →
    ∃ full : List Value, Vals out full ∧ (∀ (i m : Nat), bs[i]? = some (.arg m) → full[i]? = us[m]?) ∧ ∀ (i : Nat) (d : D), bs[i]? = some (.dflt d) → full[i]? = its[off i]?
  | [], out, e, _, _ => by
    cases e
    exact ⟨[], .nil, fun i m h => by simp at h, fun i d h => by simp at h⟩
  | .arg i :: bs, out, e, off, hd => by
    unfold bindV at e
    split at e
    · rename_i v hv
      split at e
      · rename_i o ho
        cases e
        obtain ⟨full, h1, h2, h3⟩ := vals_src r rd bs o ho (fun i => off (i + 1)) fun i d h => hd (i + 1) d (by simpa using h)
        obtain ⟨u, hu, rv⟩ := r.get hv
        refine ⟨u :: full, .cons rv h1, fun j m h => ?_, fun j d h => ?_⟩
        · cases j with
          | zero => simp at h; subst h; simpa using hu.symm
          | succ j => simpa using h2 j m (by simpa using h)
        · cases j with
          | zero => simp at h
          | succ j => simpa using h3 j d (by simpa using h)
      · cases e
    · cases e
  | .dflt d :: bs, out, e, off, hd => by
    unfold bindV at e
    split at e
    · rename_i v hv
      split at e
      · rename_i o ho
        cases e
        obtain ⟨full, h1, h2, h3⟩ := vals_src r rd bs o ho (fun i => off (i + 1)) fun i d h => hd (i + 1) d (by simpa using h)
        obtain ⟨v', hv', hn⟩ := hd 0 d rfl
        rw [hv] at hv'
        cases hv'
        obtain ⟨u, hu, rv⟩ := rd.get hn
        refine ⟨u :: full, .cons rv h1, fun j m h => ?_, fun j d' h => ?_⟩
        · cases j with
          | zero => simp at h
          | succ j => simpa using h2 j m (by simpa using h)
        · cases j with
          | zero => simp at h; subst h; simpa using hu.symm
          | succ j => simpa using h3 j d' (by simpa using h)
      · cases e
    · cases e
  | .rest i :: bs, out, e, off, hd => by cases e

/-- a def of the top as the evaluator takes it: its parameters, its defaults -/
structure SigOk (K : PySem.W.Frag) (fd : FuncData) (s : Sig) : Prop where
  pl : Plain fd.params s.ps
  nd : s.ps.Nodup
  df : ∃ (n : Nat) (es : List D) (dvs : List V), s.ds = List.replicate n none ++ es.map some ∧ mapO cV es = some dvs ∧ DflV K fd.defaults dvs
theorem mapO_get {α β : Type} {f : α → Option β} : ∀ {xs : List α} {ys : List β}, mapO f xs = some ys → xs.length = ys.length ∧ ∀ (i : Nat) (x : α), xs[i]? = some x → ∃ y, f x = some y ∧ ys[i]? = some y
  | [], ys, h => by cases h; exact ⟨rfl, fun i x h => by simp at h⟩
  | x :: xs, ys, h => by
    unfold mapO at h
    split at h
    · rename_i y hy
      split at h
      · rename_i r hr
        cases h
        obtain ⟨h1, h2⟩ := mapO_get hr
        refine ⟨by simp [h1], fun i z hz => ?_⟩
        cases i with
        | zero => simp at hz; subst hz; exact ⟨y, hy, rfl⟩
        | succ i => simpa using h2 i z (by simpa using hz)
      · cases h
    · cases h
theorem rep_get {n i : Nat} {es : List D} {d : D} (h : (List.replicate n (none : Option D) ++ es.map some)[i]? = some (some d)) : n ≤ i ∧ es[i - n]? = some d := by
  by_cases hi : i < n
  · rw [List.getElem?_append_left (by simpa using hi), List.getElem?_replicate] at h
    split at h <;> cases h
  · rw [List.getElem?_append_right (by simpa using hi), List.length_replicate, List.getElem?_map] at h
    refine ⟨by omega, ?_⟩
    cases e : es[i - n]? with
    | none => rw [e] at h; cases h
    | some x => rw [e] at h; cases h; rfl
theorem bindG_of {K : PySem.W.Frag} {fd : FuncData} {s : Sig} {np : Nat} {ks : List Str} {bs : List Bd} (S : SigOk K fd s) (hk : kwOk np s.ps ks = true) (hb : srcs np ks 0 s.ps s.ds = some bs) :
    BindG K fd s.ps np ks (fun vs zs => bindV (vs ++ zs) bs) ∧ ∀ d, Bd.dflt d ∈ bs → (cV d).isSome = true := by
  obtain ⟨n, es, dvs, eds, hm, hD⟩ := S.df
  obtain ⟨hbl, hdl, hat⟩ := srcs_at hb
  obtain ⟨hml, hmg⟩ := mapO_get hm
  simp only [kwOk, Bool.and_eq_true, decide_eq_true_eq] at hk
  obtain ⟨⟨hnp, hks⟩, hnk⟩ := hk
  have nk := nodupS_ok hnk
  have hks : ∀ x ∈ ks, x ∈ s.ps.drop np := fun x hx => by
    have := List.all_eq_true.mp hks x hx
    exact List.contains_iff_mem.mp this
  have hlen : n + es.length = s.ps.length := by rw [← hdl, eds]; simp
  have dfl : ∀ (i : Nat) (d : D), bs[i]? = some (.dflt d) → n ≤ i ∧ np ≤ i ∧ ∃ v, cV d = some v ∧ dvs[i - n]? = some v := fun i d h => by
    have hi : i < s.ps.length := by rw [← hbl]; exact (List.getElem?_eq_some_iff.mp h).1
    obtain ⟨d', g1, g2⟩ := hat i s.ps[i] (.dflt d) (List.getElem?_eq_getElem hi) h
    unfold srcAt at g2
    split at g2
    · cases g2
    · rename_i hge
      split at g2
      · cases g2
      · split at g2
        · cases g2
          rw [eds] at g1
          obtain ⟨h1, h2⟩ := rep_get g1
          obtain ⟨v, h3, h4⟩ := hmg _ _ h2
          exact ⟨h1, by omega, v, h3, h4⟩
        · cases g2
  refine ⟨fun s1 us ws vs zs out KX hus hws r rz ho => ?_, fun d hd => ?_⟩
  · have rall : Vals (vs ++ zs) (us ++ ws) := r.append rz
    obtain ⟨its, rits, hits⟩ : ∃ its : List Value, Vals dvs its ∧ ((its = [] ∧ fd.defaults = .none) ∨ ∃ T o m, fd.defaults = .ref T ∧ K.lookup T = some o ∧ o.data = .seq its.toArray m) := by
      rcases hD with ⟨e, h⟩ | ⟨_, T, o, its, m, h1, h2, h3, h4⟩
      · subst e; exact ⟨[], .nil, .inl ⟨rfl, h⟩⟩
      · exact ⟨its, h4, .inr ⟨T, o, m, h1, h2, h3⟩⟩
    have hil : its.length = es.length := by rw [← rits.length, hml]
    obtain ⟨full, rf, f1, f2⟩ := vals_src rall rits bs out ho (fun i => i - n) fun i d h => (dfl i d h).2.2
    have hfl : full.length = s.ps.length := by
      rw [← rf.length, ← hbl]
      exact bindV_len bs out ho
    have at_ : ∀ (j : Nat) (x : Str), s.ps[j]? = some x → ∃ b d, bs[j]? = some b ∧ s.ds[j]? = some d ∧ srcAt np ks j x d = some b := fun j x hj => by
      have hjl : j < bs.length := by rw [hbl]; exact (List.getElem?_eq_some_iff.mp hj).1
      obtain ⟨d, g1, g2⟩ := hat j x bs[j] hj (List.getElem?_eq_getElem hjl)
      exact ⟨bs[j], d, List.getElem?_eq_getElem hjl, g1, by rw [Nat.zero_add] at g2; exact g2⟩
    obtain ⟨k, hk1, hk2, hk3⟩ := bind_plain (fd := fd) (ps := s.ps) (ks := ks) (us := us) (ws := ws) (its := its) (full := full) S.pl S.nd nk (by omega) (by rw [hus]; exact hks) hws.symm (by omega) hfl
      (fun j v hv => by
        have hj : j < us.length := (List.getElem?_eq_some_iff.mp hv).1
        have hjp : j < s.ps.length := by omega
        obtain ⟨b, d, e1, e2, e3⟩ := at_ j s.ps[j] (List.getElem?_eq_getElem hjp)
        unfold srcAt at e3
        rw [if_pos (by omega)] at e3
        cases e3
        rw [f1 j j e1, List.getElem?_append_left hj]
        exact hv)
      (fun j i x v hj hi hv => by
        obtain ⟨b, d, e1, e2, e3⟩ := at_ j x hj
        unfold srcAt at e3
        have hxd := hks x (List.mem_of_getElem? hi)
        have hnj : ¬ j < np := fun hlt => by
          obtain ⟨j', hj'⟩ := List.getElem?_of_mem hxd
          rw [List.getElem?_drop] at hj'
          have := nodup_ix S.nd hj hj'
          omega
        rw [if_neg hnj] at e3
        split at e3
        · rename_i m hm'
          cases e3
          obtain ⟨i', rfl, hi'⟩ := kwIx_at hm'
          have : i' = i := nodup_ix nk hi' hi
          subst this
          rw [f1 j _ e1, List.getElem?_append_right (by omega), show np + i' - us.length = i' by omega]
          exact hv
        · rename_i hn
          exact absurd (List.mem_of_getElem? hi) (kwIx_none hn))
      (fun j x hj hge hx => by
        obtain ⟨b, d, e1, e2, e3⟩ := at_ j x hj
        unfold srcAt at e3
        rw [if_neg (by omega)] at e3
        split at e3
        · rename_i m hm'
          obtain ⟨i', rfl, hi'⟩ := kwIx_at hm'
          exact absurd (List.mem_of_getElem? hi') hx
        · split at e3
          · cases e3
            obtain ⟨h1, _, _⟩ := dfl j _ e1
            refine ⟨by omega, fun v hv => ?_⟩
            rw [f2 j _ e1, show j - n = j - (s.ps.length - its.length) by omega]
            exact hv
          · cases e3)
    refine ⟨full, ?_, rf⟩
    rcases hits with ⟨e, hn⟩ | ⟨T, o, m, hT, lT, dT⟩
    · refine .of_eq ?_
      rw [hk1, hn]
      show (notAStandIn Value.none >>= fun _ => pure none) >>= k = _
      have e1 : notAStandIn Value.none = pure () := rfl
      rw [e1, pure_bind, pure_bind]
      exact hk3 e
    · exact BindsTo.of_defaults hT (KX _ _ lT) dT hk1 hk2
  · obtain ⟨i, hi⟩ := List.getElem?_of_mem hd
    obtain ⟨_, _, v, hv, _⟩ := dfl i d hi
    rw [hv]; rfl
end Pv

/-! Pv12: enumerate of a tuple. -/
namespace Pv
open PySem L2 PyProof.Rows
open AutoSeq1 (wpAny_loadPart')

theorem draws_tuple {prog : Program} {w : World} {A : Around} (hh : A.handled = none) (it l : Addr) (hne : l ≠ it) (items : Array Value) :
    Draws prog w A it [it, l] items.size (fun i v => items[i]? = some v) (fun i h => h.IsTupleIter it l i ∧ h.IsTuple l items) where
  live := fun _ _ st => let ⟨o, ho, _⟩ := st.1; ⟨o, ho⟩
  frame := fun _ _ _ st hk => ⟨st.1.at fun o e => hk it (by simp) o e, st.2.at fun o e => hk l (by simp) o e⟩
  item := fun i s Q E hi st hQ => by
    refine RZ.nextOf_tuple_item st.1 st.2 (x := items[i]) (by simp [hi]) fun h' hit' hs' => ?_
    exact hQ _ h' s.toks (by simp [hi]) ⟨hit', st.2.at fun o e => (hs'.2 l hne).trans e⟩ hs'
  done := fun s Q E st hE => RZ.nextOf_tuple_end hh st.1 st.2 (by simp) hE
theorem meets_enumerate_newT (l : Addr) (items : Array Value) (n : Nat) (dct : Option Addr) (sl : Array (Option Value)) :
    Meets (Builtin.«enumerate.__new__» ⟨[.type "enumerate", .ref l], []⟩) (fun _ R s => s.heap.get? l = some { cls := .type "tuple", dict := dct, data := .seq items n, slots := sl } ∧
      R (.ok (.ret (.ref (s.heap.push { cls := .type "tuple_iterator", data := .fields #[.ref l, .int 0 0] }).objs.size)))
        { s with heap := (s.heap.push { cls := .type "tuple_iterator", data := .fields #[.ref l, .int 0 0] }).push { cls := .type "enumerate", data := .fields #[.none, .bool false, .ref s.heap.objs.size, rawInt 0, .none, .none] } }) :=
  .of_wp fun prog w A R s h => by
    obtain ⟨hp, g, d, tk, os⟩ := s; obtain ⟨hl, h⟩ := h
    have hsub := sub_enumerate
    have hL : Heap.IsTuple (Shared.heap ⟨hp, g, d, tk, os⟩) l items := ⟨_, hl, rfl, n, rfl⟩
    wp_walk using wpAny_loadPart' hl
    refine wpAny_stack_any fun st => wpAny_pure ?_
    split
    · rename_i c _ _ _ _ _
      cases (c == Value.type "enumerate")
      · wp_walk using wpAny_loadPart' hl, wpAny_pyIter_tuple hL
        exact ⟨_, rfl, h⟩
      · wp_walk using wpAny_loadPart' hl, wpAny_pyIter_tuple hL
        exact ⟨_, rfl, h⟩
    · wp_walk using wpAny_loadPart' hl, wpAny_pyIter_tuple hL
      exact ⟨_, rfl, h⟩
section
variable {prog : Program} {w : World} {A : Around} {E : Value → Shared → Prop} {s : Shared}
theorem call_enumerate_tuple {l : Addr} {items : Array Value} {Q : Value → Shared → Prop} (hL : s.heap.IsTuple l items)
    (h : ∀ h', IsEnum h' (s.heap.objs.size + 1) s.heap.objs.size 0 .none → h'.IsTupleIter s.heap.objs.size l 0 → h'.objs.size = s.heap.objs.size + 2 →
      (∀ b o, s.heap.get? b = some o → h'.get? b = some o) → Q (.ref (s.heap.objs.size + 1)) { s with heap := h' }) :
    wpAny (model prog w) A (call (.type "enumerate") [.ref l]) Q E s := by
  obtain ⟨⟨c, dct, dt, sl⟩, hl, hc, n, hd⟩ := hL
  replace hc : c = .type "tuple" := hc
  replace hd : dt = .seq items n := hd
  subst hc hd
  refine callType_new F.called_enumerate (by decide) (F.typeCall_enumerate_1 _) (F.newCall_enumerate_1 _) (fun obj => F.args_object_init_2 obj _) F.entry_enumerate_new
    (meets_enumerate_newT l items n dct sl) ⟨hl, ?_⟩
  have hz : (s.heap.push { cls := .type "tuple_iterator", data := .fields #[.ref l, .int 0 0] }).objs.size = s.heap.objs.size + 1 := Heap.size_push ..
  show _ ∧ _
  rw [hz]
  have he : IsEnum ((s.heap.push { cls := .type "tuple_iterator", data := .fields #[.ref l, .int 0 0] }).push
      { cls := .type "enumerate", data := .fields #[.none, .bool false, .ref s.heap.objs.size, rawInt 0, .none, .none] }) (s.heap.objs.size + 1) s.heap.objs.size 0 .none := by
    have := Heap.get?_push_size (s.heap.push { cls := .type "tuple_iterator", data := .fields #[.ref l, .int 0 0] })
      (o := { cls := .type "enumerate", data := .fields #[.none, .bool false, .ref s.heap.objs.size, rawInt 0, .none, .none] }) rfl
    rw [hz] at this; exact this
  refine ⟨⟨_, he, rfl⟩, h _ he ⟨_, Heap.get?_push_of_some _ (Heap.get?_push_size _ rfl), rfl, rfl⟩ (by rw [Heap.size_push, hz]) fun b o x => Heap.get?_push_of_some _ (Heap.get?_push_of_some _ x)⟩
end
/-- the tuple at a, each item in a new pair -/
def IteT (K : PySem.W.Frag) (a : Addr) : It :=
  ⟨fun i H => ∃ (xs : List V) (x : V), SqT K H a xs ∧ xs[i]? = some x, fun i H v H' => ∃ T x, v = .ref T ∧ H T = none ∧ H' = upd H T (.tup [.int (i : Nat), x]) ∧ ∀ xs, SqT K H a xs → xs[i]? = some x, fun i H => ∃ xs : List V, SqT K H a xs ∧ xs.length ≤ i⟩
theorem turn_enumT {P : Program} {w : World} {K : PySem.W.Frag} {elts : List Expr} {kk : Nat} {tpos : Pos} (a e it : Addr) :
    Turn P w K (.Tuple elts kk tpos) (IteT K a) [e, it] e (fun i h => (∃ old, IsEnum h e it ((i : Nat) : Int) old) ∧ h.IsTupleIter it a i ∧ e ≠ it ∧ a ≠ it ∧ a ≠ e) where
  mem := by simp
  obj := fun i h st b hb => by
    obtain ⟨⟨old, he⟩, ⟨o, ho, hc, hd⟩, _⟩ := st
    have e' : b = e ∨ b = it := by simpa using hb
    rcases e' with z | z
    · rw [z]; exact ⟨_, he, fun v q => nomatch q⟩
    · rw [z]; exact ⟨o, ho, fun v q => by rw [hd] at q; cases q⟩
  keep := fun i h h' st k => let ⟨⟨old, he⟩, hi, hne⟩ := st; ⟨⟨old, k e (by simp) _ he⟩, hi.at fun o q => k it (by simp) o q, hne⟩
  item := by
    intro X hP hw hK hc i pins s σ H E I hf st hg
    subst hP hw hK
    obtain ⟨⟨old, he⟩, hit, hne, hai, hae⟩ := st
    obtain ⟨xs, x, hq, hx⟩ := hg
    obtain ⟨its, rv, p, hz⟩ := I.tuple hq
    obtain ⟨u, hu, ru⟩ := rv.get hx
    have hel : e < s.heap.objs.size := Heap.lt_size he
    have hil : it < s.heap.objs.size := by obtain ⟨_, q, _⟩ := hit; exact Heap.lt_size q
    have hlt : i < its.toArray.size := by rw [List.size_toArray]; exact (List.getElem?_eq_some_iff.mp hu).1
    refine wpAny_pyNext_enum_itemD (draws_tuple (A := X.A.in1) (show X.A.in1.handled = none from I.ok.hd hc) it a hai its.toArray) he ⟨hit, p⟩ hlt hne (by simp only [List.mem_cons, List.not_mem_nil, or_false, not_or]; exact ⟨hne, fun z => hae z.symm⟩) fun u' h' tk hP ho hst hT hsz hk => ?_
    have hu' : u' = u := by
      have : its.toArray[i]? = some u' := hP
      rw [List.getElem?_toArray, hu] at this
      exact (Option.some.inj this).symm
    subst hu'
    refine ⟨_, rfl, wpAny_letOwnedTupleGo_enum (s := { s with heap := h', toks := tk + 1 }) ho fun h'' he' sb => ?_⟩
    have hT2 : h''.get? s.heap.objs.size = some { cls := .type "tuple", data := .seq #[.int i tk, u'] } := (sb.2 _ (Nat.ne_of_gt hel)).trans hT
    have new : ObjOk X.prog X.w (upd H s.heap.objs.size (.tup [.int (i : Nat), x])) h'' s.heap.objs.size (.tup [.int (i : Nat), x]) :=
      ⟨by show 2 ≤ sizeLine; decide, [.int i tk, u'], .cons ⟨_, rfl⟩ (.cons ru .nil), ⟨_, hT2, rfl, _, rfl⟩⟩
    have I1 : Inv X pins σ (upd H s.heap.objs.size (.tup [.int (i : Nat), x])) { s with heap := h'', toks := tk + 1 } :=
      I.turnedNew (ch := [e, it]) (fun b ob hb q => (sb.2 b (fun z => hb (by simp [z]))).trans (hk b ob (fun z => hb (by simp [z])) (fun z => hb (by simp [z])) q)) hf (Nat.le_refl _) new
    refine ⟨.ref s.heap.objs.size, _, I1, rfl, ⟨_, x, rfl, I.hok.fresh (Nat.le_refl _), rfl, fun ys hy => ?_⟩, ⟨⟨u', ?_⟩, hst.1.at fun o q => (sb.2 it (Ne.symm hne)).trans q, hne, hai, hae⟩, fun b hb => ?_⟩
    · rw [I.tuple_inj hy hq]; exact hx
    · have e1 : ((i + 1 : Nat) : Int) = (i : Int) + 1 := by omega
      rw [e1]; exact he'
    · have hb' : b < s.heap.objs.size := by
        have e' : b = e ∨ b = it := by simpa using hb
        rcases e' with z | z
        · rw [z]; exact hel
        · rw [z]; exact hil
      rw [upd_ne (Nat.ne_of_lt hb')]
      exact (hf b hb).1
  done := by
    intro X hP hw hK hc i pins s σ H E I hf st hg
    subst hP hw hK
    obtain ⟨⟨old, he⟩, hit, hne, hai, hae⟩ := st
    obtain ⟨xs, hq, hx⟩ := hg
    obtain ⟨its, rv, p, hz⟩ := I.tuple hq
    obtain ⟨f0, f1, f2, f3, f4, f5⟩ := hf it (by simp)
    have hT : s.TypeIs (.ref e) "enumerate" := ⟨_, he, rfl⟩
    unfold pyNext
    refine wpAny_bind (wpAny_attempt (wpAny_callSpecial?_slot (name := Str.ofString "__next__") hT F.slot_enumerate_next
      (wpAny_call_entry F.slot_enumerate_next hT F.entry_enumerate_next ?_ (F.args_enumerate_next_1 _))))
    show wpAny _ _ (field (.ref e) 2 >>= _) _ _ _
    refine wpAny_bind (wpAny_field he rfl (x := .ref it) rfl ?_)
    refine wpAny_bind (RZ.nextOf_tuple_end (I.ok.hd hc) hit p (by rw [List.getElem?_toArray]; exact List.getElem?_eq_none (by rw [← rv.length]; exact hx)) fun h' x he' hx' => ?_)
    obtain ⟨o, ho, hc⟩ := hx'
    refine wpAny_bind (wpAny_isInstance (T := "StopIteration") (b := true) ⟨o, ho, hc⟩ isSubtype_stop ?_)
    exact wpAny_pure ⟨rfl, I.turned (t' := s.toks) (fun b o hb q => he' b o hb q) f0 f1 f3 f4 f5⟩
  self := fun A i s Q E st h => let ⟨⟨_, he⟩, _⟩ := st; wpAny_pyIter_enum he h
def iEnumT (K : PySem.W.Frag) (ta : TA) : TI := fun σ H R => ta σ H fun vs H1 => ∃ a xs, vs = [.ref a] ∧ SqT K H1 a xs ∧ R (IteT K a) H1
theorem pi_enumT {X : Cx} {e : Expr} {ta : TA} {p pos tpos : Pos} {elts : List Expr} {kk : Nat} (hg : Gl X "enumerate") (hm : X.mg "enumerate" = none) (ha : PA X [e] ta) (hs : starEach [e] X.env = [(false, eval e X.env)]) :
    PI X (.Tuple elts kk tpos) (.Call (.Name "enumerate" p) [e] [] pos) (iEnumT X.K ta) := by
  refine ⟨fun pins s σ H R I h => ?_⟩
  refine Call_ (ld_blt I hg hm boot_enumerate (PyProof.Rows.callWith_type1 (thn (ha.run pos pins s σ H _ I h) fun us s1 ⟨vs, H1, I1, r1, q1⟩ => ?_) hs rfl))
  obtain ⟨a, xs, ex, hq, q⟩ := q1
  subst ex
  cases r1 with
  | cons r rr =>
    cases rr
    cases r
    obtain ⟨its, rv, p', hz⟩ := I1.tuple hq
    have hal : a < s1.heap.objs.size := p'.lt
    refine call_enumerate_tuple p' fun h' he hit hsz hk => wpAny_pyIter_enum he ?_
    have I2 : Inv X pins σ H1 { s1 with heap := h' } := I1.kept (t' := s1.toks) hk
    refine ⟨s1.heap.objs.size + 1, [s1.heap.objs.size + 1, s1.heap.objs.size], _, _, H1, rfl, I2, turn_enumT a (s1.heap.objs.size + 1) s1.heap.objs.size, ⟨⟨.none, he⟩, hit, Nat.succ_ne_self _, Nat.ne_of_lt hal, Nat.ne_of_lt (Nat.lt_succ_of_lt hal)⟩, fun b hb => ?_, q⟩
    have e' : b = s1.heap.objs.size + 1 ∨ b = s1.heap.objs.size := by simpa using hb
    have hle : s1.heap.objs.size ≤ b := by
      rcases e' with z | z
      · rw [z]; exact Nat.le_add_right _ _
      · rw [z]; exact Nat.le_refl _
    exact I1.fpOk hle (I1.hok.fresh hle)
theorem PI.or {X : Cx} {tg iter : Expr} {a b : TI} (h : PI X tg iter a) (h' : PI X tg iter b) : PI X tg iter (fun σ H R => a σ H R ∨ b σ H R) := ⟨fun pins s σ H R I q => by
  rcases q with q | q
  · exact h.run pins s σ H R I q
  · exact h'.run pins s σ H R I q⟩
theorem PI.imp {X : Cx} {tg iter : Expr} {a b : TI} (h : PI X tg iter a) (i : ∀ σ H R, b σ H R → a σ H R) : PI X tg iter b := ⟨fun pins s σ H R I q => h.run pins s σ H R I (i σ H R q)⟩
end Pv

/-! Pv13: expressions, construct by construct. -/
namespace Pv
open PySem L2 PyProof.Rows

section
variable {X : Cx} {T : Tb} {W : WX} {r r1 : Ev} {k : Nat}
theorem pe_false {e : Expr} {t : TE} (h : ∀ σ H Q, ¬ t σ H Q) : PE X e t := ⟨fun _ _ σ H Q _ q => absurd q (h σ H Q)⟩
theorem rdG_E {e : Expr} {ce : E} (h : PE X e (rdG X.K T W r ce)) : PE X e (rdE X.K T W r ce) := PE.imp h fun _ _ _ q => rdE_G q
theorem rdF_G {e : Expr} {ce : E} (h : PE X e (rdF X.K T W r ce)) : PE X e (rdG X.K T W r ce) := by
  unfold rdG
  split
  · exact h
  · exact PE.imp h fun _ _ _ q => rdE_F q
theorem rdE_to_G {e : Expr} {ce : E} (hf : freshE ce = false) (h : PE X e (rdE X.K T W r ce)) : PE X e (rdG X.K T W r ce) := by
  unfold rdG
  rw [hf]
  exact h

variable (h1 : ∀ x ρ A, r1.e x ρ A = stepE r x ρ A)
include h1
theorem s_const {e : Expr} {d : D} {v : V} (hv : cV d = some v) (h : PE X e (tC v)) : PE X e (rdE X.K T W r1 (.c d)) := by
  refine PE.imp h fun σ H Q q => ?_
  obtain ⟨g, ρ, A, rA, rS, q⟩ := q
  rw [h1] at q
  exact Out.same q rA (cV_rep hv)
theorem s_global {e : Expr} {d : D} {v : V} (hv : ∀ g H, RepD X.K g H d v) (h : PE X e (tC v)) : PE X e (rdE X.K T W r1 (.c d)) := by
  refine PE.imp h fun σ H Q q => ?_
  obtain ⟨g, ρ, A, rA, rS, q⟩ := q
  rw [h1] at q
  exact Out.same q rA (hv g H)
theorem s_var {x : Str} {i : Nat} {pos : Pos} (h : PE X (.Name x pos) (tVar i)) : PE X (.Name x pos) (rdE X.K T W r1 (.v i)) := by
  refine PE.imp h fun σ H Q q => ?_
  obtain ⟨g, ρ, A, rA, rS, q⟩ := q
  rw [h1] at q
  unfold stepE at q
  simp only at q
  split at q
  · rename_i e
    split at e
    · rename_i d he
      cases e
      obtain ⟨v, hv, rv⟩ := rS.2 i _ he
      exact ⟨v, hv, Out.same q rA rv⟩
    · cases e
  · rename_i e
    split at e <;> cases e
  · exact q.elim
theorem s_bin {a b : Expr} {ca cb : E} {op : Operator} {pos : Pos} (ha : PE X a (rdE X.K T W r ca)) (hb : PE X b (rdE X.K T W r cb)) : PE X (.BinOp a op b pos) (rdF X.K T W r1 (.bin op ca cb)) := by
  refine PE.imp (pe_op (op_bin op) ha hb) fun σ H Q h => ?_
  obtain ⟨g, ρ, A, rA, rS, h⟩ := h
  rw [h1] at h
  simp only [stepE, ev2] at h
  refine ⟨g, ρ, A, rA, rS, ?_⟩
  cases e1 : r.e ca ρ A with
  | bad => rw [e1] at h; exact h
  | ex x A1 => rw [e1] at h; exact h
  | ok x A1 =>
    simp only [e1] at h
    intro g1 v1 H1 p1 rA1 rd1
    refine ⟨g1, ρ, A1, rA1, rS.keeps (rA.keeps p1), ?_⟩
    cases e2 : r.e cb ρ A1 with
    | bad => rw [e2] at h; exact h
    | ex x A2 => rw [e2] at h; exact XOut.after h p1
    | ok y A2 =>
      simp only [e2] at h
      intro g2 v2 H2 p2 rA2 rd2
      try simp only [ofO] at h
      cases e3 : binD A2 op x y with
      | none => rw [e3] at h; exact h.elim
      | some d => rw [e3] at h; exact ⟨g2, A2, x, y, d, rA2, rd1.keeps (rA1.keeps p2), rd2, e3, FOut.after h (p1.trans p2)⟩
theorem s_cmp (c : Ctx X k) {a b : Expr} {ca cb : E} {op : CmpOp} {pos : Pos} (hm : behindInMarks op b = false) (ha : PE X a (rdE X.K T W r ca)) (hb : PE X b (rdE X.K T W r cb)) : PE X (.Compare a [op] [b] pos) (rdE X.K T W r1 (.cmp op ca cb)) := by
  refine PE.imp (pe_cmpR (op_cmp c op) ha hb hm) fun σ H Q h => ?_
  obtain ⟨g, ρ, A, rA, rS, h⟩ := h
  rw [h1] at h
  simp only [stepE, ev2] at h
  refine ⟨g, ρ, A, rA, rS, ?_⟩
  cases e1 : r.e ca ρ A with
  | bad => rw [e1] at h; exact h
  | ex x A1 => rw [e1] at h; exact h
  | ok x A1 =>
    simp only [e1] at h
    intro g1 v1 H1 p1 rA1 rd1
    refine ⟨g1, ρ, A1, rA1, rS.keeps (rA.keeps p1), ?_⟩
    cases e2 : r.e cb ρ A1 with
    | bad => rw [e2] at h; exact h
    | ex x A2 => rw [e2] at h; exact XOut.after h p1
    | ok y A2 =>
      simp only [e2] at h
      intro g2 v2 H2 p2 rA2 rd2
      try simp only at h
      cases e3 : cmpD A2 op x y with
      | none => rw [e3] at h; exact h.elim
      | some d => rw [e3] at h; exact ⟨g2, A2, x, y, d, rA2, rd1.keeps (rA1.keeps p2), rd2, e3, Out.same (Out.after h (p1.trans p2)) rA2 (.bl d)⟩
theorem t_cmp (c : Ctx X k) {a b : Expr} {ca cb : E} {op : CmpOp} {pos : Pos} (hm : behindInMarks op b = false) (ha : PE X a (rdE X.K T W r ca)) (hb : PE X b (rdE X.K T W r cb)) : PT X (.Compare a [op] [b] pos) (rdT X.K T W r1 (.cmp op ca cb)) := by
  refine PT.imp (pt_cmpR (op_cmp c op) ha hb hm) fun σ H Q h => ?_
  obtain ⟨g, ρ, A, rA, rS, h⟩ := h
  rw [h1] at h
  simp only [stepE, ev2] at h
  refine ⟨g, ρ, A, rA, rS, ?_⟩
  cases e1 : r.e ca ρ A with
  | bad => rw [e1] at h; exact h
  | ex x A1 => rw [e1] at h; exact h
  | ok x A1 =>
    simp only [e1] at h
    intro g1 v1 H1 p1 rA1 rd1
    refine ⟨g1, ρ, A1, rA1, rS.keeps (rA.keeps p1), ?_⟩
    cases e2 : r.e cb ρ A1 with
    | bad => rw [e2] at h; exact h
    | ex x A2 => rw [e2] at h; exact XOut.after h p1
    | ok y A2 =>
      simp only [e2] at h
      intro g2 v2 H2 p2 rA2 rd2
      try simp only at h
      cases e3 : cmpD A2 op x y with
      | none => rw [e3] at h; exact h.elim
      | some d => rw [e3] at h; exact ⟨g2, A2, x, y, d, rA2, rd1.keeps (rA1.keeps p2), rd2, e3, d, rfl, h g2 H2 (p1.trans p2) rA2⟩
theorem s_neg {a : Expr} {ca : E} {pos : Pos} (ha : PE X a (rdE X.K T W r ca)) : PE X (.UnaryOp .USub a pos) (rdE X.K T W r1 (.neg ca)) := by
  refine PE.imp (pe_un un_neg ha) fun σ H Q h => ?_
  obtain ⟨g, ρ, A, rA, rS, h⟩ := h
  rw [h1] at h
  simp only [stepE] at h
  refine ⟨g, ρ, A, rA, rS, ?_⟩
  cases e1 : r.e ca ρ A with
  | bad => rw [e1] at h; exact h
  | ex x A1 => rw [e1] at h; exact h
  | ok x A1 =>
    simp only [e1] at h
    intro g1 v1 H1 p1 rA1 rd1
    cases x with
    | int i =>
      simp only [forceI_eq] at h
      cases rd1
      exact ⟨_, rfl, Out.same (Out.after h p1) rA1 (.int _)⟩
    | _ => exact h.elim
theorem s_not {a : Expr} {ca : E} {pos : Pos} (ha : PE X a (rdE X.K T W r ca)) : PE X (.UnaryOp .Not a pos) (rdE X.K T W r1 (.not ca)) := by
  refine PE.imp (pe_notT ha) fun σ H Q h => ?_
  obtain ⟨g, ρ, A, rA, rS, h⟩ := h
  rw [h1] at h
  simp only [stepE] at h
  refine ⟨g, ρ, A, rA, rS, ?_⟩
  cases e1 : r.e ca ρ A with
  | bad => rw [e1] at h; exact h
  | ex x A1 => rw [e1] at h; exact h
  | ok x A1 =>
    simp only [e1] at h
    intro g1 v1 H1 p1 rA1 rd1
    try simp only at h
    cases e2 : truth A1 x with
    | none => rw [e2] at h; exact h.elim
    | some b => rw [e2] at h; exact ⟨b, truth_at rA1 rd1 e2, Out.same (Out.after h p1) rA1 (.bl _)⟩
theorem t_not {a : Expr} {ca : E} {pos : Pos} (ha : PT X a (rdT X.K T W r ca)) : PT X (.UnaryOp .Not a pos) (rdT X.K T W r1 (.not ca)) := by
  refine PT.imp (pt_not ha) fun σ H Q h => ?_
  obtain ⟨g, ρ, A, rA, rS, h⟩ := h
  rw [h1] at h
  simp only [stepE] at h
  refine ⟨g, ρ, A, rA, rS, ?_⟩
  cases e1 : r.e ca ρ A with
  | bad => rw [e1] at h; exact h
  | ex x A1 => rw [e1] at h; exact h
  | ok x A1 =>
    simp only [e1] at h
    try simp only at h ⊢
    cases e2 : truth A1 x with
    | none => rw [e2] at h; exact h.elim
    | some b => rw [e2] at h; exact h
/-! a test by the truth of its value -/
omit h1 in
theorem t_val {a : Expr} {ca : E} (he : ∀ whole, isTrue a X.env whole = (do let v ← whole; standAt a.pos; holding [v] (truthy v))) (ha : PE X a (rdE X.K T W r ca)) : PT X a (rdT X.K T W r ca) := by
  refine PT.imp (pt_truth ha he) fun σ H Q h => ?_
  obtain ⟨g, ρ, A, rA, rS, h⟩ := h
  refine ⟨g, ρ, A, rA, rS, ?_⟩
  cases e1 : r.e ca ρ A with
  | bad => rw [e1] at h; exact h
  | ex x A1 => rw [e1] at h; exact h
  | ok x A1 =>
    simp only [e1] at h
    intro g1 v1 H1 p1 rA1 rd1
    try simp only at h
    cases e2 : truth A1 x with
    | none => rw [e2] at h; exact h.elim
    | some b => rw [e2] at h; exact ⟨b, truth_at rA1 rd1 e2, h g1 H1 p1 rA1⟩
theorem s_and {a b : Expr} {ca cb : E} {rest : List Expr} {pos : Pos} (ha : PE X a (rdE X.K T W r ca)) (hb : PE X (.BoolOp .And (b :: rest) pos) (rdE X.K T W r cb)) : PE X (.BoolOp .And (a :: b :: rest) pos) (rdE X.K T W r1 (.and ca cb)) := by
  refine PE.imp (pe_and ha hb) fun σ H Q h => ?_
  obtain ⟨g, ρ, A, rA, rS, h⟩ := h
  rw [h1] at h
  simp only [stepE] at h
  refine ⟨g, ρ, A, rA, rS, ?_⟩
  cases e1 : r.e ca ρ A with
  | bad => rw [e1] at h; exact h
  | ex x A1 => rw [e1] at h; exact h
  | ok x A1 =>
    simp only [e1] at h
    intro g1 v1 H1 p1 rA1 rd1
    cases x with
    | bl z =>
      cases rd1
      refine ⟨z, rfl, ?_⟩
      cases z with
      | true =>
        try simp only at h ⊢
        refine ⟨g1, ρ, A1, rA1, rS.keeps (rA.keeps p1), ?_⟩
        cases e2 : r.e cb ρ A1 with
        | bad => rw [e2] at h; exact h
        | ex x A2 => rw [e2] at h; exact XOut.after h p1
        | ok y A2 => rw [e2] at h; exact Out.after h p1
      | false => exact Out.same (Out.after h p1) rA1 (.bl _)
    | _ => exact h.elim
theorem s_or {a b : Expr} {ca cb : E} {rest : List Expr} {pos : Pos} (ha : PE X a (rdE X.K T W r ca)) (hb : PE X (.BoolOp .Or (b :: rest) pos) (rdE X.K T W r cb)) : PE X (.BoolOp .Or (a :: b :: rest) pos) (rdE X.K T W r1 (.or ca cb)) := by
  refine PE.imp (pe_or ha hb) fun σ H Q h => ?_
  obtain ⟨g, ρ, A, rA, rS, h⟩ := h
  rw [h1] at h
  simp only [stepE] at h
  refine ⟨g, ρ, A, rA, rS, ?_⟩
  cases e1 : r.e ca ρ A with
  | bad => rw [e1] at h; exact h
  | ex x A1 => rw [e1] at h; exact h
  | ok x A1 =>
    simp only [e1] at h
    intro g1 v1 H1 p1 rA1 rd1
    cases x with
    | bl z =>
      cases rd1
      refine ⟨z, rfl, ?_⟩
      cases z with
      | false =>
        try simp only at h ⊢
        refine ⟨g1, ρ, A1, rA1, rS.keeps (rA.keeps p1), ?_⟩
        cases e2 : r.e cb ρ A1 with
        | bad => rw [e2] at h; exact h
        | ex x A2 => rw [e2] at h; exact XOut.after h p1
        | ok y A2 => rw [e2] at h; exact Out.after h p1
      | true => exact Out.same (Out.after h p1) rA1 (.bl _)
    | _ => exact h.elim
theorem w_and {a b : Expr} {ca cb : E} {rest : List Expr} {pos : Pos} (ha : PT X a (rdT X.K T W r ca)) (hb : PW X (.BoolOp .And (b :: rest) pos) (rdT X.K T W r cb)) : PW X (.BoolOp .And (a :: b :: rest) pos) (rdT X.K T W r1 (.and ca cb)) := by
  refine PW.imp (pw_and ha hb) fun σ H Q h => ?_
  obtain ⟨g, ρ, A, rA, rS, h⟩ := h
  rw [h1] at h
  simp only [stepE] at h
  refine ⟨g, ρ, A, rA, rS, ?_⟩
  cases e1 : r.e ca ρ A with
  | bad => rw [e1] at h; exact h
  | ex x A1 => rw [e1] at h; exact h
  | ok x A1 =>
    simp only [e1] at h
    cases x with
    | bl z =>
      simp only [truth]
      intro g1 H1 p1 rA1
      cases z with
      | true =>
        try simp only at h ⊢
        refine ⟨g1, ρ, A1, rA1, rS.keeps (rA.keeps p1), ?_⟩
        cases e2 : r.e cb ρ A1 with
        | bad => rw [e2] at h; exact h
        | ex x A2 => rw [e2] at h; exact XOut.after h p1
        | ok y A2 =>
          simp only [e2] at h
          try simp only at h ⊢
          cases e3 : truth A2 y with
          | none => rw [e3] at h; exact h
          | some b => rw [e3] at h; exact OutB.after h p1
      | false => exact h g1 H1 p1 rA1
    | _ => exact h.elim
theorem w_or {a b : Expr} {ca cb : E} {rest : List Expr} {pos : Pos} (ha : PT X a (rdT X.K T W r ca)) (hb : PW X (.BoolOp .Or (b :: rest) pos) (rdT X.K T W r cb)) : PW X (.BoolOp .Or (a :: b :: rest) pos) (rdT X.K T W r1 (.or ca cb)) := by
  refine PW.imp (pw_or ha hb) fun σ H Q h => ?_
  obtain ⟨g, ρ, A, rA, rS, h⟩ := h
  rw [h1] at h
  simp only [stepE] at h
  refine ⟨g, ρ, A, rA, rS, ?_⟩
  cases e1 : r.e ca ρ A with
  | bad => rw [e1] at h; exact h
  | ex x A1 => rw [e1] at h; exact h
  | ok x A1 =>
    simp only [e1] at h
    cases x with
    | bl z =>
      simp only [truth]
      intro g1 H1 p1 rA1
      cases z with
      | false =>
        try simp only at h ⊢
        refine ⟨g1, ρ, A1, rA1, rS.keeps (rA.keeps p1), ?_⟩
        cases e2 : r.e cb ρ A1 with
        | bad => rw [e2] at h; exact h
        | ex x A2 => rw [e2] at h; exact XOut.after h p1
        | ok y A2 =>
          simp only [e2] at h
          try simp only at h ⊢
          cases e3 : truth A2 y with
          | none => rw [e3] at h; exact h
          | some b => rw [e3] at h; exact OutB.after h p1
      | true => exact h g1 H1 p1 rA1
    | _ => exact h.elim
theorem s_ite {c a b : Expr} {cc ca cb : E} {pos : Pos} (hc : PT X c (rdT X.K T W r cc)) (ha : PE X a (rdE X.K T W r ca)) (hb : PE X b (rdE X.K T W r cb)) : PE X (.IfExp c a b pos) (rdE X.K T W r1 (.ite cc ca cb)) := by
  refine PE.imp (pe_ifExp hc ha hb) fun σ H Q h => ?_
  obtain ⟨g, ρ, A, rA, rS, h⟩ := h
  rw [h1] at h
  simp only [stepE] at h
  refine ⟨g, ρ, A, rA, rS, ?_⟩
  cases e1 : r.e cc ρ A with
  | bad => rw [e1] at h; exact h
  | ex x A1 => rw [e1] at h; exact h
  | ok x A1 =>
    simp only [e1] at h
    try simp only at h ⊢
    cases e2 : truth A1 x with
    | none => rw [e2] at h; exact h
    | some z =>
      rw [e2] at h
      intro g1 H1 p1 rA1
      cases z with
      | true =>
        try simp only at h
        refine ⟨g1, ρ, A1, rA1, rS.keeps (rA.keeps p1), ?_⟩
        cases e2 : r.e ca ρ A1 with
        | bad => rw [e2] at h; exact h
        | ex x A2 => rw [e2] at h; exact XOut.after h p1
        | ok y A2 => rw [e2] at h; exact Out.after h p1
      | false =>
        try simp only at h
        refine ⟨g1, ρ, A1, rA1, rS.keeps (rA.keeps p1), ?_⟩
        cases e2 : r.e cb ρ A1 with
        | bad => rw [e2] at h; exact h
        | ex x A2 => rw [e2] at h; exact XOut.after h p1
        | ok y A2 => rw [e2] at h; exact Out.after h p1
end
end Pv

/-! Pv14: the store; more expressions. -/
namespace Pv
open PySem L2 PyProof.Rows

theorem get_nil {α : Type} (n : Nat) : (Tr.nil : Tr α).get n = none := rfl
theorem get_zero {α : Type} (l r : Tr α) (v : Option α) : (Tr.node l v r).get 0 = v := rfl
theorem get_even {α : Type} (l r : Tr α) (v : Option α) (m : Nat) (h : m % 2 = 0) : (Tr.node l v r).get (m + 1) = l.get (m / 2) := by
  show (match m % 2 with | 0 => l.get (m / 2) | _ => r.get (m / 2)) = _
  rw [h] <;> rfl
theorem get_odd {α : Type} (l r : Tr α) (v : Option α) (m : Nat) (h : m % 2 = 1) : (Tr.node l v r).get (m + 1) = r.get (m / 2) := by
  show (match m % 2 with | 0 => l.get (m / 2) | _ => r.get (m / 2)) = _
  rw [h] <;> rfl
def Tr.l {α : Type} : Tr α → Tr α
  | .nil => .nil
  | .node l _ _ => l
def Tr.v {α : Type} : Tr α → Option α
  | .nil => none
  | .node _ v _ => v
def Tr.r {α : Type} : Tr α → Tr α
  | .nil => .nil
  | .node _ _ r => r
theorem get_parts {α : Type} (t : Tr α) (m : Nat) : t.get m = (Tr.node t.l t.v t.r).get m := by
  cases t with
  | nil =>
    cases m with
    | zero => rfl
    | succ m =>
      rcases Nat.mod_two_eq_zero_or_one m with h | h
      · rw [get_even _ _ _ _ h]; rfl
      · rw [get_odd _ _ _ _ h]; rfl
  | node l v r => rfl
theorem ins_zero {α : Type} (x : α) (f : Nat) (t : Tr α) : Tr.ins x (f + 1) t 0 = .node t.l (some x) t.r := by cases t <;> rfl
theorem ins_even {α : Type} (x : α) (f : Nat) (t : Tr α) (m : Nat) (h : m % 2 = 0) : Tr.ins x (f + 1) t (m + 1) = .node (Tr.ins x f t.l (m / 2)) t.v t.r := by
  cases t <;> (simp only [Tr.ins, h]; rfl)
theorem ins_odd {α : Type} (x : α) (f : Nat) (t : Tr α) (m : Nat) (h : m % 2 = 1) : Tr.ins x (f + 1) t (m + 1) = .node t.l t.v (Tr.ins x f t.r (m / 2)) := by
  cases t <;> (simp only [Tr.ins, h]; rfl)
theorem get_ins {α : Type} (x : α) : ∀ (f : Nat) (t : Tr α) (n m : Nat), n + 1 < 2 ^ f → (Tr.ins x f t n).get m = if m = n then some x else t.get m
  | 0, t, n, m, h => by simp at h
  | f + 1, t, 0, m, h => by
    rw [ins_zero]
    cases m with
    | zero => rfl
    | succ m =>
      rw [if_neg (by omega), get_parts t]
      rcases Nat.mod_two_eq_zero_or_one m with hm | hm
      · rw [get_even _ _ _ _ hm, get_even _ _ _ _ hm]
      · rw [get_odd _ _ _ _ hm, get_odd _ _ _ _ hm]
  | f + 1, t, n + 1, m, h => by
    have hp : n / 2 + 1 < 2 ^ f := by
      have : 2 ^ (f + 1) = 2 * 2 ^ f := by rw [Nat.pow_succ]; omega
      omega
    rw [get_parts t]
    rcases Nat.mod_two_eq_zero_or_one n with hn | hn
    · rw [ins_even _ _ _ _ hn]
      cases m with
      | zero => rw [if_neg (by omega)]; rfl
      | succ m =>
        rcases Nat.mod_two_eq_zero_or_one m with hm | hm
        · rw [get_even _ _ _ _ hm, get_even _ _ _ _ hm, get_ins x f t.l (n / 2) (m / 2) hp]
          by_cases e : m = n
          · subst e; rw [if_pos rfl, if_pos rfl]
          · rw [if_neg (by omega), if_neg (by omega)]
        · rw [get_odd _ _ _ _ hm, get_odd _ _ _ _ hm, if_neg (show ¬ m + 1 = n + 1 by omega)]
    · rw [ins_odd _ _ _ _ hn]
      cases m with
      | zero => rw [if_neg (by omega)]; rfl
      | succ m =>
        rcases Nat.mod_two_eq_zero_or_one m with hm | hm
        · rw [get_even _ _ _ _ hm, get_even _ _ _ _ hm, if_neg (show ¬ m + 1 = n + 1 by omega)]
        · rw [get_odd _ _ _ _ hm, get_odd _ _ _ _ hm, get_ins x f t.r (n / 2) (m / 2) hp]
          by_cases e : m = n
          · subst e; rw [if_pos rfl, if_pos rfl]
          · rw [if_neg (by omega), if_neg (by omega)]
theorem sto_put {A : Sto} {i j : Nat} {o : O} (h : i + 1 < 2 ^ 60) : (A.put i o).get j = if j = i then some o else A.get j := get_ins o 60 A.tr i j h
theorem sto_push {A : Sto} {j : Nat} {o : O} (h : A.size + 1 < 2 ^ 60) : (A.push o).get j = if j = A.size then some o else A.get j := get_ins o 60 A.tr A.size j h

section
variable {K : PySem.W.Frag} {g : Gh} {A : Sto} {H : Hp}
theorem nodup_get {φ : List Addr} (nd : φ.Nodup) {i j : Nat} {a : Addr} (h1 : φ[i]? = some a) (h2 : φ[j]? = some a) : i = j := by
  obtain ⟨l1, e1⟩ := List.getElem?_eq_some_iff.mp h1
  obtain ⟨l2, e2⟩ := List.getElem?_eq_some_iff.mp h2
  exact (List.getElem_inj nd).mp (e1.trans e2.symm)
/-- a cell gets a new object -/
theorem RelA.put {i : Nat} {a : Addr} {ds : List D} {vs : List V} (r : RelA K g A H) (hi : g.φ[i]? = some a) (rl : RepL K g H ds vs) : RelA K g (A.put i (.lst ds)) (upd H a (.lst vs)) := by
  have hil : i < A.size := by rw [← r.len]; exact (List.getElem?_eq_some_iff.mp hi).1
  have h60 : i + 1 < 2 ^ 60 := by have := r.sz; omega
  have ha : a ∈ g.φ := List.mem_of_getElem? hi
  have kp : Keeps K g H g (upd H a (.lst vs)) := ⟨fun _ h => h, fun _ _ e => e, fun b o f e => by
    rw [upd_ne fun z => r.disj b f (by rw [z]; exact ha)]; exact e⟩
  refine ⟨r.len, r.nd, r.disj, fun b h => ?_, fun b h => ?_, fun j o e => ?_, r.sz⟩
  · by_cases hb : b = a
    · subst hb; exact ⟨_, upd_same⟩
    · rw [upd_ne hb]; exact r.trk b h
  · rw [upd_ne fun z => r.disj b h (by rw [z]; exact ha)]
    exact r.trF b h
  · rw [sto_put h60] at e
    split at e
    · rename_i hj
      cases e
      subst hj
      exact ⟨a, hi, vs, upd_same, rl.keeps kp⟩
    · rename_i hj
      obtain ⟨b, e1, e2⟩ := r.cel j o e
      refine ⟨b, e1, ?_⟩
      have hb : b ≠ a := fun z => hj (nodup_get r.nd e1 (by rw [z]; exact hi))
      cases o with
      | lst es =>
        obtain ⟨us, u1, u2⟩ := e2
        exact ⟨us, by rw [upd_ne hb]; exact u1, u2.keeps kp⟩
theorem Post.put {i : Nat} {a : Addr} {o : HO} (hi : g.φ[i]? = some a) : Post g H g (upd H a o) :=
  ⟨⟨[], by simp⟩, fun _ h => h, fun _ h => .inl h, fun _ h => .inl h, fun b u e n => by rw [upd_ne fun z => n (by rw [z]; exact List.mem_of_getElem? hi)]; exact e, fun b u e => by
    by_cases hb : b = a
    · subst hb; exact ⟨_, upd_same⟩
    · exact ⟨u, by rw [upd_ne hb]; exact e⟩⟩
/-- a list that nobody knows gets a cell -/
def Gh.cell (g : Gh) (p : Addr) : Gh := ⟨g.F, g.φ ++ [p]⟩
theorem RelA.cell {p : Addr} {ds : List D} {vs : List V} (r : RelA K g A H) (np : p ∉ g.φ) (nf : ¬ g.F p) (hp : H p = some (.lst vs)) (rl : RepL K g H ds vs) (hz : A.size + 1 < 2 ^ 60) : RelA K (g.cell p) (A.push (.lst ds)) H := by
  have kp : Keeps K g H (g.cell p) H := ⟨fun _ h => h, fun i a e => by
    show (g.φ ++ [p])[i]? = some a
    rw [List.getElem?_append_left (List.getElem?_eq_some_iff.mp e).1]; exact e, fun _ _ _ e => e⟩
  refine ⟨?_, ?_, fun a h hm => ?_, fun a h => ?_, r.trF, fun j o e => ?_, ?_⟩
  · show (g.φ ++ [p]).length = A.size + 1
    rw [List.length_append, r.len]; rfl
  · show (g.φ ++ [p]).Nodup
    refine List.nodup_append.mpr ⟨r.nd, by simp, fun x hx y hy e => ?_⟩
    have : y = p := by simpa using hy
    subst this; subst e
    exact np hx
  · rcases List.mem_append.mp (show a ∈ g.φ ++ [p] from hm) with z | z
    · exact r.disj a h z
    · have : a = p := by simpa using z
      subst this; exact nf h
  · rcases List.mem_append.mp (show a ∈ g.φ ++ [p] from h) with z | z
    · exact r.trk a z
    · have : a = p := by simpa using z
      subst this; exact ⟨_, hp⟩
  · rw [sto_push hz] at e
    split at e
    · rename_i hj
      cases e
      refine ⟨p, ?_, vs, hp, rl.keeps kp⟩
      show (g.φ ++ [p])[j]? = some p
      rw [hj, ← r.len]; simp
    · obtain ⟨b, e1, e2⟩ := r.cel j o e
      refine ⟨b, kp.pre _ _ e1, ?_⟩
      cases o with
      | lst es =>
        obtain ⟨us, u1, u2⟩ := e2
        exact ⟨us, u1, u2.keeps kp⟩
  · show A.size + 1 < 2 ^ 60
    omega
theorem Post.cell {p : Addr} {g0 : Gh} {H0 : Hp} (po : Post g0 H0 g H) (hp : H0 p = none) : Post g0 H0 (g.cell p) H := by
  obtain ⟨ψ, e⟩ := po.pre
  refine ⟨⟨ψ ++ [p], ?_⟩, po.inF, fun a h => ?_, po.newF, po.frm, po.trk⟩
  · show g.φ ++ [p] = _
    rw [e, List.append_assoc]
  · rcases List.mem_append.mp (show a ∈ g.φ ++ [p] from h) with z | z
    · exact po.newφ a z
    · have : a = p := by simpa using z
      subst this; exact .inr hp
end
end Pv

/-! Pv15: more expressions. -/
namespace Pv
open PySem L2 PyProof.Rows

section
variable {X : Cx} {T : Tb} {W : WX} {r r1 : Ev} {k : Nat}
section
variable (h1 : ∀ x ρ A, r1.e x ρ A = stepE r x ρ A)
include h1
theorem s_cell {e : Expr} {ce : E} (he : PE X e (rdF X.K T W r ce)) : PE X e (rdE X.K T W r1 (.cell ce)) := by
  refine PE.imp he fun σ H Q h => ?_
  obtain ⟨g, ρ, A, rA, rS, h⟩ := h
  rw [h1] at h
  simp only [stepE] at h
  refine ⟨g, ρ, A, rA, rS, ?_⟩
  cases e1 : r.e ce ρ A with
  | bad => rw [e1] at h; exact h
  | ex x A1 => rw [e1] at h; exact h
  | ok x A1 =>
    rw [e1] at h
    cases x with
    | lst xs =>
      simp only at h
      split at h
      · rename_i he
        split at he
        · rename_i hz
          cases he
          intro g' p vs H' po r' hp np nf e rl
          refine h (g'.cell p) _ H' (po.cell hp) (r'.cell np nf e rl hz) (.loc ?_)
          show (g'.φ ++ [p])[A1.size]? = some p
          rw [← r'.len]; simp
        · cases he
      · rename_i he
        split at he <;> cases he
      · exact h.elim
    | _ => exact h
theorem s_idx {a b : Expr} {ca cb : E} {pos : Pos} (hs : PlainIx b) (ha : PE X a (rdE X.K T W r ca)) (hb : PE X b (rdE X.K T W r cb)) : PE X (.Subscript a b pos) (rdE X.K T W r1 (.idx ca cb)) := by
  refine PE.imp (pe_ix ix_all ha hb hs) fun σ H Q h => ?_
  obtain ⟨g, ρ, A, rA, rS, h⟩ := h
  rw [h1] at h
  simp only [stepE, ev2] at h
  refine ⟨g, ρ, A, rA, rS, ?_⟩
  cases e1 : r.e ca ρ A with
  | bad => rw [e1] at h; exact h
  | ex x A1 => rw [e1] at h; exact h
  | ok x A1 =>
    simp only [e1] at h
    intro g1 v1 H1 p1 rA1 rd1
    refine ⟨g1, ρ, A1, rA1, rS.keeps (rA.keeps p1), ?_⟩
    cases e2 : r.e cb ρ A1 with
    | bad => rw [e2] at h; exact h
    | ex x A2 => rw [e2] at h; exact XOut.after h p1
    | ok y A2 =>
      simp only [e2] at h
      intro g2 v2 H2 p2 rA2 rd2
      simp only [ofO] at h
      cases e3 : idxD A2 x y with
      | none => rw [e3] at h; exact h.elim
      | some d => rw [e3] at h; exact ⟨g2, A2, x, y, d, rA2, rd1.keeps (rA1.keeps p2), rd2, e3, Out.after h (p1.trans p2)⟩
omit h1 in
/-- a slice's part -/
def rdO (K : PySem.W.Frag) (T : Tb) (W : WX) (r : Ev) (e : Option E) : TO := fun σ H Q => ∃ g ρ A, RelA K g A H ∧ RepS K g H ρ σ ∧ (match evO r ρ e A with
  | .ok o A' => ∀ g' H', Post g H g' H' → RelA K g' A' H' → Q o H'
  | .ex x A' => XOut K T g A' H x (fun c d H' => W c d σ H')
  | .bad => False)
omit h1 in
theorem PO.imp {e : Option Expr} {t t' : TO} (h : PO X e t) (i : ∀ σ H Q, t' σ H Q → t σ H Q) : PO X e t' := ⟨fun pins s σ H Q I q => h.run pins s σ H Q I (i σ H Q q)⟩
omit h1 in
theorem o_none : PO X none (rdO X.K T W r none) := PO.imp po_none fun σ H Q h => by
  obtain ⟨g, ρ, A, rA, rS, h⟩ := h
  exact h g H (Post.refl g H) rA
omit h1 in
theorem o_some {e : Expr} {ce : E} (he : PE X e (rdE X.K T W r ce)) : PO X (some e) (rdO X.K T W r (some ce)) := PO.imp (po_some he) fun σ H Q h => by
  obtain ⟨g, ρ, A, rA, rS, h⟩ := h
  simp only [evO] at h
  refine ⟨g, ρ, A, rA, rS, ?_⟩
  cases e1 : r.e ce ρ A with
  | bad => rw [e1] at h; exact h
  | ex x A1 => rw [e1] at h; exact h
  | ok x A1 =>
    rw [e1] at h
    intro g1 v1 H1 p1 rA1 rd1
    cases x with
    | int i => cases rd1; exact ⟨i, rfl, h g1 H1 p1 rA1⟩
    | _ => exact h.elim
theorem s_slc {a : Expr} {ca : E} {lo hi : Option Expr} {cl ch : Option E} {p2 pos : Pos} (ha : PE X a (rdE X.K T W r ca)) (hl : PO X lo (rdO X.K T W r cl)) (hh : PO X hi (rdO X.K T W r ch)) :
    PE X (.Subscript a (.Slice lo hi none p2) pos) (rdF X.K T W r1 (.slc ca cl ch)) := by
  refine PE.imp (pe_slice sl_all ha hl hh) fun σ H Q h => ?_
  obtain ⟨g, ρ, A, rA, rS, h⟩ := h
  rw [h1] at h
  simp only [stepE] at h
  refine ⟨g, ρ, A, rA, rS, ?_⟩
  cases e1 : r.e ca ρ A with
  | bad => rw [e1] at h; exact h
  | ex x A1 => rw [e1] at h; exact h
  | ok x A1 =>
    simp only [e1] at h
    intro g1 v1 H1 p1 rA1 rd1
    refine ⟨g1, ρ, A1, rA1, rS.keeps (rA.keeps p1), ?_⟩
    cases e2 : evO r ρ cl A1 with
    | bad => rw [e2] at h; exact h
    | ex x A2 => rw [e2] at h; exact XOut.after h p1
    | ok l A2 =>
      simp only [e2] at h
      intro g2 H2 p2 rA2
      refine ⟨g2, ρ, A2, rA2, (rS.keeps (rA.keeps p1)).keeps (rA1.keeps p2), ?_⟩
      cases e3 : evO r ρ ch A2 with
      | bad => rw [e3] at h; exact h
      | ex x A3 => rw [e3] at h; exact XOut.after h (p1.trans p2)
      | ok u A3 =>
        simp only [e3] at h
        intro g3 H3 p3 rA3
        simp only [ofO] at h
        cases e4 : slcD A3 x l u with
        | none => rw [e4] at h; exact h.elim
        | some d => rw [e4] at h; exact ⟨g3, A3, x, d, rA3, (rd1.keeps (rA1.keeps p2)).keeps (rA2.keeps p3), e4, FOut.after h ((p1.trans p2).trans p3)⟩
theorem s_rev {a : Expr} {ca : E} {kk : Nat} {q1 q2 q3 pos : Pos} (ha : PE X a (rdE X.K T W r ca)) : PE X (.Subscript a (.Slice none none (some (.UnaryOp .USub (.Constant (.int 1) kk q1) q2)) q3) pos) (rdF X.K T W r1 (.rev ca)) := by
  refine PE.imp (pe_revL ha) fun σ H Q h => ?_
  obtain ⟨g, ρ, A, rA, rS, h⟩ := h
  rw [h1] at h
  simp only [stepE] at h
  refine ⟨g, ρ, A, rA, rS, ?_⟩
  cases e1 : r.e ca ρ A with
  | bad => rw [e1] at h; exact h
  | ex x A1 => rw [e1] at h; exact h
  | ok x A1 =>
    simp only [e1, ofO, revD] at h
    intro g1 v1 H1 p1 rA1 rd1
    cases e2 : lstOf A1 x with
    | none => rw [e2] at h; exact h.elim
    | some xs =>
      rw [e2] at h
      obtain ⟨a, vs, rfl, s, l⟩ := lst_at rA1 rd1 e2
      have h : NewL X.K g A1 H xs.reverse Q := h
      exact ⟨a, vs, rfl, SqL.of s, fun p hp => (h.after p1).lst rA1 l.reverse hp⟩
end

/-! ### lists of expressions -/
theorem a_nil : PA X [] (rdA X.K T W r []) := PA.imp pa_nil fun σ H Q h => by
  obtain ⟨g, ρ, A, rA, rS, h⟩ := h
  exact h g [] H (Post.refl g H) rA .nil
theorem a_cons {e : Expr} {es : List Expr} {ce : E} {ces : List E} (hs : isStar e = false) (he : PE X e (rdE X.K T W r ce)) (hes : PA X es (rdA X.K T W r ces)) : PA X (e :: es) (rdA X.K T W r (ce :: ces)) :=
  PA.imp (pa_cons he hes (star_cons hs)) fun σ H Q h => by
    obtain ⟨g, ρ, A, rA, rS, h⟩ := h
    simp only [evEs] at h
    refine ⟨g, ρ, A, rA, rS, ?_⟩
    cases e1 : r.e ce ρ A with
    | bad => rw [e1] at h; exact h
    | ex x A1 => rw [e1] at h; exact h
    | ok x A1 =>
      simp only [e1] at h
      intro g1 v1 H1 p1 rA1 rd1
      refine ⟨g1, ρ, A1, rA1, rS.keeps (rA.keeps p1), ?_⟩
      cases e2 : evEs r ρ ces A1 with
      | bad => rw [e2] at h; exact h
      | ex x A2 => rw [e2] at h; exact XOut.after h p1
      | ok ys A2 =>
        simp only [e2] at h
        intro g2 vs H2 p2 rA2 rl
        exact h g2 (v1 :: vs) H2 (p1.trans p2) rA2 (.cons (rd1.keeps (rA1.keeps p2)) rl)
theorem k_nil : PK X [] (rdA X.K T W r []) := PK.imp pk_nil fun σ H Q h => by
  obtain ⟨g, ρ, A, rA, rS, h⟩ := h
  exact h g [] H (Post.refl g H) rA .nil
theorem k_cons {nm : Option Str} {p : Pos} {e : Expr} {es : List Keyword} {ce : E} {ces : List E} (he : PE X e (rdE X.K T W r ce)) (hes : PK X es (rdA X.K T W r ces)) : PK X (⟨nm, e, p⟩ :: es) (rdA X.K T W r (ce :: ces)) :=
  PK.imp (pk_cons he hes) fun σ H Q h => by
    obtain ⟨g, ρ, A, rA, rS, h⟩ := h
    simp only [evEs] at h
    refine ⟨g, ρ, A, rA, rS, ?_⟩
    cases e1 : r.e ce ρ A with
    | bad => rw [e1] at h; exact h
    | ex x A1 => rw [e1] at h; exact h
    | ok x A1 =>
      simp only [e1] at h
      intro g1 v1 H1 p1 rA1 rd1
      refine ⟨g1, ρ, A1, rA1, rS.keeps (rA.keeps p1), ?_⟩
      cases e2 : evEs r ρ ces A1 with
      | bad => rw [e2] at h; exact h
      | ex x A2 => rw [e2] at h; exact XOut.after h p1
      | ok ys A2 =>
        simp only [e2] at h
        intro g2 vs H2 p2 rA2 rl
        exact h g2 (v1 :: vs) H2 (p1.trans p2) rA2 (.cons (rd1.keeps (rA1.keeps p2)) rl)
/-- the items of a display -/
def rdAr (K : PySem.W.Frag) (T : Tb) (W : WX) (r : Ev) (es : List Ar) : TA := fun σ H Q => ∃ g ρ A, RelA K g A H ∧ RepS K g H ρ σ ∧ (match evAr r ρ es A with
  | .ok ds A' => OutL K g A' H ds Q
  | .ex x A' => XOut K T g A' H x (fun c d H' => W c d σ H')
  | .bad => False)
theorem d_nil : PA X [] (rdAr X.K T W r []) := PA.imp pa_nil fun σ H Q h => by
  obtain ⟨g, ρ, A, rA, rS, h⟩ := h
  exact h g [] H (Post.refl g H) rA .nil
theorem d_one {e : Expr} {es : List Expr} {ce : E} {ces : List Ar} (hs : isStar e = false) (he : PE X e (rdE X.K T W r ce)) (hes : PA X es (rdAr X.K T W r ces)) : PA X (e :: es) (rdAr X.K T W r (.one ce :: ces)) :=
  PA.imp (pa_cons he hes (star_cons hs)) fun σ H Q h => by
    obtain ⟨g, ρ, A, rA, rS, h⟩ := h
    simp only [evAr] at h
    refine ⟨g, ρ, A, rA, rS, ?_⟩
    cases e1 : r.e ce ρ A with
    | bad => rw [e1] at h; exact h
    | ex x A1 => rw [e1] at h; exact h
    | ok x A1 =>
      simp only [e1] at h
      intro g1 v1 H1 p1 rA1 rd1
      refine ⟨g1, ρ, A1, rA1, rS.keeps (rA.keeps p1), ?_⟩
      cases e2 : evAr r ρ ces A1 with
      | bad => rw [e2] at h; exact h
      | ex x A2 => rw [e2] at h; exact XOut.after h p1
      | ok ys A2 =>
        simp only [e2] at h
        intro g2 vs H2 p2 rA2 rl
        exact h g2 (v1 :: vs) H2 (p1.trans p2) rA2 (.cons (rd1.keeps (rA1.keeps p2)) rl)
end
end Pv

/-! Pv16: displays, calls, methods, chains. -/
namespace Pv
open PySem L2 PyProof.Rows

section
variable {X : Cx} {T : Tb} {W : WX} {r r1 : Ev} {k : Nat}
theorem d_all {e : Expr} {es : List Expr} {p : Pos} {ce : E} {ces : List Ar} (he : PE X e (rdE X.K T W r ce)) (hes : PA X es (rdAr X.K T W r ces)) : PA X (.Starred e p :: es) (rdAr X.K T W r (.all ce :: ces)) :=
  PA.imp (StX.pa_star he hes rfl) fun σ H Q h => by
    obtain ⟨g, ρ, A, rA, rS, h⟩ := h
    simp only [evAr] at h
    refine ⟨g, ρ, A, rA, rS, ?_⟩
    cases e1 : r.e ce ρ A with
    | bad => rw [e1] at h; exact h
    | ex x A1 => rw [e1] at h; exact h
    | ok x A1 =>
      simp only [e1] at h
      intro g1 v1 H1 p1 rA1 rd1
      cases e3 : seqOf A1 x with
      | none => rw [e3] at h; exact h.elim
      | some xs =>
        simp only [e3] at h
        obtain ⟨a, us, rfl, sq, l⟩ := seq_at rA1 rd1 e3
        refine ⟨a, us, rfl, ?_, g1, ρ, A1, rA1, rS.keeps (rA.keeps p1), ?_⟩
        · rcases sq with sq | sq
          · exact .inr (SqL.of sq)
          · exact .inl sq
        cases e2 : evAr r ρ ces A1 with
        | bad => rw [e2] at h; exact h
        | ex x A2 => rw [e2] at h; exact XOut.after h p1
        | ok ys A2 =>
          simp only [e2] at h
          intro g2 vs H2 p2 rA2 rl
          exact h g2 (us ++ vs) H2 (p1.trans p2) rA2 ((l.keeps (rA1.keeps p2)).append rl)
section
variable (h1 : ∀ x ρ A, r1.e x ρ A = stepE r x ρ A)
include h1
theorem s_tup {es : List Expr} {ces : List Ar} {x1 : Nat} {pos : Pos} (ha : PA X es (rdAr X.K T W r ces)) : PE X (.Tuple es x1 pos) (rdE X.K T W r1 (.tup ces)) := by
  refine PE.imp (pe_tup ha) fun σ H Q h => ?_
  obtain ⟨g, ρ, A, rA, rS, h⟩ := h
  rw [h1] at h
  simp only [stepE] at h
  refine ⟨g, ρ, A, rA, rS, ?_⟩
  cases e1 : evAr r ρ ces A with
  | bad => rw [e1] at h; exact h
  | ex x A1 => rw [e1] at h; exact h
  | ok xs A1 =>
    simp only [e1] at h
    split at h
    · rename_i he
      split at he
      · rename_i hz
        cases he
        intro g1 vs H1 p1 rA1 rl
        exact ⟨by rw [← rl.length]; exact hz, fun p hp => (Out.after h p1).tup rA1 rl hp⟩
      · cases he
    · rename_i he
      split at he <;> cases he
    · exact h.elim
theorem s_lst {es : List Expr} {ces : List Ar} {pos : Pos} (ha : PA X es (rdAr X.K T W r ces)) : PE X (.List es pos) (rdF X.K T W r1 (.lst ces)) := by
  refine PE.imp (pe_lst ha) fun σ H Q h => ?_
  obtain ⟨g, ρ, A, rA, rS, h⟩ := h
  rw [h1] at h
  simp only [stepE] at h
  refine ⟨g, ρ, A, rA, rS, ?_⟩
  cases e1 : evAr r ρ ces A with
  | bad => rw [e1] at h; exact h
  | ex x A1 => rw [e1] at h; exact h
  | ok xs A1 =>
    simp only [e1] at h
    split at h
    · rename_i he
      split at he
      · rename_i hz
        cases he
        intro g1 vs H1 p1 rA1 rl
        have h : NewL X.K g A1 H xs Q := h
        exact ⟨by rw [← rl.length]; exact hz, fun p hp => (h.after p1).lst rA1 rl hp⟩
      · cases he
    · rename_i he
      split at he <;> cases he
    · exact h.elim
/-- a built-in is called -/
theorem s_bi (c : Ctx X k) {x : Str} {f : Bi} {p pos : Pos} {es : List Expr} {ces : List E} (hg : Gl X x) (hm : X.mg x = none) (hv : bootBuiltins x = some f.val) (hst : es.any isStar = false) (hn : x ≠ "__name__") (hdb : (x == ("__debug__" : Str)) = false)
    (hl : es.length = ces.length) (ha : PA X es (rdA X.K T W r ces)) : PE X (.Call (.Name x p) es [] pos) (rdF X.K T W r1 (.bi f ces)) := by
  cases es with
  | nil =>
    refine pe_false fun σ H Q h => ?_
    obtain ⟨g, ρ, A, rA, rS, h⟩ := h
    rw [h1] at h
    cases ces with
    | nil =>
      simp only [stepE, evEs, ofO] at h
      cases f <;> exact h
    | cons => simp at hl
  | cons e es =>
    rw [List.any_cons, Bool.or_eq_false_iff] at hst
    have key : PE X (.Call (.Name x p) (e :: es) [] pos) (tCB (rBi X.K f) (rdA X.K T W r ces)) := by
      have cb := call_bi (X := X) c f
      cases f <;> first
        | exact pe_callB cb hg hm hv ha hn hdb (star_cons hst.1) (star_any hst.2)
        | exact pe_callTy cb hg hm hv ha hn hdb (star_cons hst.1) (star_any hst.2)
    refine PE.imp key fun σ H Q h => ?_
    obtain ⟨g, ρ, A, rA, rS, h⟩ := h
    rw [h1] at h
    simp only [stepE] at h
    refine ⟨g, ρ, A, rA, rS, ?_⟩
    cases e1 : evEs r ρ ces A with
    | bad => rw [e1] at h; exact h
    | ex x A1 => rw [e1] at h; exact h
    | ok ds A1 =>
      simp only [e1, ofO] at h
      intro g1 vs H1 p1 rA1 rl
      cases e2 : biD f A1 ds with
      | none => rw [e2] at h; exact h.elim
      | some d => rw [e2] at h; exact ⟨g1, A1, ds, d, rA1, rl, e2, FOut.after h p1⟩
omit h1 in
theorem evEs_append {ρ : Env} : ∀ (xs ys : List E) (A : Sto), evEs r ρ (xs ++ ys) A = (match evEs r ρ xs A with
    | .ok ds A1 => (match evEs r ρ ys A1 with
      | .ok es A2 => .ok (ds ++ es) A2
      | .ex q A2 => .ex q A2
      | .bad => .bad)
    | .ex q A1 => .ex q A1
    | .bad => .bad)
  | [], ys, A => by
    simp only [List.nil_append, evEs]
    cases evEs r ρ ys A <;> rfl
  | x :: xs, ys, A => by
    simp only [List.cons_append, evEs]
    cases r.e x ρ A with
    | bad => rfl
    | ex q A1 => rfl
    | ok d A1 =>
      simp only [evEs_append xs ys A1]
      cases evEs r ρ xs A1 with
      | bad => rfl
      | ex q A2 => rfl
      | ok ds A2 =>
        simp only
        cases evEs r ρ ys A2 <;> rfl
omit h1 in
theorem evEs_len {ρ : Env} : ∀ (xs : List E) (A A' : Sto) (ds : List D), evEs r ρ xs A = .ok ds A' → ds.length = xs.length
  | [], A, A', ds, h => by simp only [evEs] at h; cases h; rfl
  | x :: xs, A, A', ds, h => by
    simp only [evEs] at h
    split at h
    · split at h
      · rename_i ys A2 h2
        cases h
        simp [evEs_len xs _ _ _ h2]
      · cases h
      · cases h
    · cases h
    · cases h
/-- a def of the program is called -/
theorem s_call (c : Ctx X k) {x : Str} {s : Sig} {fd : FuncData} {p pos : Pos} {es : List Expr} {kws : List Keyword} {ks : List Str} {ces cks : List E} {bs : List Bd}
    (F : FnG X.prog X.w X.K X.mg X.base k (T.fa s.k) fd s.ps (spF X.K T s.ps.length r s.k)) (S : SigOk X.K fd s) (hg : Gl X x) (hm : X.mg x = some (.ref (T.fa s.k))) (hk : PySem.W.keepIn X.K (.ref (T.fa s.k)) = true) (tk : Takes X W)
    (hst : es.any isStar = false) (hkn : kwNames kws = some ks) (hko : kwOk es.length s.ps ks = true) (hb : srcs es.length ks 0 s.ps s.ds = some bs) (hdb : (x == ("__debug__" : Str)) = false)
    (hl : es.length = ces.length) (hl2 : ks.length = cks.length) (ha : PA X es (rdA X.K T W r ces)) (hkw : PK X kws (rdA X.K T W r cks)) : PE X (.Call (.Name x p) es kws pos) (rdE X.K T W r1 (.call s.k (ces ++ cks) bs)) := by
  obtain ⟨hB, hcv⟩ := bindG_of S hko hb
  refine PE.imp (pe_callG F c.hr c.hg hg hm hk hB tk hst hkn ha hkw hdb) fun σ H Q h => ?_
  obtain ⟨g, ρ, A, rA, rS, h⟩ := h
  rw [h1] at h
  simp only [stepE, evEs_append] at h
  refine ⟨g, ρ, A, rA, rS, ?_⟩
  cases e1 : evEs r ρ ces A with
  | bad => rw [e1] at h; exact h
  | ex x A1 => rw [e1] at h; exact h
  | ok ds A1 =>
    simp only [e1] at h
    intro g1 vs H1 p1 rA1 rl
    refine ⟨by rw [← rl.length, evEs_len _ _ _ _ e1, hl], g1, ρ, A1, rA1, rS.keeps (rA.keeps p1), ?_⟩
    cases e2 : evEs r ρ cks A1 with
    | bad => rw [e2] at h; exact h
    | ex x A2 => rw [e2] at h; exact XOut.after h p1
    | ok es' A2 =>
      simp only [e2] at h
      intro g2 zs H2 p2 rA2 rl2
      refine ⟨by rw [← rl2.length, evEs_len _ _ _ _ e2, hl2], ?_⟩
      have rall : RepL X.K g2 H2 (ds ++ es') (vs ++ zs) := (rl.keeps (rA1.keeps p2)).append rl2
      cases e3 : bindArgs (ds ++ es') bs with
      | none => rw [e3] at h; exact h.elim
      | some ws =>
        simp only [e3] at h
        obtain ⟨out, o1, o2⟩ := bindV_rep rall hcv e3
        refine ⟨out, o1, g2, ws, A2, rA2, o2, ?_, ?_⟩
        · rw [o2.length, bindV_len _ _ o1]
          exact (srcs_at hb).1
        · cases e4 : r.f s.k ws A2 with
          | bad => rw [e4] at h; exact h
          | ex x A3 => rw [e4] at h; exact XOut.after h (p1.trans p2)
          | ok d A3 => rw [e4] at h; exact Out.after h (p1.trans p2)
/-- xs.append(e) -/
theorem s_append {y : Str} {yp apos cpos : Pos} {e : Expr} {co ce : E} (hs : isStar e = false) (hp : (apos.endLine == cpos.line) = true) (ho : PE X (.Name y yp) (rdE X.K T W r co)) (he : PE X e (rdE X.K T W r ce)) :
    PE X (.Call (.Attribute (.Name y yp) "append" apos) [e] [] cpos) (rdE X.K T W r1 (.mt .append co [ce])) := by
  have hb : ((((backTo cpos (starEach [e] X.env)).all fun x => !x.fst) && (backToKw cpos (keywordEach [] X.env)).all fun x => x.fst.isSome) && decide (([e].length + ([] : List Keyword).length + if ([] : List Keyword).isEmpty = true then 0 else 1) < 30)) = true := by
    rw [star_cons hs]; rfl
  refine PE.imp (pe_bm PySem.F.plainAttrs_list PySem.F.slot_list_append PySem.F.type_list_append mt_append ho (a_cons hs he a_nil) rfl hb hp (star_cons hs) rfl) fun σ H Q h => ?_
  obtain ⟨g, ρ, A, rA, rS, h⟩ := h
  rw [h1] at h
  simp only [stepE] at h
  refine ⟨g, ρ, A, rA, rS, ?_⟩
  cases e1 : r.e co ρ A with
  | bad => rw [e1] at h; exact h
  | ex x A1 => rw [e1] at h; exact h
  | ok x A1 =>
    simp only [e1] at h
    intro g1 v1 H1 p1 rA1 rd1
    have rS1 := rS.keeps (rA.keeps p1)
    cases e0 : mtOk .append A1 x with
    | false => rw [e0] at h; exact h.elim
    | true =>
      simp only [e0, if_true] at h
      obtain ⟨xs, e00⟩ := Option.isSome_iff_exists.mp (show (lstOf A1 x).isSome = true from e0)
      obtain ⟨a, us, rfl, sq, l⟩ := lst_at rA1 rd1 e00
      refine ⟨.inl ⟨rfl, us, SqL.of sq⟩, g1, ρ, A1, rA1, rS1, ?_⟩
      cases e2 : evEs r ρ [ce] A1 with
      | bad => rw [e2] at h; exact h
      | ex q A2 => rw [e2] at h; exact XOut.after h p1
      | ok ds A2 =>
        simp only [e2] at h
        intro g2 vs H2 p2 rA2 rl
        have hdl := evEs_len _ _ _ _ e2
        obtain ⟨dy, rfl⟩ : ∃ dy, ds = [dy] := by
          cases ds with
          | nil => simp at hdl
          | cons dy t => cases t with
            | nil => exact ⟨dy, rfl⟩
            | cons => simp at hdl
        obtain ⟨y', rfl, ry⟩ := rl.one
        have rdx := rd1.keeps (rA1.keeps p2)
        cases x with
        | loc i =>
          simp only [mtD] at h
          cases rdx with
          | loc hi =>
            cases e3 : A2.get i with
            | none => rw [e3] at h; exact h.elim
            | some o =>
              cases o with
              | lst ys =>
                simp only [e3] at h
                split at h
                · rename_i he
                  split at he
                  · rename_i hz
                    cases he
                    obtain ⟨a', ea, us', hus, lus⟩ := rA2.cel i _ e3
                    rw [hi] at ea
                    cases ea
                    have lnew := lus.append (.cons ry .nil)
                    exact ⟨a, us', y', rfl, rfl, hus, by rw [← lus.length]; exact hz, h g2 .non _ ((p1.trans p2).trans (Post.put hi)) (rA2.put hi lnew) .non⟩
                  · cases he
                · rename_i he
                  split at he <;> cases he
                · exact h.elim
        | _ => exact h.elim
end
end
end Pv

/-! Pv17: walks and targets. -/
namespace Pv
open PySem L2 PyProof.Rows

section
variable (K : PySem.W.Frag)
/-- the rest of a list that stands at a | of a tuple -/
def SL (it : Itr) (t : Nat) (a : Addr) (g : Gh) (H : Hp) : Prop := (∃ ds vs, it = .seq (ds.drop t) ∧ g.F a ∧ H a = some (.lst vs) ∧ RepL K g H ds vs) ∨ (∃ i, it = .cell i t ∧ g.φ[i]? = some a)
def SU (it : Itr) (t : Nat) (a : Addr) (g : Gh) (H : Hp) : Prop := ∃ ds vs, it = .seq (ds.drop t) ∧ ((g.F a ∧ H a = some (.tup vs)) ∨ KTup K a vs) ∧ RepL K g H ds vs
def ItIs (it : Itr) (J : It) (t : Nat) (g : Gh) (H : Hp) : Prop :=
  (∃ a, J = Itl K a ∧ SL K it t a g H) ∨ (∃ a, J = Itt K a ∧ SU K it t a g H) ∨ (∃ lo n, J = L2.Itr lo n ∧ it = .rng (lo + t) (n - t)) ∨
  (∃ a i', J = Ite K a ∧ it = .enum t i' ∧ SL K i' t a g H) ∨ (∃ a i', J = IteT K a ∧ it = .enum t i' ∧ SU K i' t a g H) ∨
  (∃ a b i' j', J = Itz K a b ∧ it = .zip i' j' ∧ SL K i' t a g H ∧ SL K j' t b g H) ∨ (∃ a b i' j', J = RZ.ItzT K a b ∧ it = .zip i' j' ∧ SU K i' t a g H ∧ SU K j' t b g H)
end
section
variable {K : PySem.W.Frag} {it : Itr} {J : It} {t : Nat} {a : Addr} {g g' : Gh} {H H' : Hp} {A : Sto}
theorem SL.keeps (h : SL K it t a g H) (k : Keeps K g H g' H') : SL K it t a g' H' := by
  rcases h with ⟨ds, vs, e, f, s, l⟩ | ⟨i, e, hi⟩
  · exact .inl ⟨ds, vs, e, k.inF _ f, k.frm _ _ f s, l.keeps k⟩
  · exact .inr ⟨i, e, k.pre _ _ hi⟩
theorem SU.keeps (h : SU K it t a g H) (k : Keeps K g H g' H') : SU K it t a g' H' := by
  obtain ⟨ds, vs, e, s, l⟩ := h
  refine ⟨ds, vs, e, ?_, l.keeps k⟩
  rcases s with ⟨f, s⟩ | s
  · exact .inl ⟨k.inF _ f, k.frm _ _ f s⟩
  · exact .inr s
theorem ItIs.keeps (h : ItIs K it J t g H) (k : Keeps K g H g' H') : ItIs K it J t g' H' := by
  rcases h with ⟨a, e, h⟩ | ⟨a, e, h⟩ | h | ⟨a, i', e, e', h⟩ | ⟨a, i', e, e', h⟩ | ⟨a, b, i', j', e, e', h, h'⟩ | ⟨a, b, i', j', e, e', h, h'⟩
  · exact .inl ⟨a, e, h.keeps k⟩
  · exact .inr (.inl ⟨a, e, h.keeps k⟩)
  · exact .inr (.inr (.inl h))
  · exact .inr (.inr (.inr (.inl ⟨a, i', e, e', h.keeps k⟩)))
  · exact .inr (.inr (.inr (.inr (.inl ⟨a, i', e, e', h.keeps k⟩))))
  · exact .inr (.inr (.inr (.inr (.inr (.inl ⟨a, b, i', j', e, e', h.keeps k, h'.keeps k⟩)))))
  · exact .inr (.inr (.inr (.inr (.inr (.inr ⟨a, b, i', j', e, e', h.keeps k, h'.keeps k⟩)))))
theorem drop_nil {α : Type} {xs : List α} {t : Nat} (h : xs.drop t = []) : xs.length ≤ t := List.drop_eq_nil_iff.mp h
theorem drop_cons {α : Type} {xs r : List α} {t : Nat} {x : α} (h : xs.drop t = x :: r) : xs[t]? = some x ∧ r = xs.drop (t + 1) := by
  have h1 : (xs.drop t)[0]? = some x := by rw [h]; rfl
  rw [List.getElem?_drop, Nat.add_zero] at h1
  refine ⟨h1, ?_⟩
  have h2 : (xs.drop t).drop 1 = r := by rw [h]; rfl
  rw [List.drop_drop] at h2
  exact h2.symm
/-- the next item of a list | a tuple -/
theorem SL.next (h : SL K it t a g H) (r : RelA K g A H) {o : Option (D × Itr)} (e : it.next A = some o) :
    ∃ vs, SqL K H a vs ∧ ((o = none ∧ vs.length ≤ t) ∨ ∃ x it' v, o = some (x, it') ∧ vs[t]? = some v ∧ RepD K g H x v ∧ SL K it' (t + 1) a g H) := by
  rcases h with ⟨ds, vs, rfl, f, s, l⟩ | ⟨i, rfl, hi⟩
  · refine ⟨vs, SqL.of s, ?_⟩
    cases hd : ds.drop t with
    | nil =>
      rw [hd] at e
      cases e
      exact .inl ⟨rfl, by rw [← l.length]; exact drop_nil hd⟩
    | cons x xs =>
      rw [hd] at e
      cases e
      obtain ⟨h1, h2⟩ := drop_cons hd
      obtain ⟨v, h3, h4⟩ := l.get h1
      exact .inr ⟨x, _, v, rfl, h3, h4, .inl ⟨ds, vs, by rw [h2], f, s, l⟩⟩
  · unfold Itr.next at e
    split at e
    · rename_i xs hx
      obtain ⟨a', ea, vs, hvs, l⟩ := r.cel i _ hx
      rw [hi] at ea
      cases ea
      refine ⟨vs, SqL.of hvs, ?_⟩
      split at e
      · rename_i x hx'
        cases e
        obtain ⟨v, h3, h4⟩ := l.get hx'
        exact .inr ⟨x, _, v, rfl, h3, h4, .inr ⟨i, rfl, hi⟩⟩
      · rename_i hx'
        cases e
        exact .inl ⟨rfl, by rw [← l.length]; exact List.getElem?_eq_none_iff.mp hx'⟩
    · cases e
theorem SU.next (h : SU K it t a g H) {o : Option (D × Itr)} (e : it.next A = some o) :
    ∃ vs, SqT K H a vs ∧ ((o = none ∧ vs.length ≤ t) ∨ ∃ x it' v, o = some (x, it') ∧ vs[t]? = some v ∧ RepD K g H x v ∧ SU K it' (t + 1) a g H) := by
  obtain ⟨ds, vs, rfl, s, l⟩ := h
  have sq : SqT K H a vs := by
    rcases s with ⟨_, s⟩ | s
    · exact SqT.of s
    · exact s.sq
  refine ⟨vs, sq, ?_⟩
  cases hd : ds.drop t with
  | nil =>
    rw [hd] at e
    cases e
    exact .inl ⟨rfl, by rw [← l.length]; exact drop_nil hd⟩
  | cons x xs =>
    rw [hd] at e
    cases e
    obtain ⟨h1, h2⟩ := drop_cons hd
    obtain ⟨v, h3, h4⟩ := l.get h1
    exact .inr ⟨x, _, v, rfl, h3, h4, ds, vs, by rw [h2], s, l⟩
/-- a turn of a walk -/
theorem ItIs.step (h : ItIs K it J t g H) (r : RelA K g A H) {o : Option (D × Itr)} (e : it.next A = some o) :
    (o = none ∧ J.stop t H) ∨ ∃ x it', o = some (x, it') ∧ J.go t H ∧ ∀ v H', J.yld t H v H' → ∃ g', Post g H g' H' ∧ RelA K g' A H' ∧ RepD K g' H' x v ∧ ItIs K it' J (t + 1) g' H' := by
  have pair : ∀ {T : Addr} {dx dy : D} {vx vy : V}, H T = none → RepD K g H dx vx → RepD K g H dy vy → ∃ g', Post g H g' (upd H T (.tup [vx, vy])) ∧ RelA K g' A (upd H T (.tup [vx, vy])) ∧ RepD K g' (upd H T (.tup [vx, vy])) (.tup [dx, dy]) (.ref T) ∧ Keeps K g H g' (upd H T (.tup [vx, vy])) := fun {T dx dy vx vy} hT rx ry => by
    have kp : Keeps K g H (g.frz T) (upd H T (.tup [vx, vy])) := ⟨fun _ h => .inl h, fun _ _ e => e, fun b o _ e => by rw [upd_ne (ne_of_none e hT)]; exact e⟩
    exact ⟨g.frz T, (Post.laid hT).freeze hT, (r.laid hT).freeze (r.notφ hT) upd_same, .tup (.inr rfl) upd_same (.cons (rx.keeps kp) (.cons (ry.keeps kp) .nil)), kp⟩
  rcases h with ⟨a, rfl, h⟩ | ⟨a, rfl, h⟩ | ⟨lo, n, rfl, rfl⟩ | ⟨a, i', rfl, rfl, h⟩ | ⟨a, i', rfl, rfl, h⟩ | ⟨a, b, i', j', rfl, rfl, h, h'⟩ | ⟨a, b, i', j', rfl, rfl, h, h'⟩
  · obtain ⟨vs, sq, c⟩ := h.next r e
    rcases c with ⟨rfl, hl⟩ | ⟨x, it', v, rfl, hv, rv, h2⟩
    · exact .inl ⟨rfl, vs, sq, hl⟩
    · refine .inr ⟨x, it', rfl, ⟨vs, v, sq, hv⟩, fun u H' hy => ?_⟩
      obtain ⟨rfl, hy⟩ := hy
      have := hy vs sq
      rw [hv] at this
      cases this
      exact ⟨g, Post.refl _ _, r, rv, .inl ⟨a, rfl, h2⟩⟩
  · obtain ⟨vs, sq, c⟩ := h.next e
    rcases c with ⟨rfl, hl⟩ | ⟨x, it', v, rfl, hv, rv, h2⟩
    · exact .inl ⟨rfl, vs, sq, hl⟩
    · refine .inr ⟨x, it', rfl, ⟨vs, v, sq, hv⟩, fun u H' hy => ?_⟩
      obtain ⟨rfl, hy⟩ := hy
      have := hy vs sq
      rw [hv] at this
      cases this
      exact ⟨g, Post.refl _ _, r, rv, .inr (.inl ⟨a, rfl, h2⟩)⟩
  · cases hn : n - t with
    | zero =>
      rw [hn] at e
      cases e
      exact .inl ⟨rfl, by show n ≤ t; omega⟩
    | succ m =>
      rw [hn] at e
      cases e
      refine .inr ⟨_, _, rfl, by show t < n; omega, fun u H' hy => ?_⟩
      obtain ⟨rfl, rfl⟩ := hy
      refine ⟨g, Post.refl _ _, r, .int _, .inr (.inr (.inl ⟨lo, n, rfl, ?_⟩))⟩
      have e1 : n - (t + 1) = m := by omega
      have e2 : lo + ((t + 1 : Nat) : Int) = lo + (t : Int) + 1 := by omega
      rw [e1, e2]
  · unfold Itr.next at e
    split at e
    · rename_i x i2 hi
      cases e
      obtain ⟨vs, sq, c⟩ := h.next r hi
      rcases c with ⟨z, hl⟩ | ⟨x', it', v, z, hv, rv, h2⟩
      · cases z
      · cases z
        refine .inr ⟨_, _, rfl, ⟨vs, v, sq, hv⟩, fun u H' hy => ?_⟩
        obtain ⟨T, x2, rfl, hT, rfl, hy⟩ := hy
        have := hy vs sq
        rw [hv] at this
        cases this
        obtain ⟨g', p1, p2, p3, kp⟩ := pair hT (.int (t : Int)) rv
        exact ⟨g', p1, p2, p3, .inr (.inr (.inr (.inl ⟨a, i2, rfl, rfl, h2.keeps kp⟩)))⟩
    · rename_i hi
      cases e
      obtain ⟨vs, sq, c⟩ := h.next r hi
      rcases c with ⟨_, hl⟩ | ⟨x', it', v, z, _⟩
      · exact .inl ⟨rfl, vs, sq, hl⟩
      · cases z
    · cases e
  · unfold Itr.next at e
    split at e
    · rename_i x i2 hi
      cases e
      obtain ⟨vs, sq, c⟩ := h.next hi
      rcases c with ⟨z, hl⟩ | ⟨x', it', v, z, hv, rv, h2⟩
      · cases z
      · cases z
        refine .inr ⟨_, _, rfl, ⟨vs, v, sq, hv⟩, fun u H' hy => ?_⟩
        obtain ⟨T, x2, rfl, hT, rfl, hy⟩ := hy
        have := hy vs sq
        rw [hv] at this
        cases this
        obtain ⟨g', p1, p2, p3, kp⟩ := pair hT (.int (t : Int)) rv
        exact ⟨g', p1, p2, p3, .inr (.inr (.inr (.inr (.inl ⟨a, i2, rfl, rfl, h2.keeps kp⟩))))⟩
    · rename_i hi
      cases e
      obtain ⟨vs, sq, c⟩ := h.next hi
      rcases c with ⟨_, hl⟩ | ⟨x', it', v, z, _⟩
      · exact .inl ⟨rfl, vs, sq, hl⟩
      · cases z
    · cases e
  · unfold Itr.next at e
    split at e
    · rename_i x i2 y j2 hi hj
      cases e
      obtain ⟨vs, sq, c⟩ := h.next r hi
      obtain ⟨us, sq', c'⟩ := h'.next r hj
      rcases c with ⟨z, hl⟩ | ⟨x', it', v, z, hv, rv, h2⟩
      · cases z
      · cases z
        rcases c' with ⟨z, hl⟩ | ⟨y', jt', w, z, hw, rw', h3⟩
        · cases z
        · cases z
          refine .inr ⟨_, _, rfl, ⟨vs, us, v, w, sq, sq', hv, hw⟩, fun u H' hy => ?_⟩
          obtain ⟨T, x2, y2, rfl, hT, rfl, hy, hy'⟩ := hy
          have := hy vs sq
          rw [hv] at this
          cases this
          have := hy' us sq'
          rw [hw] at this
          cases this
          obtain ⟨g', p1, p2, p3, kp⟩ := pair hT rv rw'
          exact ⟨g', p1, p2, p3, .inr (.inr (.inr (.inr (.inr (.inl ⟨a, b, i2, j2, rfl, rfl, h2.keeps kp, h3.keeps kp⟩)))))⟩
    · rename_i o1 o2 hne hi hj
      cases e
      obtain ⟨vs, sq, c⟩ := h.next r hi
      obtain ⟨us, sq', c'⟩ := h'.next r hj
      rcases c with ⟨_, hl⟩ | ⟨x', it', v, z, _⟩
      · exact .inl ⟨rfl, vs, us, sq, sq', .inl hl⟩
      · rcases c' with ⟨_, hl⟩ | ⟨y', jt', w, z', _⟩
        · exact .inl ⟨rfl, vs, us, sq, sq', .inr hl⟩
        · exact (hne _ _ _ _ z z').elim
    · cases e
  · unfold Itr.next at e
    split at e
    · rename_i x i2 y j2 hi hj
      cases e
      obtain ⟨vs, sq, c⟩ := h.next  hi
      obtain ⟨us, sq', c'⟩ := h'.next  hj
      rcases c with ⟨z, hl⟩ | ⟨x', it', v, z, hv, rv, h2⟩
      · cases z
      · cases z
        rcases c' with ⟨z, hl⟩ | ⟨y', jt', w, z, hw, rw', h3⟩
        · cases z
        · cases z
          refine .inr ⟨_, _, rfl, ⟨vs, us, v, w, sq, sq', hv, hw⟩, fun u H' hy => ?_⟩
          obtain ⟨T, x2, y2, rfl, hT, rfl, hy, hy'⟩ := hy
          have := hy vs sq
          rw [hv] at this
          cases this
          have := hy' us sq'
          rw [hw] at this
          cases this
          obtain ⟨g', p1, p2, p3, kp⟩ := pair hT rv rw'
          exact ⟨g', p1, p2, p3, .inr (.inr (.inr (.inr (.inr (.inr ⟨a, b, i2, j2, rfl, rfl, h2.keeps kp, h3.keeps kp⟩)))))⟩
    · rename_i o1 o2 hne hi hj
      cases e
      obtain ⟨vs, sq, c⟩ := h.next  hi
      obtain ⟨us, sq', c'⟩ := h'.next  hj
      rcases c with ⟨_, hl⟩ | ⟨x', it', v, z, _⟩
      · exact .inl ⟨rfl, vs, us, sq, sq', .inl hl⟩
      · rcases c' with ⟨_, hl⟩ | ⟨y', jt', w, z', _⟩
        · exact .inl ⟨rfl, vs, us, sq, sq', .inr hl⟩
        · exact (hne _ _ _ _ z z').elim
    · cases e
end

/-! ### targets -/
/-- the slots outside ixs are as before -/
def SetsIn (ixs : List Nat) (σ σ' : L2.St) : Prop := σ'.length = σ.length ∧ ∀ (i : Nat), i ∉ ixs → σ'[i]? = σ[i]?
theorem SetsIn.refl {ixs : List Nat} (σ : L2.St) : SetsIn ixs σ σ := ⟨rfl, fun _ _ => rfl⟩
theorem SetsIn.trans {a b : List Nat} {σ σ1 σ2 : L2.St} (h : SetsIn a σ σ1) (h' : SetsIn b σ1 σ2) : SetsIn (a ++ b) σ σ2 :=
  ⟨h'.1.trans h.1, fun i hi => (h'.2 i fun z => hi (List.mem_append_right _ z)).trans (h.2 i fun z => hi (List.mem_append_left _ z))⟩
theorem RepS.set {K : PySem.W.Frag} {g : Gh} {H : Hp} {ρ : Env} {σ : L2.St} {i : Nat} {d : D} {v : V} (h : RepS K g H ρ σ) (rd : RepD K g H d v) : RepS K g H (ρ.set i (some d)) (σ.set i (some v)) := by
  refine ⟨by simp [h.1], fun j d' e => ?_⟩
  by_cases hj : i = j
  · subst hj
    by_cases hl : i < ρ.length
    · rw [List.getElem?_set_self hl] at e
      cases e
      exact ⟨v, by rw [List.getElem?_set_self (by rw [← h.1]; exact hl)], rd⟩
    · rw [List.getElem?_eq_none (by simpa using hl)] at e
      cases e
  · rw [List.getElem?_set_ne hj] at e
    obtain ⟨u, h1, h2⟩ := h.2 j d' e
    exact ⟨u, by rw [List.getElem?_set_ne hj]; exact h1, h2⟩
def rdTg (K : PySem.W.Frag) (n : Nat) (tg : Tg) : TG := fun v σ H Q => ∃ g ρ A d, RelA K g A H ∧ RepS K g H ρ σ ∧ RepD K g H d v ∧ (match bindT n tg d ρ with
  | some ρ' => ∀ σ', RepS K g H ρ' σ' → SetsIn (tgIxs tg) σ σ' → Q σ' H
  | none => False)
def rdTgs (K : PySem.W.Frag) (n : Nat) (ts : List Tg) : TGs := fun vs σ H Q => ∃ g ρ A ds, RelA K g A H ∧ RepS K g H ρ σ ∧ RepL K g H ds vs ∧ (match bindL (bindT n) ts ds ρ with
  | some ρ' => ∀ σ', RepS K g H ρ' σ' → SetsIn (tgsIxs ts) σ σ' → Q σ' H
  | none => False)
section
variable {X : Cx}
theorem PG.imp {e : Expr} {t t' : TG} (h : PG X e t) (i : ∀ v σ H Q, t' v σ H Q → t v σ H Q) : PG X e t' := ⟨fun pins s σ H v u Q I rv q => h.run pins s σ H v u Q I rv (i v σ H Q q)⟩
theorem PGs.imp {e : List Expr} {t t' : TGs} (h : PGs X e t) (i : ∀ v σ H Q, t' v σ H Q → t v σ H Q) : PGs X e t' := ⟨fun pins s σ H v u Q I rv q => h.run pins s σ H v u Q I rv (i v σ H Q q)⟩
theorem g_name {n i : Nat} {x : Str} {pos : Pos} (hN : X.N.Nodup) (hi : X.N[i]? = some x) (hx : Loc X.env.scope x) (hf : X.fn x = true ∨ X.env.scope.names.lookup x = some .local) : PG X (.Name x pos) (rdTg X.K (n + 1) (.nm i)) :=
  PG.imp (pg_name hN hi hx hf) fun v σ H Q h => by
    obtain ⟨g, ρ, A, d, rA, rS, rd, h⟩ := h
    refine h _ (rS.set rd) ⟨by simp, fun j hj => ?_⟩
    rw [List.getElem?_set_ne (fun z => hj (by simp [tgIxs, z]))]
theorem g_nil {n : Nat} : PGs X [] (rdTgs X.K n []) := PGs.imp pgs_nil fun v σ H Q h => by
  obtain ⟨g, ρ, A, d, rA, rS, rd, h⟩ := h
  cases rd with
  | nil => exact ⟨rfl, h σ rS (SetsIn.refl σ)⟩
  | cons => exact h.elim
end
end Pv

/-! Pv18: contexts; targets as compiled. -/
namespace Pv
open PySem L2 PyProof.Rows

/-- names of built-ins that the evaluator knows -/
def bltNames : List Str := ["len", "sum", "all", "any", "tuple", "list", "abs", "int", "repr", "isinstance", "str", "min", "max", "sorted", "bool", "dict", "ValueError", "range", "enumerate", "zip"]
/-- the context is the one that was compiled -/
structure CxOk (T : Tb) (X : Cx) (c : Cc) (d : Nat) (W : WX) : Prop where
  ctx : Ctx X d
  N : X.N = c.N
  nd : X.N.Nodup
  sc : X.env.scope = c.sc
  fn1 : ∀ x, c.top = true → X.fn x = true
  fn2 : ∀ x, c.os.names.lookup x = some .cell → X.fn x = true
  fns : ∀ x s, c.fns.lookup x = some s → X.mg x = some (.ref (T.fa s.k)) ∧ PySem.W.keepIn X.K (.ref (T.fa s.k)) = true
  cst : ∀ x dd, c.cst.lookup x = some dd → ∃ u v, X.mg x = some u ∧ RelV v u ∧ ∀ g H, RepD X.K g H dd v
  blt : ∀ x ∈ bltNames, c.fns.lookup x = none → c.cst.lookup x = none → X.mg x = none
  tk : Takes X W
  own : PassesOwn (model X.prog X.w) X.A X.env X.xe
/-- the defs keep their promises at all lesser fuels -/
def FnsAt (P : Prog) (T : Tb) (X : Cx) (fns : List (Str × Sig)) (n d : Nat) : Prop :=
  ∀ x s, fns.lookup x = some s → ∃ fd, SigOk X.K fd s ∧ FnG X.prog X.w X.K X.mg X.base d (T.fa s.k) fd s.ps (spF X.K T s.ps.length (evs P n d) s.k)

theorem ixOf_at {x : Str} : ∀ {N : List Str} {i : Nat}, ixOf x N = some i → N[i]? = some x
  | [], _, h => by cases h
  | y :: N, i, h => by
    unfold ixOf at h
    split at h
    · rename_i e
      cases h
      rw [beq_iff_eq.mp e]; rfl
    · split at h
      · rename_i j hj
        cases h
        simpa using ixOf_at hj
      · cases h
section
variable {T : Tb} {X : Cx} {c : Cc} {d : Nat} {W : WX}
theorem CxOk.at (C : CxOk T X c d W) {x : Str} {i : Nat} (h : ixOf x c.N = some i) : X.N[i]? = some x := by rw [C.N]; exact ixOf_at h
theorem CxOk.vis (C : CxOk T X c d W) {x : Str} (h : isVis c.sc x = true) : Vis X.env.scope x := by
  rw [C.sc]
  unfold isVis at h
  unfold Vis
  split at h
  · rename_i e; exact .inl e
  · rename_i e; exact .inr (.inl e)
  · rename_i e; exact .inr (.inr e)
  · cases h
theorem CxOk.gl (C : CxOk T X c d W) {x : Str} (h : isGl c.sc x = true) : Gl X x := by
  unfold Gl PySem.Env.kindOf
  rw [C.sc]
  unfold isGl at h
  split at h
  · rename_i e; exact e
  · cases h
theorem CxOk.store (C : CxOk T X c d W) {x : Str} (h : okStore c x = true) : L2.Loc X.env.scope x ∧ (X.fn x = true ∨ X.env.scope.names.lookup x = some .local) := by
  rw [C.sc]
  unfold okStore at h
  unfold L2.Loc
  split at h
  · rename_i e; exact ⟨.inl e, .inr e⟩
  · rename_i e
    refine ⟨.inr e, .inl ?_⟩
    rw [Bool.or_eq_true] at h
    rcases h with h | h
    · exact C.fn1 x h
    · split at h
      · rename_i e'; exact C.fn2 x e'
      · cases h
  · cases h
theorem g_cons {n : Nat} {e : Expr} {es : List Expr} {t : Tg} {ts : List Tg} (hs : isStar e = false) (he : PG X e (rdTg X.K n t)) (hes : PGs X es (rdTgs X.K n ts)) : PGs X (e :: es) (rdTgs X.K n (t :: ts)) := by
  have ha : List.map (fun x => x.snd) (assignEach (e :: es) X.env) = assign e X.env :: List.map (fun x => x.snd) (assignEach es X.env) := by
    cases e <;> first | rfl | (simp [isStar] at hs)
  refine PGs.imp (pgs_cons he hes ha) fun vs σ H Q h => ?_
  obtain ⟨g, ρ, A, ds, rA, rS, rl, h⟩ := h
  cases rl with
  | nil => exact h.elim
  | cons rd rl =>
    rename_i d v ds vs
    simp only [bindL] at h
    refine ⟨v, vs, rfl, g, ρ, A, d, rA, rS, rd, ?_⟩
    cases e1 : bindT n t d ρ with
    | none => rw [e1] at h; exact h
    | some ρ1 =>
      simp only [e1] at h
      intro σ1 rS1 st1
      refine ⟨g, ρ1, A, ds, rA, rS1, rl, ?_⟩
      cases e2 : bindL (bindT n) ts ds ρ1 with
      | none => rw [e2] at h; exact h
      | some ρ2 =>
        simp only [e2] at h
        intro σ2 rS2 st2
        exact h σ2 rS2 (st1.trans st2)
theorem assign_len {env : PySem.Env} : ∀ {es : List Expr}, es.any isStar = false → (assignEach es env).length = es.length ∧ List.findIdx? (fun x => x.fst) (assignEach es env) = none
  | [], _ => ⟨rfl, rfl⟩
  | e :: es, h => by
    rw [List.any_cons, Bool.or_eq_false_iff] at h
    have ha : assignEach (e :: es) env = (false, assign e env) :: assignEach es env := by
      cases e <;> first | rfl | (simp [isStar] at h)
    obtain ⟨h1, h2⟩ := assign_len (env := env) h.2
    rw [ha]
    refine ⟨by simp [h1], ?_⟩
    rw [List.findIdx?_cons, h2]
    rfl
theorem g_tup (C : CxOk T X c d W) {n : Nat} {es : List Expr} {ts : List Tg} {k : Nat} {pos : Pos} (hs : es.any isStar = false) (hl : es.length = ts.length) (h : PGs X es (rdTgs X.K n ts)) : PG X (.Tuple es k pos) (rdTg X.K (n + 1) (.tp ts)) := by
  obtain ⟨h1, h2⟩ := assign_len (env := X.env) hs
  refine PG.imp (pg_tup C.ctx.calm h h1 h2) fun v σ H Q h => ?_
  obtain ⟨g, ρ, A, d, rA, rS, rd, h⟩ := h
  simp only [bindT] at h
  cases d with
  | tup xs =>
    obtain ⟨a, vs, rfl, sq, l⟩ := rd.tup'
    refine ⟨a, vs, rfl, sq, ?_, g, ρ, A, xs, rA, rS, l, h⟩
    have : ∀ (ts : List Tg) (xs : List D) (ρ ρ' : Env), bindL (bindT n) ts xs ρ = some ρ' → ts.length = xs.length := by
      intro ts
      induction ts with
      | nil => intro xs ρ ρ' h; cases xs with
        | nil => rfl
        | cons => cases h
      | cons t ts ih => intro xs ρ ρ' h; cases xs with
        | nil => cases h
        | cons x xs =>
          simp only [bindL] at h
          split at h
          · simp [ih xs _ _ h]
          · cases h
    cases e1 : bindL (bindT n) ts xs ρ with
    | none => simp only [e1] at h
    | some ρ' => rw [← l.length, ← this ts xs ρ ρ' e1, hl]
  | _ => exact h.elim
theorem mapO_length {α β : Type} {f : α → Option β} : ∀ {xs : List α} {ys : List β}, mapO f xs = some ys → xs.length = ys.length := fun h => (mapO_get h).1
theorem compTg_star {n : Nat} {e : Expr} {t : Tg} (h : compTg c n e = some t) : isStar e = false := by
  cases n with
  | zero => cases h
  | succ n => cases e <;> first | rfl | cases h
theorem tg_ok (C : CxOk T X c d W) : ∀ (m : Nat) (e : Expr) (tg : Tg), compTg c m e = some tg → ∀ n, m ≤ n → PG X e (rdTg X.K n tg)
  | 0, _, _, h, _, _ => by cases h
  | m + 1, e, tg, h, n, hn => by
    obtain ⟨n, rfl⟩ : ∃ n', n = n' + 1 := ⟨n - 1, by omega⟩
    unfold compTg at h
    split at h
    · rename_i x p
      split at h
      · rename_i hx
        split at h
        · rename_i i hi
          cases h
          obtain ⟨h1, h2⟩ := C.store hx
          exact g_name C.nd (C.at hi) h1 h2
        · cases h
      · cases h
    · rename_i es k p
      split at h
      · rename_i ts hts
        cases h
        have all : ∀ (es : List Expr) (ts : List Tg), mapO (compTg c m) es = some ts → es.any isStar = false ∧ PGs X es (rdTgs X.K n ts) := by
          intro es
          induction es with
          | nil => intro ts h; cases h; exact ⟨rfl, g_nil⟩
          | cons e es ih =>
            intro ts h
            unfold mapO at h
            split at h
            · rename_i t ht
              split at h
              · rename_i ts' hts'
                cases h
                obtain ⟨a1, a2⟩ := ih ts' hts'
                have hs := compTg_star ht
                exact ⟨by rw [List.any_cons, hs, a1]; rfl, g_cons hs (tg_ok C m e t ht n (by omega)) a2⟩
              · cases h
            · cases h
        obtain ⟨a1, a2⟩ := all es ts hts
        exact g_tup C a1 (mapO_length hts) a2
      · cases h
    · cases h
end
end Pv

/-! Pv19: what is walked. -/
namespace Pv
open PySem L2 PyProof.Rows

def rdI (K : PySem.W.Frag) (T : Tb) (W : WX) (r : Ev) (it : I) : TI := fun σ H R => ∃ g ρ A, RelA K g A H ∧ RepS K g H ρ σ ∧ (match evI r ρ it A with
  | .ok i A' => ∀ g' H' J, Post g H g' H' → RelA K g' A' H' → ItIs K i J 0 g' H' → R J H'
  | .ex x A' => XOut K T g A' H x (fun c d H' => W c d σ H')
  | .bad => False)
section
variable {T : Tb} {X : Cx} {c : Cc} {d : Nat} {W : WX} {r : Ev}
theorem SU_of {K : PySem.W.Frag} {g : Gh} {H : Hp} {ds : List D} {v : V} (h : RepD K g H (.tup ds) v) : ∃ a vs, v = .ref a ∧ SqT K H a vs ∧ SU K (.seq ds) 0 a g H := by
  cases h with
  | tup f s l => exact ⟨_, _, rfl, SqT.of s, ds, _, rfl, .inl ⟨f, s⟩, l⟩
  | ktup s l => exact ⟨_, _, rfl, s.sq, ds, _, rfl, .inr s, l⟩
/-- a walk of a value: a tuple's or a list's -/
theorem it_at {K : PySem.W.Frag} {g : Gh} {A : Sto} {H : Hp} {x : D} {v : V} {i : Itr} (r : RelA K g A H) (h : RepD K g H x v) (e : itOf A x = some i) :
    (∃ a vs, v = .ref a ∧ SqT K H a vs ∧ SU K i 0 a g H ∧ ∃ ds, x = .tup ds) ∨ (∃ a vs, v = .ref a ∧ SqL K H a vs ∧ SL K i 0 a g H ∧ ∀ ds, x ≠ .tup ds) := by
  unfold itOf at e
  split at e
  · cases e
    obtain ⟨a, vs, h1, h2, h3⟩ := SU_of h
    exact .inl ⟨a, vs, h1, h2, h3, _, rfl⟩
  · cases e
    cases h with
    | lst f s l => exact .inr ⟨_, _, rfl, SqL.of s, .inl ⟨_, _, rfl, f, s, l⟩, fun _ z => nomatch z⟩
  · split at e
    · rename_i hx
      cases e
      cases h with
      | loc hi =>
        obtain ⟨a', ea, vs, hvs, l⟩ := r.cel _ _ hx
        rw [hi] at ea
        cases ea
        exact .inr ⟨_, vs, rfl, SqL.of hvs, .inr ⟨_, rfl, hi⟩, fun _ z => nomatch z⟩
    · cases e
  · cases e
theorem i_seq {tg e : Expr} {ce : E} (he : PE X e (rdE X.K T W r ce)) : PI X tg e (rdI X.K T W r (.seq ce)) := by
  refine PI.imp (PI.or (pi_list he) (pi_tup he)) fun σ H R h => ?_
  obtain ⟨g, ρ, A, rA, rS, h⟩ := h
  simp only [evI] at h
  cases e1 : r.e ce ρ A with
  | bad => rw [e1] at h; exact h.elim
  | ex x A1 =>
    rw [e1] at h
    exact .inl ⟨g, ρ, A, rA, rS, by rw [e1]; exact h⟩
  | ok x A1 =>
    simp only [e1, ofO] at h
    cases e2 : itOf A1 x with
    | none => rw [e2] at h; exact h.elim
    | some i =>
      simp only [e2] at h
      by_cases ht : ∃ ds, x = .tup ds
      · refine .inr ⟨g, ρ, A, rA, rS, ?_⟩
        rw [e1]
        intro g1 v1 H1 p1 rA1 rd1
        rcases it_at rA1 rd1 e2 with ⟨a, vs, rfl, s, su, _⟩ | ⟨a, vs, _, _, _, hn⟩
        · exact ⟨a, rfl, ⟨vs, s⟩, h g1 H1 _ p1 rA1 (.inr (.inl ⟨a, rfl, su⟩))⟩
        · obtain ⟨ds, rfl⟩ := ht
          exact absurd rfl (hn ds)
      · refine .inl ⟨g, ρ, A, rA, rS, ?_⟩
        rw [e1]
        intro g1 v1 H1 p1 rA1 rd1
        rcases it_at rA1 rd1 e2 with ⟨_, _, _, _, _, hn⟩ | ⟨a, vs, rfl, s, sl, _⟩
        · exact absurd hn ht
        · exact ⟨a, rfl, ⟨vs, s⟩, h g1 H1 _ p1 rA1 (.inl ⟨a, rfl, sl⟩)⟩
theorem i_rng1 {tg a : Expr} {ca : E} {p pos : Pos} (hs : isStar a = false) (hg : Gl X "range") (hm : X.mg "range" = none) (ha : PE X a (rdE X.K T W r ca)) : PI X tg (.Call (.Name "range" p) [a] [] pos) (rdI X.K T W r (.rng1 ca)) := by
  refine PI.imp (pi_range1 hg hm (a_cons hs ha a_nil) (star_cons hs)) fun σ H R h => ?_
  obtain ⟨g, ρ, A, rA, rS, h⟩ := h
  simp only [evI] at h
  refine ⟨g, ρ, A, rA, rS, ?_⟩
  simp only [evEs]
  cases e1 : r.e ca ρ A with
  | bad => rw [e1] at h; exact h.elim
  | ex x A1 => rw [e1] at h; exact h
  | ok x A1 =>
    simp only [e1] at h ⊢
    cases x with
    | int j =>
      simp only at h
      intro g1 vs H1 p1 rA1 rl
      obtain ⟨v, rfl, rv⟩ := rl.one
      cases rv
      split at h
      · rename_i he
        split at he
        · rename_i hz
          cases he
          refine ⟨j, rfl, by omega, by omega, h g1 H1 _ p1 rA1 (.inr (.inr (.inl ⟨0, j.toNat, rfl, ?_⟩)))⟩
          simp
        · cases he
      · rename_i he
        split at he <;> cases he
      · exact h.elim
    | _ => exact h.elim
theorem i_rng2 {tg a b : Expr} {ca cb : E} {p pos : Pos} (hs : isStar a = false) (hs' : isStar b = false) (hg : Gl X "range") (hm : X.mg "range" = none) (ha : PE X a (rdE X.K T W r ca)) (hb : PE X b (rdE X.K T W r cb)) :
    PI X tg (.Call (.Name "range" p) [a, b] [] pos) (rdI X.K T W r (.rng2 ca cb)) := by
  have e0 : starEach [a, b] X.env = [(false, eval a X.env), (false, eval b X.env)] := by rw [star_cons hs, star_cons hs']; rfl
  refine PI.imp (pi_range2 hg hm (a_cons hs ha (a_cons hs' hb a_nil)) e0 (star_cons hs')) fun σ H R h => ?_
  obtain ⟨g, ρ, A, rA, rS, h⟩ := h
  simp only [evI] at h
  refine ⟨g, ρ, A, rA, rS, ?_⟩
  simp only [evEs]
  cases e1 : r.e ca ρ A with
  | bad => rw [e1] at h; exact h.elim
  | ex x A1 => rw [e1] at h; exact h
  | ok x A1 =>
    simp only [e1] at h ⊢
    cases x with
    | int i =>
      simp only at h
      cases e2 : r.e cb ρ A1 with
      | bad => rw [e2] at h; exact h.elim
      | ex x A2 => rw [e2] at h; exact h
      | ok y A2 =>
        simp only [e2] at h ⊢
        cases y with
        | int j =>
          simp only at h
          intro g1 vs H1 p1 rA1 rl
          obtain ⟨v, u, rfl, rv, ru⟩ := rl.two
          cases rv
          cases ru
          split at h
          · rename_i he
            split at he
            · rename_i hz
              cases he
              refine ⟨i, j, rfl, ⟨by omega, by omega, by omega, by omega⟩, h g1 H1 _ p1 rA1 (.inr (.inr (.inl ⟨i, (j - i).toNat, rfl, ?_⟩)))⟩
              simp
            · cases he
          · rename_i he
            split at he <;> cases he
          · exact h.elim
        | _ => exact h.elim
    | _ => exact h.elim
theorem i_enum {elts : List Expr} {kk : Nat} {tpos : Pos} {a : Expr} {ca : E} {p pos : Pos} (hs : isStar a = false) (hg : Gl X "enumerate") (hm : X.mg "enumerate" = none) (ha : PE X a (rdE X.K T W r ca)) :
    PI X (.Tuple elts kk tpos) (.Call (.Name "enumerate" p) [a] [] pos) (rdI X.K T W r (.enum ca)) := by
  have hA := a_cons (T := T) (W := W) hs ha a_nil
  refine PI.imp (PI.or (pi_enum hg hm hA (star_cons hs)) (pi_enumT hg hm hA (star_cons hs))) fun σ H R h => ?_
  obtain ⟨g, ρ, A, rA, rS, h⟩ := h
  simp only [evI] at h
  cases e1 : r.e ca ρ A with
  | bad => rw [e1] at h; exact h.elim
  | ex x A1 =>
    rw [e1] at h
    exact .inl ⟨g, ρ, A, rA, rS, by simp only [evEs, e1]; exact h⟩
  | ok x A1 =>
    simp only [e1] at h
    cases e2 : itOf A1 x with
    | none => rw [e2] at h; exact h.elim
    | some i =>
      simp only [e2] at h
      by_cases ht : ∃ ds, x = .tup ds
      · refine .inr ⟨g, ρ, A, rA, rS, ?_⟩
        simp only [evEs, e1]
        intro g1 vs H1 p1 rA1 rl
        obtain ⟨v, rfl, rv⟩ := rl.one
        rcases it_at rA1 rv e2 with ⟨a, us, rfl, s, su, _⟩ | ⟨_, _, _, _, _, hn⟩
        · exact ⟨a, us, rfl, s, h g1 H1 _ p1 rA1 (.inr (.inr (.inr (.inr (.inl ⟨a, i, rfl, rfl, su⟩)))))⟩
        · obtain ⟨ds, rfl⟩ := ht
          exact absurd rfl (hn ds)
      · refine .inl ⟨g, ρ, A, rA, rS, ?_⟩
        simp only [evEs, e1]
        intro g1 vs H1 p1 rA1 rl
        obtain ⟨v, rfl, rv⟩ := rl.one
        rcases it_at rA1 rv e2 with ⟨_, _, _, _, _, hn⟩ | ⟨a, us, rfl, s, sl, _⟩
        · exact absurd hn ht
        · exact ⟨a, us, rfl, s, h g1 H1 _ p1 rA1 (.inr (.inr (.inr (.inl ⟨a, i, rfl, rfl, sl⟩))))⟩
theorem i_zip {elts : List Expr} {kk : Nat} {tpos : Pos} {a b : Expr} {ca cb : E} {p pos : Pos} (hs : isStar a = false) (hs' : isStar b = false) (hg : Gl X "zip") (hm : X.mg "zip" = none) (ha : PE X a (rdE X.K T W r ca)) (hb : PE X b (rdE X.K T W r cb)) :
    PI X (.Tuple elts kk tpos) (.Call (.Name "zip" p) [a, b] [] pos) (rdI X.K T W r (.zip ca cb)) := by
  have e0 : starEach [a, b] X.env = [(false, eval a X.env), (false, eval b X.env)] := by rw [star_cons hs, star_cons hs']; rfl
  refine PI.imp (RZ.pi_zipA hg hm (a_cons hs ha (a_cons hs' hb a_nil)) (star_cons hs) (by rw [star_cons hs']; rfl)) fun σ H R h => ?_
  obtain ⟨g, ρ, A, rA, rS, h⟩ := h
  simp only [evI] at h
  refine ⟨g, ρ, A, rA, rS, ?_⟩
  simp only [evEs]
  cases e1 : r.e ca ρ A with
  | bad => rw [e1] at h; exact h.elim
  | ex x A1 => rw [e1] at h; exact h
  | ok x A1 =>
    simp only [e1] at h ⊢
    cases e2 : r.e cb ρ A1 with
    | bad => rw [e2] at h; exact h.elim
    | ex x A2 => rw [e2] at h; exact h
    | ok y A2 =>
      simp only [e2] at h ⊢
      intro g1 vs H1 p1 rA1 rl
      obtain ⟨v, u, rfl, rv, ru⟩ := rl.two
      cases e3 : itOf A2 x with
      | none => rw [e3] at h; exact h.elim
      | some i =>
        cases e4 : itOf A2 y with
        | none => rw [e3, e4] at h; exact h.elim
        | some j =>
          simp only [e3, e4] at h
          by_cases ht : isTp x = isTp y
          · rw [if_pos ht] at h
            rcases it_at rA1 rv e3 with ⟨a, us, rfl, s, su, ds, rfl⟩ | ⟨a, us, rfl, s, sl, hn⟩
            · rcases it_at rA1 ru e4 with ⟨b, ws, rfl, s', su', ds', rfl⟩ | ⟨b, ws, rfl, s', sl', hn'⟩
              · exact ⟨a, b, us, ws, rfl, .inr ⟨s, s', h g1 H1 _ p1 rA1 (.inr (.inr (.inr (.inr (.inr (.inr ⟨a, b, i, j, rfl, rfl, su, su'⟩))))))⟩⟩
              · cases y <;> first | exact absurd rfl (hn' _) | cases ht
            · rcases it_at rA1 ru e4 with ⟨b, ws, rfl, s', su', ds', rfl⟩ | ⟨b, ws, rfl, s', sl', hn'⟩
              · cases x <;> first | exact absurd rfl (hn _) | cases ht
              · exact ⟨a, b, us, ws, rfl, .inl ⟨s, s', h g1 H1 _ p1 rA1 (.inr (.inr (.inr (.inr (.inr (.inl ⟨a, b, i, j, rfl, rfl, sl, sl'⟩))))))⟩⟩
          · rw [if_neg ht] at h
            exact h.elim
end
end Pv

/-! Pv20: comprehensions. -/
namespace Pv
open PySem L2 PyProof.Rows

/-! ### the growing list -/
section
variable {K : PySem.W.Frag}
theorem Keeps.refl {g : Gh} {H : Hp} : Keeps K g H g H := ⟨fun _ h => h, fun _ _ e => e, fun _ _ _ e => e⟩
theorem Keeps.trans {g g1 g2 : Gh} {H H1 H2 : Hp} (a : Keeps K g H g1 H1) (b : Keeps K g1 H1 g2 H2) : Keeps K g H g2 H2 :=
  ⟨fun x h => b.inF x (a.inF x h), fun i x e => b.pre i x (a.pre i x e), fun x o f e => b.frm x o (a.inF x f) (a.frm x o f e)⟩
structure LA (K : PySem.W.Frag) (g0 : Gh) (H0 : Hp) (D : Addr) (acc : List Pv.D) (A : Sto) (g : Gh) (H : Hp) : Prop where
  post : Post g0 H0 g H
  rel : RelA K g A H
  nphi : D ∉ g.φ
  nF : ¬ g.F D
  lst : ∃ vs, H D = some (.lst vs) ∧ RepL K g H acc.reverse vs
variable {g0 g g' : Gh} {H0 H H' : Hp} {D : Addr} {acc : List Pv.D} {A A' : Sto}
theorem LA.after (h : LA K g0 H0 D acc A g H) (p : Post g H g' H') (r : RelA K g' A' H') : LA K g0 H0 D acc A' g' H' := by
  obtain ⟨vs, e, l⟩ := h.lst
  refine ⟨h.post.trans p, r, fun z => ?_, fun z => ?_, vs, p.frm _ _ e h.nphi, l.keeps (h.rel.keeps p)⟩
  · rcases p.newφ _ z with z | z
    · exact h.nphi z
    · rw [e] at z; cases z
  · rcases p.newF _ z with z | z
    · exact h.nF z
    · rw [e] at z; cases z
theorem LA.push (h : LA K g0 H0 D acc A g H) (hD : H0 D = none) {d : Pv.D} {v : V} (rd : RepD K g H d v) :
    ∃ vs, H D = some (.lst vs) ∧ vs.length = acc.length ∧ LA K g0 H0 D (d :: acc) A g (upd H D (.lst (vs ++ [v]))) ∧ Keeps K g H g (upd H D (.lst (vs ++ [v]))) := by
  obtain ⟨vs, e, l⟩ := h.lst
  have ll := l.length
  rw [List.length_reverse] at ll
  have kp : Keeps K g H g (upd H D (.lst (vs ++ [v]))) := ⟨fun _ h => h, fun _ _ e => e, fun a o f e => by rw [upd_ne fun z => h.nF (by rw [← z]; exact f)]; exact e⟩
  have nn : ∀ {a : Addr}, a ∈ g.φ → a ≠ D := fun {a} hm z => h.nphi (by rw [← z]; exact hm)
  refine ⟨vs, e, ll.symm, ⟨⟨h.post.pre, h.post.inF, h.post.newφ, h.post.newF, fun a o ea na => ?_, fun a o ea => ?_⟩, ⟨h.rel.len, h.rel.nd, h.rel.disj, fun a hm => ?_, fun a f => ?_, fun i o ei => ?_, h.rel.sz⟩, h.nphi, h.nF, _, upd_same, ?_⟩, kp⟩
  · rw [upd_ne (ne_of_none ea hD)]
    exact h.post.frm a o ea na
  · rw [upd_ne (ne_of_none ea hD)]
    exact h.post.trk a o ea
  · rw [upd_ne (nn hm)]
    exact h.rel.trk a hm
  · rw [upd_ne fun z => h.nF (by rw [← z]; exact f)]
    exact h.rel.trF a f
  · obtain ⟨a, e1, e2⟩ := h.rel.cel i o ei
    refine ⟨a, e1, ?_⟩
    cases o with
    | lst es =>
      obtain ⟨us, u1, u2⟩ := e2
      exact ⟨us, by rw [upd_ne (nn (List.mem_of_getElem? e1))]; exact u1, u2.keeps kp⟩
  · rw [List.reverse_cons]
    exact (l.keeps kp).append (.cons (rd.keeps kp) .nil)
theorem RepS.wipe {ρ : Env} {σ : L2.St} (h : RepS K g H ρ σ) : ∀ vs : List Nat, RepS K g H (wipeE ρ vs) (L2.wipe σ vs)
  | [] => h
  | v :: vs => by
    have ih := RepS.wipe h vs
    refine ⟨by unfold wipeE L2.wipe; simp [ih.1], fun i d e => ?_⟩
    unfold wipeE at e
    by_cases hv : v = i
    · subst hv
      by_cases hl : v < (wipeE ρ vs).length
      · rw [List.getElem?_set_self hl] at e
        cases e
      · rw [List.getElem?_eq_none (by simpa using hl)] at e
        cases e
    · rw [List.getElem?_set_ne hv] at e
      obtain ⟨u, h1, h2⟩ := ih.2 i d e
      exact ⟨u, by unfold L2.wipe; rw [List.getElem?_set_ne hv]; exact h1, h2⟩
theorem wipe_in {σ : L2.St} {i : Nat} (hl : i < σ.length) : ∀ {vs : List Nat}, i ∈ vs → (L2.wipe σ vs)[i]? = some none
  | v :: vs, h => by
    unfold L2.wipe
    by_cases hv : v = i
    · subst hv
      rw [List.getElem?_set_self (by rw [wipe_length]; exact hl)]
    · rw [List.getElem?_set_ne hv]
      refine wipe_in hl ?_
      rcases List.mem_cons.mp h with z | z
      · exact absurd z.symm hv
      · exact z
theorem wipe_sets {σ σ' : L2.St} {ixs vs : List Nat} (h : SetsIn ixs (L2.wipe σ vs) σ') (hs : ∀ i ∈ ixs, i ∈ vs) : L2.wipe σ' vs = L2.wipe σ vs := by
  have hl : σ'.length = σ.length := by rw [h.1, wipe_length]
  apply List.ext_getElem?
  intro i
  by_cases hv : i ∈ vs
  · by_cases hi : i < σ.length
    · rw [wipe_in hi hv, wipe_in (by rw [hl]; exact hi) hv]
    · rw [List.getElem?_eq_none (by rw [wipe_length]; omega), List.getElem?_eq_none (by rw [wipe_length]; omega)]
  · rw [wipe_out hv]
    exact h.2 i fun z => hv (hs i z)
end

/-! ### tests -/
def rdIfs (K : PySem.W.Frag) (r : Ev) (es : List E) : TT := fun σ H Q => ∃ g ρ A, RelA K g A H ∧ RepS K g H ρ σ ∧ (match evIfs r ρ es A with
  | .ok b A' => OutB K g A' H b Q
  | .ex _ _ => False
  | .bad => False)
def W0 : WX := fun _ _ _ _ => False
section
variable {T : Tb} {X : Cx} {r : Ev}
theorem PTs.imp {e : List Expr} {t t' : TT} (h : PTs X e t) (i : ∀ σ H Q, t' σ H Q → t σ H Q) : PTs X e t' := ⟨fun pins s σ H Q I q => h.run pins s σ H Q I (i σ H Q q)⟩
theorem ifs_nil : PTs X [] (rdIfs X.K r []) := PTs.imp pts_nil fun σ H Q h => by
  obtain ⟨g, ρ, A, rA, rS, h⟩ := h
  exact h g H (Post.refl _ _) rA
theorem ifs_one {e : Expr} {ce : E} (h : PT X e (rdT X.K T W0 r ce)) : PTs X [e] (rdIfs X.K r [ce]) := PTs.imp (pts_one h) fun σ H Q h => by
  obtain ⟨g, ρ, A, rA, rS, h⟩ := h
  refine ⟨g, ρ, A, rA, rS, ?_⟩
  simp only [evIfs] at h
  cases e1 : r.e ce ρ A with
  | bad => rw [e1] at h; exact h
  | ex x A1 => rw [e1] at h; exact h.elim
  | ok x A1 =>
    simp only [e1] at h ⊢
    cases e2 : truth A1 x with
    | none => rw [e2] at h; exact h
    | some b => cases b <;> (rw [e2] at h; exact h)
end

/-! ### the turns -/
/-- what a turn's inside comes to -/
def InnerOk (K : PySem.W.Frag) (g0 : Gh) (H0 : Hp) (D : Addr) (inner : Env → Sto → List Pv.D → Res (List Pv.D)) (Inn : L2.St → Hp → (Hp → Prop) → Prop) : Prop :=
  (∀ ρ A acc acc' A', inner ρ A acc = .ok acc' A' → acc.length ≤ acc'.length) ∧
  ∀ g ρ A acc acc' A' σ H (Nx : Hp → Prop), LA K g0 H0 D acc A g H → RepS K g H ρ σ → inner ρ A acc = .ok acc' A' → acc'.length ≤ sizeLine → (∀ g' H', Keeps K g H g' H' → LA K g0 H0 D acc' A' g' H' → Nx H') → Inn σ H Nx
section
variable {K : PySem.W.Frag} {r : Ev} {tg : Tg} {ifs : List E} {inner : Env → Sto → List Pv.D → Res (List Pv.D)}
theorem lcLoop_mono (hm : ∀ ρ A acc acc' A', inner ρ A acc = .ok acc' A' → acc.length ≤ acc'.length) : ∀ (n : Nat) (it : Itr) (ρ : Env) (A : Sto) (acc acc' : List Pv.D) (A' : Sto), lcLoop r tg ifs inner n it ρ A acc = .ok acc' A' → acc.length ≤ acc'.length
  | 0, _, _, _, _, _, _, h => by cases h
  | n + 1, it, ρ, A, acc, acc', A', h => by
    unfold lcLoop at h
    split at h
    · cases h
    · cases h; exact Nat.le_refl _
    · split at h
      · cases h
      · split at h
        · exact lcLoop_mono hm n _ _ _ _ _ _ h
        · split at h
          · rename_i e1
            exact Nat.le_trans (hm _ _ _ _ _ e1) (lcLoop_mono hm n _ _ _ _ _ _ h)
          · cases h
          · cases h
        · cases h
        · cases h
theorem lc_turns {g0 : Gh} {H0 : Hp} {D : Addr} {Inn : L2.St → Hp → (Hp → Prop) → Prop} (hin : InnerOk K g0 H0 D inner Inn) {vs : List Nat} (hvs : ∀ i ∈ tgIxs tg, i ∈ vs) {σ : L2.St} {ρ0 : Env} {J : It} {gS : Gh} {HS : Hp} {it : Itr} {A : Sto} {acc accF : List Pv.D} {AF : Sto} {m : Nat} {Fin : Hp → Prop}
    (la : LA K g0 H0 D acc A gS HS) (rS : RepS K gS HS ρ0 (L2.wipe σ vs)) (ii : ItIs K it J 0 gS HS) (hl : lcLoop r tg ifs inner m it ρ0 A acc = .ok accF AF) (hz : accF.length ≤ sizeLine) (fin : ∀ g' H', Keeps K gS HS g' H' → LA K g0 H0 D accF AF g' H' → Fin H') :
    ∃ Wv : Nat → Nat → Hp → Prop, (∃ m, Wv 0 m HS) ∧ ∀ i m H, Wv i m H → (J.stop i H ∧ Fin H) ∨ (J.go i H ∧ ∃ Nx : Hp → Prop, (∀ H', Nx H' → ∃ m', m' < m ∧ Wv (i + 1) m' H') ∧ ∀ x H', J.yld i H x H' → rdTg K depthFuel tg x (L2.wipe σ vs) H' fun σ2 H2 => L2.wipe σ2 vs = L2.wipe σ vs ∧ rdIfs K r ifs σ2 H2 fun b H3 =>
      if b = true then Inn σ2 H3 Nx else Nx H3) := by
  refine ⟨fun i m H => ∃ g it A acc, LA K g0 H0 D acc A g H ∧ Keeps K gS HS g H ∧ RepS K g H ρ0 (L2.wipe σ vs) ∧ ItIs K it J i g H ∧ lcLoop r tg ifs inner m it ρ0 A acc = .ok accF AF, ⟨m, gS, it, A, acc, la, Keeps.refl, rS, ii, hl⟩, ?_⟩
  rintro i m H ⟨g, it, A, acc, la, kp, rS, ii, hl⟩
  cases m with
  | zero => cases hl
  | succ n =>
    unfold lcLoop at hl
    cases en : it.next A with
    | none => rw [en] at hl; cases hl
    | some o =>
      rcases ii.step la.rel en with ⟨rfl, st⟩ | ⟨x, it', rfl, go, yl⟩
      · simp only [en] at hl
        cases hl
        exact .inl ⟨st, fin g H kp la⟩
      · simp only [en] at hl
        refine .inr ⟨go, _, fun H' h => ⟨n, Nat.lt_succ_self n, h⟩, fun v H' hy => ?_⟩
        obtain ⟨g1, p1, rA1, rd1, ii1⟩ := yl v H' hy
        have la1 := la.after p1 rA1
        have k1 := la.rel.keeps (K := K) p1
        have rS1 := rS.keeps k1
        refine ⟨g1, ρ0, A, x, rA1, rS1, rd1, ?_⟩
        cases eb : bindT depthFuel tg x ρ0 with
        | none => simp only [eb] at hl
                  cases hl
        | some ρ1 =>
          simp only [eb] at hl
          intro σ2 rS2 st2
          refine ⟨wipe_sets st2 hvs, g1, ρ1, A, rA1, rS2, ?_⟩
          cases ei : evIfs r ρ1 ifs A with
          | bad => simp only [ei] at hl
                   cases hl
          | ex q A2 => simp only [ei] at hl
                       cases hl
          | ok b A2 =>
            intro g3 H3 p3 rA3
            have la3 := la1.after p3 rA3
            have k3 := rA1.keeps (K := K) p3
            cases b with
            | false =>
              simp only [ei] at hl
              simp only [Bool.false_eq_true, if_false]
              exact ⟨g3, it', A2, acc, la3, kp.trans (k1.trans k3), rS1.keeps k3, ii1.keeps k3, hl⟩
            | true =>
              simp only [ei] at hl
              simp only [if_true]
              cases en : inner ρ1 A2 acc with
              | bad => simp only [en] at hl
                       cases hl
              | ex q A3 => simp only [en] at hl
                           cases hl
              | ok acc' A3 =>
                simp only [en] at hl
                refine hin.2 g3 ρ1 A2 acc acc' A3 σ2 H3 _ la3 (rS2.keeps k3) en (Nat.le_trans (lcLoop_mono hin.1 _ _ _ _ _ _ _ hl) hz) fun g4 H4 k4 la4 => ?_
                exact ⟨g4, it', A3, acc', la4, kp.trans (k1.trans (k3.trans k4)), (rS1.keeps k3).keeps k4, (ii1.keeps k3).keeps k4, hl⟩
/-- the item -/
theorem inner_elt {T : Tb} {g0 : Gh} {H0 : Hp} {D : Addr} (hD : H0 D = none) {elt : E} : InnerOk K g0 H0 D (lcGens r elt []) fun σ H Nx => rdE K T W0 r elt σ H fun y H4 => ∃ acc, H4 D = some (.lst acc) ∧ acc.length < sizeLine ∧ Nx (upd H4 D (.lst (acc ++ [y]))) := by
  refine ⟨fun ρ A acc acc' A' h => ?_, fun g ρ A acc acc' A' σ H Nx la rS h hz nx => ?_⟩
  · unfold lcGens at h
    split at h
    · cases h; simp
    · cases h
    · cases h
  · unfold lcGens at h
    refine ⟨g, ρ, A, la.rel, rS, ?_⟩
    cases e1 : r.e elt ρ A with
    | bad => simp only [e1] at h
             cases h
    | ex q A2 => simp only [e1] at h
                 cases h
    | ok d A2 =>
      simp only [e1] at h
      cases h
      intro g' v H' p r' rd
      obtain ⟨vs, e, hv, la', kp⟩ := (la.after p r').push hD rd
      exact ⟨vs, e, by rw [hv]; exact hz, nx g' _ ((la.rel.keeps p).trans kp) la'⟩
/-- a clause within -/
theorem inner_gen {T : Tb} {g0 : Gh} {H0 : Hp} {D : Addr} {elt : E} {gs : List G} {it : I} {Inn : L2.St → Hp → (Hp → Prop) → Prop} (hin : InnerOk K g0 H0 D (lcGens r elt gs) Inn) :
    InnerOk K g0 H0 D (lcGens r elt (.mk tg it ifs :: gs)) fun σ2 H3 Nx => rdI K T W0 r it σ2 H3 fun J1 H4 => ∃ W1 : Nat → Nat → Hp → Prop, (∃ m, W1 0 m H4) ∧ ∀ j k H, W1 j k H →
      (J1.stop j H ∧ Nx H) ∨ (J1.go j H ∧ ∃ Nx1 : Hp → Prop, (∀ H', Nx1 H' → ∃ k', k' < k ∧ W1 (j + 1) k' H') ∧ ∀ x H', J1.yld j H x H' → rdTg K depthFuel tg x (L2.wipe σ2 (tgIxs tg)) H' fun σ3 H5 => L2.wipe σ3 (tgIxs tg) = L2.wipe σ2 (tgIxs tg) ∧ rdIfs K r ifs σ3 H5 fun b H6 =>
        if b = true then Inn σ3 H6 Nx1 else Nx1 H6) := by
  refine ⟨fun ρ A acc acc' A' h => ?_, fun g ρ A acc acc' A' σ H Nx la rS h hz nx => ?_⟩
  · unfold lcGens at h
    split at h
    · exact lcLoop_mono hin.1 _ _ _ _ _ _ _ h
    · cases h
    · cases h
  · unfold lcGens at h
    refine ⟨g, ρ, A, la.rel, rS, ?_⟩
    cases e1 : evI r ρ it A with
    | bad => simp only [e1] at h
             cases h
    | ex q A2 => simp only [e1] at h
                 cases h
    | ok i A2 =>
      simp only [e1] at h
      intro g' H' J p r' ii
      have kp := la.rel.keeps (K := K) p
      exact lc_turns hin (fun _ h => h) (la.after p r') ((rS.keeps kp).wipe _) ii h hz fun g2 H2 k2 la2 => nx g2 H2 (kp.trans k2) la2
end
section
variable {T : Tb} {X : Cx} {W : WX} {r r1 : Ev} {K : PySem.W.Frag}
theorem lc_start {g0 : Gh} {H0 : Hp} {g : Gh} {H : Hp} {A : Sto} {D : Addr} (p : Post g0 H0 g H) (rA : RelA K g A H) (hD : H D = none) : LA K g0 H0 D [] A g (upd H D (.lst [])) ∧ Keeps K g H g (upd H D (.lst [])) := by
  refine ⟨⟨p.trans (Post.laid hD), rA.laid hD, rA.notφ hD, rA.notF hD, [], upd_same, .nil⟩, rA.keeps (Post.laid hD)⟩
variable (h1 : ∀ x ρ A, r1.e x ρ A = stepE r x ρ A)
include h1
theorem lc1_imp {elt : E} {own : List Nat} {tg : Tg} {it : I} {ifs : List E} (hvs : ∀ i ∈ tgIxs tg, i ∈ own) {σ : L2.St} {H : Hp} {Q : VK} (h : rdF K T W r1 (.lc elt own [.mk tg it ifs]) σ H Q) :
    tLc (rdI K T W r it) (rdTg K depthFuel tg) (rdIfs K r ifs) (rdE K T W0 r elt) own σ H Q := by
  obtain ⟨g, ρ, A, rA, rS, h⟩ := h
  rw [h1] at h
  simp only [stepE] at h
  refine ⟨g, ρ, A, rA, rS, ?_⟩
  cases e1 : evI r ρ it A with
  | bad => rw [e1] at h; exact h
  | ex x A1 => rw [e1] at h; exact h
  | ok i A1 =>
    simp only [e1] at h
    intro g1 H1 J p1 rA1 ii D hD
    cases e2 : lcLoop r tg ifs (lcGens r elt []) r.fuel i (wipeE ρ own) A1 [] with
    | bad => rw [e2] at h; exact h.elim
    | ex x A2 => rw [e2] at h; exact h.elim
    | ok acc A2 =>
      simp only [e2] at h
      by_cases hz : acc.length ≤ sizeLine
      · rw [if_pos hz] at h
        have h : NewL K g A2 H acc.reverse Q := h
        have hD0 : H D = none := p1.back hD
        obtain ⟨la, kp⟩ := lc_start p1 rA1 hD
        exact lc_turns (inner_elt (T := T) hD0) hvs la (((rS.keeps (rA.keeps p1)).keeps kp).wipe own) (ii.keeps kp) e2 hz fun g2 H2 _ la2 => by
          obtain ⟨vs, e, l⟩ := la2.lst
          exact h g2 D vs H2 la2.post la2.rel hD0 la2.nphi la2.nF e l
      · rw [if_neg hz] at h
        exact h.elim
theorem lc2_imp {elt : E} {own : List Nat} {tg tg1 : Tg} {it it1 : I} {ifs ifs1 : List E} (hvs : ∀ i ∈ tgIxs tg, i ∈ own) {σ : L2.St} {H : Hp} {Q : VK} (h : rdF K T W r1 (.lc elt own [.mk tg it ifs, .mk tg1 it1 ifs1]) σ H Q) :
    tLc2 (rdI K T W r it) (rdTg K depthFuel tg) (rdIfs K r ifs) (rdI K T W0 r it1) (rdTg K depthFuel tg1) (rdIfs K r ifs1) (rdE K T W0 r elt) own (tgIxs tg1) σ H Q := by
  obtain ⟨g, ρ, A, rA, rS, h⟩ := h
  rw [h1] at h
  simp only [stepE] at h
  refine ⟨g, ρ, A, rA, rS, ?_⟩
  cases e1 : evI r ρ it A with
  | bad => rw [e1] at h; exact h
  | ex x A1 => rw [e1] at h; exact h
  | ok i A1 =>
    simp only [e1] at h
    intro g1 H1 J p1 rA1 ii D hD
    cases e2 : lcLoop r tg ifs (lcGens r elt [.mk tg1 it1 ifs1]) r.fuel i (wipeE ρ own) A1 [] with
    | bad => rw [e2] at h; exact h.elim
    | ex x A2 => rw [e2] at h; exact h.elim
    | ok acc A2 =>
      simp only [e2] at h
      by_cases hz : acc.length ≤ sizeLine
      · rw [if_pos hz] at h
        have h : NewL K g A2 H acc.reverse Q := h
        have hD0 : H D = none := p1.back hD
        obtain ⟨la, kp⟩ := lc_start p1 rA1 hD
        exact lc_turns (inner_gen (T := T) (inner_elt (T := T) hD0)) hvs la (((rS.keeps (rA.keeps p1)).keeps kp).wipe own) (ii.keeps kp) e2 hz fun g2 H2 _ la2 => by
          obtain ⟨vs, e, l⟩ := la2.lst
          exact h g2 D vs H2 la2.post la2.rel hD0 la2.nphi la2.nF e l
      · rw [if_neg hz] at h
        exact h.elim
end
end Pv

/-! Pv21: expressions as compiled. -/
namespace Pv
open PySem L2 PyProof.Rows

section
variable {X : Cx} {T : Tb} {W : WX} {r r1 : Ev} {k : Nat}
section
variable (h1 : ∀ x ρ A, r1.e x ρ A = stepE r x ρ A)
include h1
theorem s_chain (c : Ctx X k) {a b e : Expr} {ca cb ce : E} {op op' : CmpOp} {pos : Pos} (hm : lastMarks [op, op'] [b, e] = false) (ha : PE X a (rdE X.K T W r ca)) (hb : PE X b (rdE X.K T W r cb)) (he : PE X e (rdE X.K T W r ce)) :
    PE X (.Compare a [op, op'] [b, e] pos) (rdE X.K T W r1 (.chain op op' ca cb ce)) ∧ PT X (.Compare a [op, op'] [b, e] pos) (rdT X.K T W r1 (.chain op op' ca cb ce)) := by
  have key : ∀ (σ : L2.St) (H : Hp) (Q : VK) (g : Gh) (ρ : Env) (A : Sto) (R : Bool → Sto → Prop) (Qx : Prop), RelA X.K g A H → RepS X.K g H ρ σ →
      (match stepE r (.chain op op' ca cb ce) ρ A with
        | .ok (.bl b) A' => ∀ g' H', Post g H g' H' → RelA X.K g' A' H' → Q (.bl b) H'
        | .ok _ _ => True
        | .ex x A' => XOut X.K T g A' H x (fun c d H' => W c d σ H')
        | .bad => False) → tChain (rCmp X.K op) (rCmp X.K op') (rdE X.K T W r ca) (rdE X.K T W r cb) (rdE X.K T W r ce) σ H Q := by
    intro σ H Q g ρ A _ _ rA rS h
    simp only [stepE, ev2] at h
    refine ⟨g, ρ, A, rA, rS, ?_⟩
    cases e1 : r.e ca ρ A with
    | bad => rw [e1] at h; exact h
    | ex x A1 => rw [e1] at h; exact h
    | ok x A1 =>
      simp only [e1] at h
      intro g1 v1 H1 p1 rA1 rd1
      have rS1 := rS.keeps (rA.keeps p1)
      refine ⟨g1, ρ, A1, rA1, rS1, ?_⟩
      cases e2 : r.e cb ρ A1 with
      | bad => rw [e2] at h; exact h
      | ex x A2 => rw [e2] at h; exact XOut.after h p1
      | ok y A2 =>
        simp only [e2] at h
        intro g2 v2 H2 p2 rA2 rd2
        have rd1' := rd1.keeps (rA1.keeps p2)
        have rS2 := rS1.keeps (rA1.keeps p2)
        cases e3 : cmpD A2 op x y with
        | none => rw [e3] at h; exact h.elim
        | some kk =>
          cases kk with
          | false =>
            simp only [e3] at h
            exact ⟨g2, A2, x, y, false, rA2, rd1', rd2, e3, false, rfl, by
              simp only [Bool.false_eq_true, if_false]
              exact h g2 H2 (p1.trans p2) rA2⟩
          | true =>
            simp only [e3] at h
            refine ⟨g2, A2, x, y, true, rA2, rd1', rd2, e3, true, rfl, ?_⟩
            simp only [if_true]
            refine ⟨g2, ρ, A2, rA2, rS2, ?_⟩
            cases e4 : r.e ce ρ A2 with
            | bad => rw [e4] at h; exact h
            | ex x A3 => rw [e4] at h; exact XOut.after h (p1.trans p2)
            | ok z A3 =>
              simp only [e4] at h
              intro g3 v3 H3 p3 rA3 rd3
              cases e5 : cmpD A3 op' y z with
              | none => rw [e5] at h; exact h.elim
              | some kk =>
                simp only [e5] at h
                exact ⟨g3, A3, y, z, kk, rA3, rd2.keeps (rA2.keeps p3), rd3, e5, h g3 H3 ((p1.trans p2).trans p3) rA3⟩
  have isb : ∀ ρ A x A', stepE r (.chain op op' ca cb ce) ρ A = .ok x A' → ∃ b, x = .bl b := by
    intro ρ A x A' h
    simp only [stepE, ev2] at h
    repeat' split at h
    all_goals first | (cases h; exact ⟨_, rfl⟩) | cases h
  refine ⟨PE.imp (pe_chain (op_cmp c op) (op_cmp c op') ha hb he hm) fun σ H Q h => ?_, PT.imp (pt_chain (op_cmp c op) (op_cmp c op') ha hb he hm) fun σ H Q h => ?_⟩
  · obtain ⟨g, ρ, A, rA, rS, h⟩ := h
    rw [h1] at h
    refine key σ H Q g ρ A (fun _ _ => True) True rA rS ?_
    cases e1 : stepE r (.chain op op' ca cb ce) ρ A with
    | bad => rw [e1] at h; exact h
    | ex x A1 => rw [e1] at h; exact h
    | ok x A1 =>
      obtain ⟨b, rfl⟩ := isb _ _ _ _ e1
      rw [e1] at h
      exact fun g' H' p r' => h g' (.bl b) H' p r' (.bl b)
  · obtain ⟨g, ρ, A, rA, rS, h⟩ := h
    rw [h1] at h
    refine key σ H _ g ρ A (fun _ _ => True) True rA rS ?_
    cases e1 : stepE r (.chain op op' ca cb ce) ρ A with
    | bad => rw [e1] at h; exact h
    | ex x A1 => rw [e1] at h; exact h
    | ok x A1 =>
      obtain ⟨b, rfl⟩ := isb _ _ _ _ e1
      rw [e1] at h
      exact fun g' H' p r' => ⟨b, rfl, h g' H' p r'⟩
theorem t_ite {c a b : Expr} {cc ca cb : E} {pos : Pos} (hc : PT X c (rdT X.K T W r cc)) (ha : PT X a (rdT X.K T W r ca)) (hb : PT X b (rdT X.K T W r cb)) : PT X (.IfExp c a b pos) (rdT X.K T W r1 (.ite cc ca cb)) := by
  refine ⟨fun pins s σ H Q I h => ?_⟩
  obtain ⟨g, ρ, A, rA, rS, h⟩ := h
  rw [h1] at h
  simp only [stepE] at h
  show wpAny _ _ (do if ← isTrue c X.env (eval c X.env) then isTrue a X.env (eval a X.env) else isTrue b X.env (eval b X.env)) _ _ s
  refine wpAny_bind (thn (hc.run pins s σ H (fun k H1 => if k = true then rdT X.K T W r ca σ H1 Q else rdT X.K T W r cb σ H1 Q) I ⟨g, ρ, A, rA, rS, ?_⟩) fun k s1 ⟨H1, I1, q⟩ => ?_)
  · cases e1 : r.e cc ρ A with
    | bad => rw [e1] at h; exact h
    | ex x A1 => rw [e1] at h; exact h
    | ok x A1 =>
      simp only [e1] at h ⊢
      cases e2 : truth A1 x with
      | none => rw [e2] at h; exact h
      | some bb =>
        intro g1 H1 p1 rA1
        have rS1 := rS.keeps (rA.keeps p1)
        cases bb with
        | true =>
          simp only [e2] at h
          simp only [if_true]
          refine ⟨g1, ρ, A1, rA1, rS1, ?_⟩
          cases e3 : r.e ca ρ A1 with
          | bad => rw [e3] at h; exact h
          | ex x A2 => rw [e3] at h; exact XOut.after h p1
          | ok y A2 =>
            simp only [e3] at h ⊢
            cases e4 : truth A2 y with
            | none => rw [e4] at h; exact h
            | some b2 => rw [e4] at h; exact OutB.after h p1
        | false =>
          simp only [e2] at h
          simp only [Bool.false_eq_true, if_false]
          refine ⟨g1, ρ, A1, rA1, rS1, ?_⟩
          cases e3 : r.e cb ρ A1 with
          | bad => rw [e3] at h; exact h
          | ex x A2 => rw [e3] at h; exact XOut.after h p1
          | ok y A2 =>
            simp only [e3] at h ⊢
            cases e4 : truth A2 y with
            | none => rw [e4] at h; exact h
            | some b2 => rw [e4] at h; exact OutB.after h p1
  · cases k with
    | true =>
      simp only [if_true] at q
      simp only [if_true]
      exact ha.run pins s1 σ H1 Q I1 q
    | false =>
      simp only [Bool.false_eq_true, if_false] at q
      simp only [Bool.false_eq_true, if_false]
      exact hb.run pins s1 σ H1 Q I1 q
end
end
end Pv

/-! Pv22: expressions as compiled, all together. -/
namespace Pv
open PySem L2 PyProof.Rows

theorem compE_star {c : Cc} {n : Nat} {e : Expr} {ce : E} (h : compE c n e = some ce) : isStar e = false := by
  cases n with
  | zero => cases h
  | succ n => cases e <;> first | rfl | (unfold compE at h; cases h)
theorem compE_mark {c : Cc} {n : Nat} {e : Expr} {ce : E} (h : compE c n e = some ce) (op : CmpOp) : behindInMarks op e = false := by
  cases n with
  | zero => cases h
  | succ n => cases e <;> first | rfl | (unfold compE at h; cases h)
theorem compE_ix {c : Cc} {n : Nat} {e : Expr} {ce : E} (h : compE c n e = some ce) : PlainIx e := by
  cases n with
  | zero => cases h
  | succ n => cases e <;> first | (exact fun _ _ => rfl) | (unfold compE at h; cases h)
theorem compI_set {c : Cc} {n : Nat} {e : Expr} {it : I} (h : compI c n e = some it) (env : PySem.Env) (x : Value) : foldedSetIterable e env x = pure x := by
  cases n with
  | zero => cases h
  | succ n =>
    cases e <;> first | rfl | skip
    unfold compI at h
    cases n with
    | zero => cases h
    | succ n =>
      unfold compE at h
      cases h
section
variable {T : Tb} {X : Cx} {c : Cc} {d : Nat} {W : WX} {r : Ev}
theorem CxOk.isBlt (C : CxOk T X c d W) {x : Str} (h : isBlt c x = true) (hx : x ∈ bltNames) : Gl X x ∧ X.mg x = none := by
  unfold Pv.isBlt at h
  rw [Bool.and_eq_true, Bool.and_eq_true] at h
  obtain ⟨⟨h1, h2⟩, h3⟩ := h
  exact ⟨C.gl h1, C.blt x hx (by simpa using h2) (by simpa using h3)⟩
theorem CxOk.blk (C : CxOk T X c d W) (s : Shared) (H : Hp) (scope : Scope) (cl : List (Str × Addr)) (L : Addr) (fp : List Addr) : CxOk T (X.blk s H scope (compEnvC scope cl L X.env) fp) (c.inn scope) d W0 where
  ctx := ⟨C.ctx.hr, C.ctx.hg, C.ctx.calm⟩
  N := C.N
  nd := C.nd
  sc := by
    show relS scope X.env.scope = relS scope c.sc
    rw [C.sc]
  fn1 := fun x h => by cases h
  fn2 := fun x h => by
    show (scope.names.lookup x == some NameKind.cell) = true
    have h : scope.names.lookup x = some .cell := h
    rw [h]; rfl
  fns := C.fns
  cst := C.cst
  blt := C.blt
  tk := fun u s' ⟨_, _, _, _, _, _, _, _, _, _, _, _, _, _, _, _, w⟩ => w.elim
  own := PassesOwn.never
section
variable (he : ∀ m e ce, compE c m e = some ce → PE X e (rdE X.K T W r ce))
include he
theorem es_ok : ∀ (es : List Expr) (m : Nat) (ces : List E), compEs c m es = some ces → PA X es (rdA X.K T W r ces) ∧ es.length = ces.length ∧ es.any isStar = false
  | es, 0, _, h => by unfold compEs at h; cases h
  | [], m + 1, _, h => by unfold compEs at h; cases h; exact ⟨a_nil, rfl, rfl⟩
  | e :: es, m + 1, _, h => by
    unfold compEs at h
    simp only at h
    split at h
    · rename_i ce ces h1 h2
      cases h
      obtain ⟨i1, i2, i3⟩ := es_ok es m ces h2
      have hs := compE_star h1
      exact ⟨a_cons hs (he m e ce h1) i1, by simp [i2], by rw [List.any_cons, hs, i3]; rfl⟩
    · cases h
theorem as_ok : ∀ (es : List Expr) (m : Nat) (ces : List Ar), compAs c m es = some ces → PA X es (rdAr X.K T W r ces)
  | es, 0, _, h => by unfold compAs at h; cases h
  | [], m + 1, _, h => by unfold compAs at h; cases h; exact d_nil
  | e :: es, m + 1, _, h => by
    unfold compAs at h
    split at h
    · contradiction
    · rename_i e' p r' heq
      cases heq
      split at h
      · rename_i ce ces h1 h2
        cases h
        exact d_all (he m _ ce h1) (as_ok _ m ces h2)
      · cases h
    · rename_i e' r' hne heq
      cases heq
      split at h
      · rename_i ce ces h1 h2
        cases h
        exact d_one (compE_star h1) (he m _ ce h1) (as_ok _ m ces h2)
      · cases h
theorem ks_ok : ∀ (es : List Keyword) (m : Nat) (ces : List E), compKs c m es = some ces → PK X es (rdA X.K T W r ces) ∧ es.length = ces.length
  | es, 0, _, h => by unfold compKs at h; cases h
  | [], m + 1, _, h => by unfold compKs at h; cases h; exact ⟨k_nil, rfl⟩
  | ⟨nm, e, p⟩ :: es, m + 1, _, h => by
    unfold compKs at h
    simp only at h
    split at h
    · rename_i ce ces h1 h2
      cases h
      obtain ⟨i1, i2⟩ := ks_ok es m ces h2
      exact ⟨k_cons (he m e ce h1) i1, by simp [i2]⟩
    · cases h
theorem o_ok (e : Option Expr) (m : Nat) (ce : Option E) (h : compO c m e = some ce) : PO X e (rdO X.K T W r ce) := by
  cases m with
  | zero => unfold compO at h; cases h
  | succ m =>
    unfold compO at h
    cases e with
    | none => cases h; exact o_none
    | some e =>
      simp only at h
      split at h
      · rename_i ce h1
        cases h
        exact o_some (he m e ce h1)
      · cases h
theorem i_ok (C : CxOk T X c d W) {m : Nat} {e tg : Expr} {it : I} (h : compI c m e = some it) (ht : itTg it tg = true) : PI X tg e (rdI X.K T W r it) := by
  have seq : ∀ {m : Nat} {e : Expr} {it : I}, (match compE c m e with | some e => some (I.seq e) | none => none) = some it → PI X tg e (rdI X.K T W r it) := fun {m e it} h => by
    split at h
    · rename_i ce h1
      cases h
      exact i_seq (he m e ce h1)
    · cases h
  cases m with
  | zero => unfold compI at h; cases h
  | succ m =>
    unfold compI at h
    split at h
    · rename_i x p es pos
      split at h
      · rename_i hb
        split at h
        · rename_i hx
          have hx := beq_iff_eq.mp hx
          subst hx
          obtain ⟨hg, hm⟩ := C.isBlt hb (by decide)
          split at h
          · split at h
            · rename_i ca h1
              cases h
              exact i_rng1 (compE_star h1) hg hm (he _ _ _ h1)
            · cases h
          · split at h
            · rename_i ca cb h1 h2
              cases h
              exact i_rng2 (compE_star h1) (compE_star h2) hg hm (he _ _ _ h1) (he _ _ _ h2)
            · cases h
          · cases h
        · split at h
          · rename_i hx
            have hx := beq_iff_eq.mp hx
            subst hx
            obtain ⟨hg, hm⟩ := C.isBlt hb (by decide)
            split at h
            · split at h
              · rename_i ca h1
                cases h
                cases tg <;> first | exact i_enum (compE_star h1) hg hm (he _ _ _ h1) | cases ht
              · cases h
            · cases h
          · split at h
            · rename_i hx
              have hx := beq_iff_eq.mp hx
              subst hx
              obtain ⟨hg, hm⟩ := C.isBlt hb (by decide)
              split at h
              · split at h
                · rename_i ca cb h1 h2
                  cases h
                  cases tg <;> first | exact i_zip (compE_star h1) (compE_star h2) hg hm (he _ _ _ h1) (he _ _ _ h2) | cases ht
                · cases h
              · cases h
            · exact seq h
      · exact seq h
    · exact seq h
end
theorem ifs_ok (ht : ∀ m e ce, compE c m e = some ce → PT X e (rdT X.K T W0 r ce)) {es : List Expr} {m : Nat} {ces : List E} (h : compEs c m es = some ces) (h1 : oneIf es = true) : PTs X es (rdIfs X.K r ces) := by
  cases m with
  | zero => unfold compEs at h; cases h
  | succ m =>
    unfold compEs at h
    cases es with
    | nil => cases h; exact ifs_nil
    | cons e es =>
      cases es with
      | nil =>
        simp only at h
        split at h
        · rename_i ce ces h2 h3
          cases h
          cases m with
          | zero => unfold compEs at h3; cases h3
          | succ m =>
            unfold compEs at h3
            cases h3
            exact ifs_one (ht _ _ _ h2)
        · cases h
      | cons => cases h1
theorem kw_len : ∀ {kws : List Keyword} {ks : List Str}, kwNames kws = some ks → ks.length = kws.length
  | [], _, h => by cases h; rfl
  | ⟨none, v, p⟩ :: r, _, h => by cases h
  | ⟨some x, v, p⟩ :: r, ks, h => by
    unfold kwNames at h
    split at h
    · rename_i xs hx
      cases h
      simp [kw_len hx]
    · cases h
end

/-- what holds of compiled expressions -/
def ExOk (P : Prog) (T : Tb) (n d : Nat) : Prop := ∀ (X : Cx) (c : Cc) (W : WX), CxOk T X c d W → (∀ n', n' < n → FnsAt P T X c.fns n' d) →
  (∀ m e ce, compE c m e = some ce → PE X e (rdG X.K T W (evs P n d) ce) ∧ PT X e (rdT X.K T W (evs P n d) ce)) ∧
  (∀ m op es ce pos, compB c m op es = some ce → PE X (.BoolOp op es pos) (rdE X.K T W (evs P n d) ce) ∧ PW X (.BoolOp op es pos) (rdT X.K T W (evs P n d) ce))
theorem ex_zero {P : Prog} {T : Tb} {d : Nat} : ExOk P T 0 d := by
  intro X c W C F
  have no : ∀ (ce : E) σ H Q, ¬ rdE X.K T W (evs P 0 d) ce σ H Q := fun ce σ H Q ⟨_, _, _, _, _, h⟩ => h
  have noG : ∀ (ce : E) σ H Q, ¬ rdG X.K T W (evs P 0 d) ce σ H Q := fun ce σ H Q h => by
    unfold rdG at h
    split at h
    · obtain ⟨_, _, _, _, _, h⟩ := h; exact h
    · exact no _ _ _ _ h
  have noT : ∀ (ce : E) σ H Q, ¬ rdT X.K T W (evs P 0 d) ce σ H Q := fun ce σ H Q ⟨_, _, _, _, _, h⟩ => h
  refine ⟨fun m e ce h => ⟨pe_false (noG ce), ⟨fun _ _ σ H Q _ q => absurd q (noT ce σ H Q)⟩⟩, fun m op es ce pos h => ⟨pe_false (no ce), ⟨fun _ _ _ σ H Q _ q => absurd q (noT ce σ H Q)⟩⟩⟩
end Pv

/-! Pv23: expressions as compiled: one more unit of fuel. -/
namespace Pv
open PySem L2 PyProof.Rows

theorem const_ok {X : Cx} {T : Tb} {W : WX} {r r1 : Ev} (h1 : ∀ x ρ A, r1.e x ρ A = stepE r x ρ A) {k : Const} {d : D} {j : Nat} {pos : Pos} (h : constD k = some d) : PE X (.Constant k j pos) (rdE X.K T W r1 (.c d)) := by
  unfold constD at h
  split at h
  · cases h; exact s_const h1 (v := .non) rfl pe_non
  · cases h; exact s_const h1 (v := .bl _) rfl pe_bl
  · cases h; exact s_const h1 (v := .int _) rfl pe_int
  · cases h; exact s_const h1 (v := .str _) rfl pe_str
  · cases h
theorem boot_ty {x : Str} {t : BT} (h : btOf x = some t) : bootBuiltins x = some (.type t.nm) ∧ x ∈ bltNames := by
  unfold btOf at h
  repeat' split at h
  all_goals first | (cases h; rename_i hx; rw [beq_iff_eq.mp hx]; exact ⟨by decide +kernel, by decide⟩) | cases h
theorem ite_some' {α : Type} {c : Bool} {a b : Option α} {f : α} (h : (if c = true then a else b) = some f) : (c = true ∧ a = some f) ∨ b = some f := by
  cases c
  · exact .inr h
  · exact .inl ⟨rfl, h⟩
theorem boot_bi {x : Str} {f : Bi} (h : biOf x = some f) : bootBuiltins x = some f.val ∧ x ∈ bltNames := by
  unfold biOf at h
  iterate 14
    rcases ite_some' h with ⟨hx, h⟩ | h
    · cases h
      rw [beq_iff_eq.mp hx]
      exact ⟨by decide +kernel, by decide⟩
  cases h
theorem name_ok {x : Str} (h : okName x = true) : (x == ("__debug__" : Str)) = false ∧ (x == ("__classdict__" : Str)) = false ∧ x ≠ "__name__" := by
  unfold okName at h
  rw [Bool.and_eq_true, Bool.and_eq_true] at h
  obtain ⟨⟨h1, h2⟩, h3⟩ := h
  refine ⟨by simpa using h1, by simpa using h2, ?_⟩
  simpa using h3
theorem blt_name {x : Str} (h : x ∈ bltNames) : (x == ("__debug__" : Str)) = false ∧ x ≠ "__name__" := by
  have : bltNames.all (fun x => !(x == ("__debug__" : Str)) && !(x == ("__name__" : Str))) = true := by decide
  have := List.all_eq_true.mp this x h
  rw [Bool.and_eq_true] at this
  exact ⟨by simpa using this.1, by simpa using this.2⟩
theorem compG0_of {c c0 : Cc} {m : Nat} {cs : List Comprehension} {gs : List G} (h : compG0 c c0 m cs = some gs) : ∃ tg it ifs a rest tg' it' ifs' rest' m', cs = ⟨tg, it, ifs, a⟩ :: rest ∧ gs = .mk tg' it' ifs' :: rest' ∧
    compTg c 20 tg = some tg' ∧ compI c0 m' it = some it' ∧ compEs c m' ifs = some ifs' ∧ compG c m' rest = some rest' ∧ itTg it' tg = true := by
  cases m with
  | zero => unfold compG0 at h; cases h
  | succ m =>
    unfold compG0 at h
    split at h
    · split at h
      · rename_i h1 h2 h3 h4
        split at h
        · rename_i h5
          cases h
          exact ⟨_, _, _, _, _, _, _, _, _, m, rfl, rfl, h1, h2, h3, h4, h5⟩
        · cases h
      · cases h
    · cases h
theorem compG_of {c : Cc} {m : Nat} {cs : List Comprehension} {gs : List G} (h : compG c m cs = some gs) : (cs = [] ∧ gs = []) ∨ ∃ tg it ifs a rest tg' it' ifs' rest' m', cs = ⟨tg, it, ifs, a⟩ :: rest ∧ gs = .mk tg' it' ifs' :: rest' ∧
    compTg c 20 tg = some tg' ∧ compI c m' it = some it' ∧ compEs c m' ifs = some ifs' ∧ compG c m' rest = some rest' ∧ itTg it' tg = true := by
  cases m with
  | zero => unfold compG at h; cases h
  | succ m =>
    unfold compG at h
    split at h
    · split at h
      · rename_i h1 h2 h3 h4
        split at h
        · rename_i h5
          cases h
          exact .inr ⟨_, _, _, _, _, _, _, _, _, m, rfl, rfl, h1, h2, h3, h4, h5⟩
        · cases h
      · cases h
    · cases h; exact .inl ⟨rfl, rfl⟩
theorem ex_step {P : Prog} {T : Tb} {n d : Nat} (IH : ExOk P T n d) : ExOk P T (n + 1) d := by
  intro X c W C F
  obtain ⟨iE, iB⟩ := IH X c W C fun n' h => F n' (Nat.lt_succ_of_lt h)
  have he : ∀ m e ce, compE c m e = some ce → PE X e (rdE X.K T W (evs P n d) ce) := fun m e ce h => rdG_E (iE m e ce h).1
  have ht : ∀ m e ce, compE c m e = some ce → PT X e (rdT X.K T W (evs P n d) ce) := fun m e ce h => (iE m e ce h).2
  have h1 : ∀ x ρ A, (evs P (n + 1) d).e x ρ A = stepE (evs P n d) x ρ A := fun _ _ _ => rfl
  have blkIH := fun (s : Shared) (H : Hp) (scope : Scope) (cl : List (Str × Addr)) (L : Addr) (fp : List Addr) => IH (X.blk s H scope (compEnvC scope cl L X.env) fp) (c.inn scope) W0 (C.blk s H scope cl L fp) fun n' h => F n' (Nat.lt_succ_of_lt h)
  have both : ∀ {e : Expr} {ce : E}, (∀ whole, isTrue e X.env whole = (do let v ← whole; standAt e.pos; holding [v] (truthy v))) → PE X e (rdE X.K T W (evs P (n + 1) d) ce) → freshE ce = false → PE X e (rdG X.K T W (evs P (n + 1) d) ce) ∧ PT X e (rdT X.K T W (evs P (n + 1) d) ce) :=
    fun hw h hf => ⟨rdE_to_G hf h, t_val hw h⟩
  have bothF : ∀ {e : Expr} {ce : E}, (∀ whole, isTrue e X.env whole = (do let v ← whole; standAt e.pos; holding [v] (truthy v))) → PE X e (rdF X.K T W (evs P (n + 1) d) ce) → PE X e (rdG X.K T W (evs P (n + 1) d) ce) ∧ PT X e (rdT X.K T W (evs P (n + 1) d) ce) :=
    fun hw h => ⟨rdF_G h, t_val hw (rdG_E (rdF_G h))⟩
  suffices key : ∀ m, (∀ e ce, compE c m e = some ce → PE X e (rdG X.K T W (evs P (n + 1) d) ce) ∧ PT X e (rdT X.K T W (evs P (n + 1) d) ce)) ∧
      (∀ op es ce pos, compB c m op es = some ce → PE X (.BoolOp op es pos) (rdE X.K T W (evs P (n + 1) d) ce) ∧ PW X (.BoolOp op es pos) (rdT X.K T W (evs P (n + 1) d) ce)) from ⟨fun m => (key m).1, fun m => (key m).2⟩
  intro m
  induction m with
  | zero => exact ⟨fun e ce h => (by unfold compE at h; cases h), fun op es ce pos h => (by unfold compB at h; cases h)⟩
  | succ m ihm =>
  refine ⟨fun e ce h => ?_, fun op es ce pos h => ?_⟩
  rotate_left
  · unfold compB at h
    split at h
    · cases h
    · obtain ⟨q1, q2⟩ := ihm.1 _ _ h
      refine ⟨pe_one (rdG_E q1), ?_⟩
      cases op with
      | And => exact pw_and1 q2
      | Or => exact pw_or1 q2
    · rename_i a r' hne
      split at h
      · rename_i ca cb h2 h3
        cases h
        cases r' with
        | nil => exact absurd rfl hne
        | cons b rest =>
          obtain ⟨q1, q2⟩ := iB _ _ _ _ pos h3
          cases op with
          | And => exact ⟨s_and h1 (he _ _ _ h2) q1, w_and h1 (ht _ _ _ h2) q2⟩
          | Or => exact ⟨s_or h1 (he _ _ _ h2) q1, w_or h1 (ht _ _ _ h2) q2⟩
      · cases h
  ·
    unfold compE at h
    split at h
    · split at h
      · rename_i hk
        cases h
        exact both (fun _ => rfl) (const_ok h1 hk) rfl
      · cases h
    · rename_i x pos
      split at h
      · cases h
      · rename_i hn
        obtain ⟨hn1, hn2, hn3⟩ := name_ok (by simpa using hn)
        split at h
        · rename_i hv
          split at h
          · rename_i i hi
            cases h
            exact both (fun _ => rfl) (s_var h1 (pe_var (C.at hi) (C.vis hv) hn1 hn2)) rfl
          · cases h
        · split at h
          · rename_i hg
            split at h
            · rename_i dd hc
              cases h
              obtain ⟨u, v, m1, m2, m3⟩ := C.cst _ _ hc
              exact both (fun _ => rfl) (s_global h1 m3 (pe_glob (C.gl hg) m1 m2 hn1)) rfl
            · split at h
              · rename_i hb
                split at h
                · rename_i t htt
                  cases h
                  obtain ⟨b1, b2⟩ := boot_ty htt
                  obtain ⟨g1, g2⟩ := C.isBlt hb b2
                  exact both (fun _ => rfl) (s_global h1 (v := .ty t.nm) (fun _ _ => .ty t) ⟨fun _ _ _ H _ I h => ld_blt I g1 g2 b1 ⟨V.ty t.nm, H, I, rfl, h⟩ hn3 hn1⟩) rfl
                · cases h
              · cases h
          · cases h
    · rename_i op a b r' pos
      obtain ⟨p1, p2⟩ := ihm.2 _ _ _ pos h
      refine ⟨rdE_to_G ?_ p1, p2.pt⟩
      cases m with
      | zero => unfold compB at h; cases h
      | succ m =>
        unfold compB at h
        simp only at h
        split at h
        · cases h
          cases op <;> rfl
        · cases h
    · split at h
      · rename_i ca cb h2 h3
        cases h
        exact bothF (fun _ => rfl) (s_bin h1 (he _ _ _ h2) (he _ _ _ h3))
      · cases h
    · split at h
      · rename_i ca h2
        cases h
        exact both (fun _ => rfl) (s_neg h1 (he _ _ _ h2)) rfl
      · cases h
    · split at h
      · rename_i ca h2
        cases h
        exact ⟨rdE_to_G rfl (s_not h1 (he _ _ _ h2)), t_not h1 (ht _ _ _ h2)⟩
      · cases h
    · split at h
      · rename_i cc ca cb h2 h3 h4
        cases h
        exact ⟨rdE_to_G rfl (s_ite h1 (ht _ _ _ h2) (he _ _ _ h3) (he _ _ _ h4)), t_ite h1 (ht _ _ _ h2) (ht _ _ _ h3) (ht _ _ _ h4)⟩
      · cases h
    · split at h
      · rename_i ca cb h2 h3
        cases h
        exact ⟨rdE_to_G rfl (s_cmp h1 C.ctx (compE_mark h3 _) (he _ _ _ h2) (he _ _ _ h3)), t_cmp h1 C.ctx (compE_mark h3 _) (he _ _ _ h2) (he _ _ _ h3)⟩
      · cases h
    · split at h
      · rename_i ca cb cc h2 h3 h4
        cases h
        obtain ⟨q1, q2⟩ := s_chain (T := T) (W := W) h1 C.ctx (pos := by assumption) (show lastMarks _ _ = false from compE_mark h4 _) (he _ _ _ h2) (he _ _ _ h3) (he _ _ _ h4)
        exact ⟨rdE_to_G rfl q1, q2⟩
      · cases h
    · split at h
      · rename_i ces h2
        cases h
        exact both (fun _ => rfl) (s_tup h1 (as_ok he _ _ _ h2)) rfl
      · cases h
    · split at h
      · rename_i ces h2
        cases h
        exact bothF (fun _ => rfl) (s_lst h1 (as_ok he _ _ _ h2))
      · cases h
    · split at h
      · rename_i ca h2
        cases h
        exact bothF (fun _ => rfl) (s_rev h1 (he _ _ _ h2))
      · cases h
    · split at h
      · rename_i ca cl ch h2 h3 h4
        cases h
        exact bothF (fun _ => rfl) (s_slc h1 (he _ _ _ h2) (o_ok he _ _ _ h3) (o_ok he _ _ _ h4))
      · cases h
    · split at h
      · rename_i ca cb h2 h3
        cases h
        exact both (fun _ => rfl) (s_idx h1 (compE_ix h3) (he _ _ _ h2) (he _ _ _ h3)) rfl
      · cases h
    · rename_i x p es kws pos
      split at h
      · rename_i s hs
        split at h
        · rename_i hq
          rw [Bool.and_eq_true, Bool.and_eq_true] at hq
          obtain ⟨⟨hg, hst⟩, hn⟩ := hq
          obtain ⟨hn1, _, _⟩ := name_ok hn
          split at h
          · rename_i ces cks ks h2 h3 h4
            split at h
            · rename_i hko
              split at h
              · rename_i bs hbs
                cases h
                obtain ⟨fd, S, Fg⟩ := F n (Nat.lt_succ_self n) _ _ hs
                obtain ⟨m1, m2⟩ := C.fns _ _ hs
                obtain ⟨e1, e2, e3⟩ := es_ok he _ _ _ h2
                obtain ⟨k1, k2⟩ := ks_ok he _ _ _ h3
                exact both (fun _ => rfl) (s_call h1 C.ctx Fg S (C.gl hg) m1 m2 C.tk e3 h4 hko hbs hn1 e2 (by rw [kw_len h4]; exact k2) e1 k1) rfl
              · cases h
            · cases h
          · cases h
        · cases h
      · split at h
        · rename_i hq
          rw [Bool.and_eq_true, Bool.and_eq_true] at hq
          obtain ⟨⟨hb, hst⟩, hk⟩ := hq
          split at h
          · rename_i f ces h2 h3
            cases h
            obtain ⟨b1, b2⟩ := boot_bi h2
            obtain ⟨g1, g2⟩ := C.isBlt hb b2
            obtain ⟨n1, n2⟩ := blt_name b2
            obtain ⟨e1, e2, e3⟩ := es_ok he _ _ _ h3
            cases kws with
            | nil => exact bothF (fun _ => rfl) (s_bi h1 C.ctx g1 g2 b1 e3 n2 n1 e2 e1)
            | cons => cases hk
          · cases h
        · cases h
    · rename_i y yp m' apos a cpos
      split at h
      · rename_i hq
        rw [Bool.and_eq_true] at hq
        obtain ⟨hm, hp⟩ := hq
        have hm := beq_iff_eq.mp hm
        subst hm
        split at h
        · rename_i co ca h2 h3
          cases h
          exact both (fun _ => rfl) (s_append h1 (compE_star h3) hp (he _ _ _ h2) (he _ _ _ h3)) rfl
        · cases h
      · cases h
    · rename_i elt gs scope pos
      split at h
      · cases h
      · rename_i hq
        simp only [Bool.not_eq_true, Bool.not_eq_false', Bool.and_eq_true, decide_eq_true_eq] at hq
        obtain ⟨hall, hlen⟩ := hq
        split at h
        · rename_i gs' celt h2 h3
          split at h
          · rename_i hq2
            cases h
            rw [Bool.and_eq_true] at hq2
            obtain ⟨hblk, hix⟩ := hq2
            have ok : BlkOk X.N X.env.scope scope (ownOf c scope) := by
              rw [C.N, C.sc]; exact blkOk_by hblk
            obtain ⟨tg, it, ifs, as, rest, tg', it', ifs', rest', m', rfl, rfl, g1, g2, g3, g4, g5⟩ := compG0_of h2
            rw [List.all_cons, Bool.and_eq_true, Bool.and_eq_true] at hall
            obtain ⟨⟨hone, has⟩, hall⟩ := hall
            have has := beq_iff_eq.mp has
            simp only at has
            subst has
            rw [List.all_cons, Bool.and_eq_true] at hix
            have hix1 : ∀ i ∈ tgIxs tg', i ∈ (ownOf c scope).map (·.2) := fun i hi => by
              have := List.all_eq_true.mp hix.1 i hi
              simpa using this
            have eb := fun (s : Shared) (H : Hp) (L : Addr) (cl : List (Str × Addr)) (fp : List Addr) => blkIH s H scope cl L fp
            have hee := fun (s : Shared) (H : Hp) (L : Addr) (cl : List (Str × Addr)) (fp : List Addr) => rdG_E ((eb s H L cl fp).1 _ _ _ h3).1
            have hgg := fun (s : Shared) (H : Hp) (L : Addr) (cl : List (Str × Addr)) (fp : List Addr) => tg_ok (C.blk s H scope cl L fp) 20 tg tg' g1 depthFuel (by decide)
            have hif := fun (s : Shared) (H : Hp) (L : Addr) (cl : List (Str × Addr)) (fp : List Addr) => ifs_ok (fun m e ce h => ((eb s H L cl fp).1 m e ce h).2) g3 hone
            rcases compG_of g4 with ⟨rfl, rfl⟩ | ⟨tg1, it1, ifs1, as1, rest1, tg1', it1', ifs1', rest1', m1', rfl, rfl, k1, k2, k3, k4, k5⟩
            · refine bothF (fun _ => rfl) (PE.imp (pe_lc C.ctx.calm C.nd (i_ok he C g2 g5) ok hgg hif hee (compI_set g2 _)) fun σ H Q h => lc1_imp h1 hix1 h)
            · rcases compG_of k4 with ⟨rfl, rfl⟩ | ⟨_, _, _, _, _, _, _, _, _, _, rfl, _⟩
              · rw [List.all_cons, Bool.and_eq_true, Bool.and_eq_true] at hall
                obtain ⟨⟨hone1, has1⟩, _⟩ := hall
                have has1 := beq_iff_eq.mp has1
                simp only at has1
                subst has1
                have hix2 : ∀ i ∈ tgIxs tg1', i ∈ (ownOf c scope).map (·.2) := fun i hi => by
                  have := hix.2
                  rw [List.all_cons, Bool.and_eq_true] at this
                  have := List.all_eq_true.mp this.1 i hi
                  simpa using this
                refine bothF (fun _ => rfl) (PE.imp (pe_lc2 C.ctx.calm C.nd (i_ok he C g2 g5) ok hix2 hgg hif
                  (fun s H L cl fp => i_ok (fun m e ce h => rdG_E ((eb s H L cl fp).1 m e ce h).1) (C.blk s H scope cl L fp) k2 k5)
                  (fun s H L cl fp => tg_ok (C.blk s H scope cl L fp) 20 tg1 tg1' k1 depthFuel (by decide))
                  (fun s H L cl fp => ifs_ok (fun m e ce h => ((eb s H L cl fp).1 m e ce h).2) k3 hone1) hee (compI_set g2 _) (compI_set k2)) fun σ H Q h => lc2_imp h1 hix1 h)
              · simp at hlen
          · cases h
        · cases h
    · cases h
end Pv

/-! Pv24: statements. -/
namespace Pv
open PySem L2 PyProof.Rows

theorem ex_all {P : Prog} {T : Tb} : ∀ n d, ExOk P T n d
  | 0, _ => ex_zero
  | n + 1, d => ex_step (ex_all n d)
section
variable {K : PySem.W.Frag} {T : Tb} {g g' : Gh} {H H' : Hp} {W : WX} {σ σ' : L2.St} {D : Ends}
theorem rdFl.after {res : Res Fl} (h : rdFl K T W res g σ H D) (p : Post g H g' H') : rdFl K T W res g' σ' H' D := by
  cases res with
  | bad => exact h
  | ex x A => exact fun g2 s2 H2 c d p2 => h g2 s2 H2 c d (p.trans p2)
  | ok f A =>
    cases f with
    | next ρ => exact fun g2 s2 H2 p2 => h g2 s2 H2 (p.trans p2)
    | brk ρ => exact fun g2 s2 H2 p2 => h g2 s2 H2 (p.trans p2)
    | ret d => exact Out.after h p
end
section
variable {X : Cx} {T : Tb} {W : WX} {r r1 : Ev} {k : Nat}
theorem ss_nil : PSs X [] (rdSs X.K T W r []) := PSs.imp pss_nil fun D σ H h => by
  obtain ⟨g, ρ, A, rA, rS, h⟩ := h
  exact h g σ H (Post.refl g H) rA rS
theorem ss_cons {s : Stmt} {ss : List Stmt} {cs : S} {css : List S} (hs : PS X s (rdS X.K T W r cs)) (hss : PSs X ss (rdSs X.K T W r css)) : PSs X (s :: ss) (rdSs X.K T W r (cs :: css)) := PSs.imp (pss_cons hs hss) fun D σ H h => by
  obtain ⟨g, ρ, A, rA, rS, h⟩ := h
  refine ⟨g, ρ, A, rA, rS, ?_⟩
  simp only [evSs] at h
  cases e1 : r.s cs ρ A with
  | bad => rw [e1] at h; exact h
  | ex x A1 => rw [e1] at h; exact h
  | ok f A1 =>
    cases f with
    | next ρ1 =>
      simp only [e1] at h
      exact fun g1 σ1 H1 p1 rA1 rS1 => ⟨g1, ρ1, A1, rA1, rS1, h.after p1⟩
    | brk ρ1 => simp only [e1] at h; exact h
    | ret d => simp only [e1] at h; exact h
section
variable (h1 : ∀ x ρ A, r1.s x ρ A = stepS r x ρ A)
include h1
theorem st_ex {e : Expr} {ce : E} {pos : Pos} (hl : isLc e = false) (hc : ∀ env, swapsWith e none pos.line env = pure false) (he : PE X e (rdE X.K T W r ce)) : PS X (.Expr e pos) (rdS X.K T W r1 (.ex ce)) := PS.imp (ps_expr he (hc _)) fun D σ H h => by
  obtain ⟨g, ρ, A, rA, rS, h⟩ := h
  rw [h1] at h
  simp only [stepS] at h
  refine ⟨g, ρ, A, rA, rS, ?_⟩
  cases e1 : r.e ce ρ A with
  | bad => rw [e1] at h; exact h
  | ex x A1 => rw [e1] at h; exact fun g' H' c d p => h g' σ H' c d p
  | ok d A1 =>
    simp only [e1] at h
    exact fun g' v H' p r' _ => h g' σ H' p r' (rS.keeps (rA.keeps p))
theorem st_pass {pos : Pos} : PS X (.Pass pos) (rdS X.K T W r1 .pass) := PS.imp ps_pass fun D σ H h => by
  obtain ⟨g, ρ, A, rA, rS, h⟩ := h
  rw [h1] at h
  exact h g σ H (Post.refl g H) rA rS
theorem st_brk {pos : Pos} : PS X (.Break pos) (rdS X.K T W r1 .brk) := PS.imp ps_break fun D σ H h => by
  obtain ⟨g, ρ, A, rA, rS, h⟩ := h
  rw [h1] at h
  exact h g σ H (Post.refl g H) rA rS
theorem st_retN {pos : Pos} : PS X (.Return none pos) (rdS X.K T W r1 .retN) := PS.imp ps_retN fun D σ H h => by
  obtain ⟨g, ρ, A, rA, rS, h⟩ := h
  rw [h1] at h
  exact h g .non H (Post.refl g H) rA .non
theorem st_ret {e : Expr} {ce : E} {pos : Pos} (he : PE X e (rdE X.K T W r ce)) : PS X (.Return (some e) pos) (rdS X.K T W r1 (.ret ce)) := PS.imp (ps_ret he) fun D σ H h => by
  obtain ⟨g, ρ, A, rA, rS, h⟩ := h
  rw [h1] at h
  simp only [stepS] at h
  refine ⟨g, ρ, A, rA, rS, ?_⟩
  cases e1 : r.e ce ρ A with
  | bad => rw [e1] at h; exact h
  | ex x A1 => rw [e1] at h; exact fun g' H' c d p => h g' σ H' c d p
  | ok d A1 => simp only [e1] at h; exact h
theorem st_if {e : Expr} {a b : List Stmt} {ce : E} {ca cb : List S} {pos : Pos} (hc : PT X e (rdT X.K T W r ce)) (ha : PSs X a (rdSs X.K T W r ca)) (hb : PSs X b (rdSs X.K T W r cb)) : PS X (.If e a b pos) (rdS X.K T W r1 (.ifs ce ca cb)) := PS.imp (ps_if hc ha hb) fun D σ H h => by
  obtain ⟨g, ρ, A, rA, rS, h⟩ := h
  rw [h1] at h
  simp only [stepS] at h
  refine ⟨g, ρ, A, rA, rS, ?_⟩
  cases e1 : r.e ce ρ A with
  | bad => rw [e1] at h; exact h
  | ex x A1 => rw [e1] at h; exact fun g' H' c d p => h g' σ H' c d p
  | ok x A1 =>
    simp only [e1] at h ⊢
    cases e2 : truth A1 x with
    | none => rw [e2] at h; exact h
    | some bb =>
      intro g1 H1 p1 rA1
      have rS1 := rS.keeps (rA.keeps p1)
      cases bb with
      | true =>
        simp only [e2] at h
        simp only [if_true]
        exact ⟨g1, ρ, A1, rA1, rS1, h.after p1⟩
      | false =>
        simp only [e2] at h
        simp only [Bool.false_eq_true, if_false]
        exact ⟨g1, ρ, A1, rA1, rS1, h.after p1⟩
theorem st_for {tg it : Expr} {ctg : Tg} {cit : I} {b : List Stmt} {cb : List S} {pos : Pos} (own : PassesOwn (model X.prog X.w) X.A X.env X.xe) (hc : X.calm = true) (hi : PI X tg it (rdI X.K T W r cit)) (hg : PG X tg (rdTg X.K depthFuel ctg)) (hb : PSs X b (rdSs X.K T W r cb))
    (hs : ∀ x, foldedSetIterable it X.env x = pure x) : PS X (.For tg it b [] pos) (rdS X.K T W r1 (.for_ ctg cit cb)) := PS.imp (ps_for own hc hi hg hb hs) fun D σ H h => by
  obtain ⟨g, ρ, A, rA, rS, h⟩ := h
  rw [h1] at h
  simp only [stepS] at h
  refine ⟨g, ρ, A, rA, rS, ?_⟩
  cases e1 : evI r ρ cit A with
  | bad => rw [e1] at h; exact h
  | ex x A1 => rw [e1] at h; exact fun g' H' c d p => h g' σ H' c d p
  | ok i A1 =>
    simp only [e1] at h
    intro g1 H1 J p1 rA1 ii
    refine ⟨fun i m σ H => ∃ g ρ it A, RelA X.K g A H ∧ RepS X.K g H ρ σ ∧ ItIs X.K it J i g H ∧ rdFl X.K T W (forLoop ctg (evSs r cb) m it ρ A) g σ H D, ⟨r.fuel, g1, ρ, i, A1, rA1, rS.keeps (rA.keeps p1), ii, h.after p1⟩, ?_⟩
    rintro i m σ H ⟨g, ρ, it, A, rA, rS, ii, h⟩
    cases m with
    | zero => exact h.elim
    | succ m =>
      simp only [forLoop] at h
      cases en : it.next A with
      | none => rw [en] at h; exact h.elim
      | some o =>
        rcases ii.step rA en with ⟨rfl, st⟩ | ⟨x, it', rfl, go, yl⟩
        · rw [en] at h
          exact .inl ⟨st, h g σ H (Post.refl g H) rA rS⟩
        · simp only [en] at h
          refine .inr ⟨go, _, fun σ' H' w => ⟨m, Nat.lt_succ_self m, w⟩, fun v H' hy => ?_⟩
          obtain ⟨g1, p1, rA1, rd1, ii1⟩ := yl v H' hy
          refine ⟨g1, ρ, A, x, rA1, rS.keeps (rA.keeps p1), rd1, ?_⟩
          cases eb : bindT depthFuel ctg x ρ with
          | none => rw [eb] at h; exact h
          | some ρ1 =>
            simp only [eb] at h
            intro σ2 rS2 _
            refine ⟨g1, ρ1, A, rA1, rS2, ?_⟩
            cases e2 : evSs r cb ρ1 A with
            | bad => rw [e2] at h; exact h
            | ex x A2 => rw [e2] at h; exact rdFl.after (K := X.K) (T := T) (W := W) (res := .ex x A2) (σ := σ) (σ' := σ) (D := D) h p1
            | ok f A2 =>
              cases f with
              | next ρ2 =>
                simp only [e2] at h
                exact fun g3 σ3 H3 p3 rA3 rS3 => ⟨g3, ρ2, it', A2, rA3, rS3, ii1.keeps (rA1.keeps p3), h.after (p1.trans p3)⟩
              | brk ρ2 =>
                simp only [e2] at h
                exact fun g3 σ3 H3 p3 rA3 rS3 => h g3 σ3 H3 (p1.trans p3) rA3 rS3
              | ret d =>
                simp only [e2] at h
                exact Out.after h p1
theorem st_while {e : Expr} {ce : E} {b : List Stmt} {cb : List S} {pos : Pos} (own : PassesOwn (model X.prog X.w) X.A X.env X.xe) (he : PT X e (rdT X.K T W r ce)) (hb : PSs X b (rdSs X.K T W r cb)) : PS X (.While e b [] pos) (rdS X.K T W r1 (.whl ce cb)) := PS.imp (ps_while own he hb) fun D σ H h => by
  obtain ⟨g, ρ, A, rA, rS, h⟩ := h
  rw [h1] at h
  simp only [stepS] at h
  refine ⟨fun m σ H => ∃ g ρ A, RelA X.K g A H ∧ RepS X.K g H ρ σ ∧ rdFl X.K T W (whLoop (r.e ce) (evSs r cb) m ρ A) g σ H D, ⟨r.fuel, g, ρ, A, rA, rS, h⟩, ?_⟩
  rintro m σ H ⟨g, ρ, A, rA, rS, h⟩
  cases m with
  | zero => exact h.elim
  | succ m =>
    simp only [whLoop] at h
    refine ⟨g, ρ, A, rA, rS, ?_⟩
    cases e1 : r.e ce ρ A with
    | bad => rw [e1] at h; exact h
    | ex x A1 => rw [e1] at h; exact fun g' H' c d p => h g' σ H' c d p
    | ok x A1 =>
      simp only [e1] at h ⊢
      cases e2 : truth A1 x with
      | none => rw [e2] at h; exact h
      | some bb =>
        intro g1 H1 p1 rA1
        have rS1 := rS.keeps (rA.keeps p1)
        cases bb with
        | false =>
          simp only [e2] at h
          simp only [Bool.false_eq_true, if_false]
          exact h g1 σ H1 p1 rA1 rS1
        | true =>
          simp only [e2] at h
          simp only [if_true]
          refine ⟨_, fun σ' H' w => ⟨m, Nat.lt_succ_self m, w⟩, g1, ρ, A1, rA1, rS1, ?_⟩
          cases e3 : evSs r cb ρ A1 with
          | bad => rw [e3] at h; exact h
          | ex x A2 => rw [e3] at h; exact rdFl.after (K := X.K) (T := T) (W := W) (res := .ex x A2) (σ := σ) (σ' := σ) (D := D) h p1
          | ok f A2 =>
            cases f with
            | next ρ2 =>
              simp only [e3] at h
              exact fun g3 σ3 H3 p3 rA3 rS3 => ⟨g3, ρ2, A2, rA3, rS3, h.after (p1.trans p3)⟩
            | brk ρ2 =>
              simp only [e3] at h
              exact fun g3 σ3 H3 p3 rA3 rS3 => h g3 σ3 H3 (p1.trans p3) rA3 rS3
            | ret d =>
              simp only [e3] at h
              exact Out.after h p1
/-- the reading of a store -/
theorem asg_rd {K : PySem.W.Frag} {t : Tg} {ce : E} {D : Ends} {σ : L2.St} {H : Hp} (h : rdS K T W r1 (.asg t ce) D σ H) : rdE K T W r ce σ H fun x H1 => rdTg K depthFuel t x σ H1 D.nx := by
  obtain ⟨g, ρ, A, rA, rS, h⟩ := h
  rw [h1] at h
  simp only [stepS] at h
  refine ⟨g, ρ, A, rA, rS, ?_⟩
  cases e1 : r.e ce ρ A with
  | bad => rw [e1] at h; exact h
  | ex x A1 => rw [e1] at h; exact fun g' H' c d p => h g' σ H' c d p
  | ok x A1 =>
    simp only [e1] at h
    intro g1 v H1 p1 rA1 rd
    refine ⟨g1, ρ, A1, x, rA1, rS.keeps (rA.keeps p1), rd, ?_⟩
    cases e2 : bindT depthFuel t x ρ with
    | none => rw [e2] at h; exact h
    | some ρ1 =>
      simp only [e2] at h
      exact fun σ' rS' _ => h g1 σ' H1 p1 rA1 rS'
theorem asg_nm {K : PySem.W.Frag} {i : Nat} {ce : E} {D : Ends} {σ : L2.St} {H : Hp} (h : rdS K T W r1 (.asg (.nm i) ce) D σ H) : rdE K T W r ce σ H fun x H1 => gName i x σ H1 D.nx := by
  obtain ⟨g, ρ, A, rA, rS, h⟩ := asg_rd h1 h
  refine ⟨g, ρ, A, rA, rS, ?_⟩
  cases e1 : r.e ce ρ A with
  | bad => rw [e1] at h; exact h
  | ex x A1 => rw [e1] at h; exact h
  | ok x A1 =>
    rw [e1] at h
    intro g1 v H1 p1 rA1 rd
    obtain ⟨g2, ρ2, A2, d2, rA2, rS2, rd2, h2⟩ := h g1 v H1 p1 rA1 rd
    rw [show bindT depthFuel (.nm i) d2 ρ2 = some (ρ2.set i (some d2)) from rfl] at h2
    refine h2 _ (rS2.set rd2) ⟨by simp, fun j hj => ?_⟩
    rw [List.getElem?_set_ne (fun z => hj (by simp [tgIxs, z]))]
end
theorem cell_imp {K : PySem.W.Frag} {ce : E} {σ : L2.St} {H : Hp} {Q : VK} (h1 : ∀ x ρ A, r1.e x ρ A = stepE r x ρ A) (h : rdE K T W r1 (.cell ce) σ H Q) : rdF K T W r ce σ H Q := by
  obtain ⟨g, ρ, A, rA, rS, h⟩ := h
  rw [h1] at h
  simp only [stepE] at h
  refine ⟨g, ρ, A, rA, rS, ?_⟩
  cases e1 : r.e ce ρ A with
  | bad => rw [e1] at h; exact h
  | ex x A1 => rw [e1] at h; exact h
  | ok x A1 =>
    rw [e1] at h
    cases x with
    | lst xs =>
      simp only at h
      split at h
      · rename_i he
        split at he
        · rename_i hz
          cases he
          intro g' p vs H' po r' hp np nf e rl
          refine h (g'.cell p) _ H' (po.cell hp) (r'.cell np nf e rl hz) (.loc ?_)
          show (g'.φ ++ [p])[A1.size]? = some p
          rw [← r'.len]; simp
        · cases he
      · rename_i he
        split at he <;> cases he
      · exact h.elim
    | _ => exact h
end
theorem swap_ok {env : PySem.Env} {ts vs : List Expr} {k k' : Nat} {p p' : Pos} {o : Option (List Str)} (hk : env.scope.kind = .function) (h : swapNames env.scope ts vs = some o) : swappedStores [.Tuple ts k p] (.Tuple vs k' p') env = pure o := by
  have hb : env.blockKind = .function := by unfold PySem.Env.blockKind; rw [hk]; rfl
  unfold swapNames at h
  unfold swappedStores
  simp only [hb, bne_self_eq_false, Bool.or_false, PySem.Env.kindOf]
  split at h
  · rename_i c1
    cases h
    rw [if_pos c1]
  · rename_i c1
    rw [if_neg c1]
    split at h
    · rename_i c2
      cases h
      exact if_pos c2
    · rename_i c2
      refine (if_neg c2).trans ?_
      simp only at h
      split at h
      · rename_i c3
        cases h
        exact if_pos c3
      · rename_i c3
        refine (if_neg c3).trans ?_
        split at h
        · rename_i c4
          cases h
          exact if_pos c4
        · rename_i c4
          refine (if_neg c4).trans ?_
          split at h
          · cases h
          · rename_i c5
            cases h
            exact if_neg c5
theorem fm_full {α β : Type} {f : α → Option β} : ∀ {l : List α}, (l.filterMap f).length = l.length → l.map f = (l.filterMap f).map some
  | [], _ => rfl
  | a :: l, h => by
    cases e : f a with
    | none =>
      rw [List.filterMap_cons_none e] at h
      have := List.length_filterMap_le f l
      simp at h
      omega
    | some b =>
      rw [List.filterMap_cons_some e] at h ⊢
      have := fm_full (f := f) (l := l) (by simpa using h)
      simp [e, this]
def nmAt (sc : Scope) (line : Nat) : Expr → Option Str
  | .Name id pos => if sc.names.lookup id == some .local && pos.line == line then some id else none
  | _ => none
theorem nmAt_of {sc : Scope} {line : Nat} {e : Expr} {x : Str} (h : nmAt sc line e = some x) : ∃ p, e = .Name x p ∧ sc.names.lookup x = some .local := by
  unfold nmAt at h
  split at h
  · split at h
    · rename_i hc
      cases h
      rw [Bool.and_eq_true] at hc
      exact ⟨_, rfl, by simpa using hc.1⟩
    · cases h
  · cases h
theorem swap_names {sc : Scope} {ts vs : List Expr} {ns : List Str} (h : swapNames sc ts vs = some (some ns)) : (ts.length = 2 ∨ ts.length = 3) ∧ vs.length = ts.length ∧ (∃ line, ts.map (nmAt sc line) = ns.map some) := by
  unfold swapNames at h
  split at h
  · cases h
  · rename_i c1
    have hl : (ts.length = 2 ∨ ts.length = 3) ∧ vs.length = ts.length := by
      have c1 : (¬ts.length = 2 → ts.length = 3) ∧ vs.length = ts.length := by simpa using c1
      refine ⟨?_, c1.2⟩
      by_cases h2 : ts.length = 2
      · exact .inl h2
      · exact .inr (c1.1 h2)
    split at h
    · cases h
    · simp only at h
      split at h
      · cases h
      · rename_i c3
        split at h
        · cases h
        · split at h
          · cases h
          · cases h
            refine ⟨hl.1, hl.2, ⟨(Option.map (fun x : Expr => x.pos.line) ts.head?).getD 0, ?_⟩⟩
            · have e1 : (ts.filterMap (nmAt sc ((Option.map (fun x : Expr => x.pos.line) ts.head?).getD 0))).length = ts.length := by
                have := c3
                simp only [Bool.or_eq_true, bne_iff_ne, ne_eq, not_or, Classical.not_not] at this
                exact this.1
              exact fm_full e1
theorem swap_two {sc : Scope} {t1 t2 : Expr} {vs : List Expr} {ns : List Str} (h : swapNames sc [t1, t2] vs = some (some ns)) : vs.length = 2 ∧ ∃ x px y py, t1 = .Name x px ∧ t2 = .Name y py ∧ ns = [x, y] ∧ sc.names.lookup x = some .local ∧ sc.names.lookup y = some .local := by
  obtain ⟨_, hv, ⟨line, hm⟩⟩ := swap_names h
  refine ⟨hv, ?_⟩
  rcases ns with _ | ⟨x, _ | ⟨y, _ | ⟨z, ns⟩⟩⟩ <;> simp only [List.map_cons, List.map_nil, List.cons.injEq, reduceCtorEq, and_false, and_true] at hm
  obtain ⟨px, e1, l1⟩ := nmAt_of hm.1
  obtain ⟨py, e2, l2⟩ := nmAt_of hm.2
  exact ⟨x, px, y, py, e1, e2, rfl, l1, l2⟩
theorem swap_three {sc : Scope} {t1 t2 t3 : Expr} {vs : List Expr} {ns : List Str} (h : swapNames sc [t1, t2, t3] vs = some (some ns)) : vs.length = 3 ∧ ∃ x px y py z pz, t1 = .Name x px ∧ t2 = .Name y py ∧ t3 = .Name z pz ∧ ns = [x, y, z] ∧ sc.names.lookup x = some .local ∧ sc.names.lookup y = some .local ∧ sc.names.lookup z = some .local := by
  obtain ⟨_, hv, ⟨line, hm⟩⟩ := swap_names h
  refine ⟨hv, ?_⟩
  rcases ns with _ | ⟨x, _ | ⟨y, _ | ⟨z, _ | ⟨w, ns⟩⟩⟩⟩ <;> simp only [List.map_cons, List.map_nil, List.cons.injEq, reduceCtorEq, and_false, and_true] at hm
  obtain ⟨px, e1, l1⟩ := nmAt_of hm.1
  obtain ⟨py, e2, l2⟩ := nmAt_of hm.2.1
  obtain ⟨pz, e3, l3⟩ := nmAt_of hm.2.2
  exact ⟨x, px, y, py, z, pz, e1, e2, e3, rfl, l1, l2, l3⟩
end Pv

/-! Pv25: stores; all statements. -/
namespace Pv
open PySem L2 PyProof.Rows

section
variable {P : Prog} {X : Cx} {T : Tb} {W : WX} {c : Cc} {d : Nat}
theorem ev_e {n : Nat} : ∀ x ρ A, (evs P (n + 1) d).e x ρ A = stepE (evs P n d) x ρ A := fun _ _ _ => rfl
theorem ev_s {n : Nat} : ∀ x ρ A, (evs P (n + 1) d).s x ρ A = stepS (evs P n d) x ρ A := fun _ _ _ => rfl
theorem no_E {ce : E} {σ : L2.St} {H : Hp} {Q : VK} : ¬ rdE X.K T W (evs P 0 d) ce σ H Q := fun ⟨_, _, _, _, _, h⟩ => h
theorem no_F {ce : E} {σ : L2.St} {H : Hp} {Q : VK} : ¬ rdF X.K T W (evs P 0 d) ce σ H Q := fun ⟨_, _, _, _, _, h⟩ => h
theorem pa_false {e : List Expr} {t : TA} (h : ∀ σ H Q, ¬ t σ H Q) : PA X e t := ⟨fun _ _ _ σ H Q _ q => absurd q (h σ H Q)⟩
theorem ps_false {e : Stmt} {t : TS} (h : ∀ D σ H, ¬ t D σ H) : PS X e t := ⟨fun _ _ σ H D _ q => absurd q (h D σ H)⟩
variable (C : CxOk T X c d W)
include C
theorem e_ok {n : Nat} (F : ∀ n', n' < n → FnsAt P T X c.fns n' d) {m : Nat} {e : Expr} {ce : E} (h : compE c m e = some ce) : PE X e (rdE X.K T W (evs P n d) ce) := rdG_E ((ex_all n d X c W C F).1 m e ce h).1
theorem t_ok {n : Nat} (F : ∀ n', n' < n → FnsAt P T X c.fns n' d) {m : Nat} {e : Expr} {ce : E} (h : compE c m e = some ce) : PT X e (rdT X.K T W (evs P n d) ce) := ((ex_all n d X c W C F).1 m e ce h).2
theorem cell_ok {n : Nat} (F : ∀ n', n' < n → FnsAt P T X c.fns n' d) {m : Nat} {e : Expr} {ce : E} (h : compE c m e = some ce) : PE X e (rdE X.K T W (evs P n d) (cellE ce)) := by
  unfold cellE
  split
  · rename_i hf
    cases n with
    | zero => exact pe_false fun _ _ _ => no_E
    | succ n =>
      have := ((ex_all n d X c W C fun n' hn => F n' (Nat.lt_succ_of_lt hn)).1 m e ce h).1
      unfold rdG at this
      rw [if_pos hf] at this
      exact PE.imp this fun σ H Q q => cell_imp ev_e q
  · exact e_ok C F h
theorem go_ok {n : Nat} (F : ∀ n', n' < n → FnsAt P T X c.fns n' d) : ∀ (ts es : List Expr) (m : Nat) (ces : List Ar), compAs c m es = some ces → PA X es (rdAr X.K T W (evs P n d) (cellsGo c.mu ts ces))
  | ts, es, 0, _, h => by unfold compAs at h; cases h
  | [], es, m + 1, ces, h => by
    have : cellsGo c.mu [] ces = ces := by cases ces <;> rfl
    rw [this]
    exact as_ok (fun m e ce h => e_ok C F h) es (m + 1) ces h
  | t :: ts, [], m + 1, ces, h => by
    unfold compAs at h
    cases h
    have : cellsGo c.mu (t :: ts) [] = [] := by cases t <;> rfl
    rw [this]
    exact d_nil
  | t :: ts, e :: es, m + 1, _, h => by
    unfold compAs at h
    split at h
    · contradiction
    · rename_i e' p r' heq
      cases heq
      split at h
      · rename_i ce ces h1 h2
        cases h
        have : cellsGo c.mu (t :: ts) (.all ce :: ces) = .all ce :: cellsGo c.mu ts ces := by cases t <;> rfl
        rw [this]
        exact d_all (e_ok C F h1) (go_ok F ts _ m ces h2)
      · cases h
    · rename_i e' r' hne heq
      cases heq
      split at h
      · rename_i ce ces h1 h2
        cases h
        have ih := go_ok F ts _ m ces h2
        have key : ∃ ce', cellsGo c.mu (t :: ts) (.one ce :: ces) = .one ce' :: cellsGo c.mu ts ces ∧ PE X e (rdE X.K T W (evs P n d) ce') := by
          cases t <;> first | exact ⟨ce, rfl, e_ok C F h1⟩ | skip
          rename_i x p
          refine ⟨_, rfl, ?_⟩
          split
          · exact cell_ok C F h1
          · exact e_ok C F h1
        obtain ⟨ce', k1, k2⟩ := key
        rw [k1]
        exact d_one (compE_star h1) k2 ih
      · cases h
/-- name = [..], the list on its way to the name -/
theorem lc_set {n : Nat} (F : ∀ n', n' < n → FnsAt P T X c.fns n' d) {m : Nat} {elt : Expr} {gs : List Comprehension} {scope : Scope} {pos py spos : Pos} {ce : E} {y : Str} {i : Nat} (h : compE c m (.ListComp elt gs scope pos) = some ce) (hy : X.N[i]? = some y) (hyl : X.env.scope.names.lookup y = some .local)
    (hsw : swapsWith (.ListComp elt gs scope pos) (some (.Name y py)) spos.line X.env = pure true) : PS X (.Assign [.Name y py] (.ListComp elt gs scope pos) spos) (tAsg (rdF X.K T W (evs P n d) ce) (gName i)) := by
  cases n with
  | zero => exact ps_false fun _ _ _ => no_F
  | succ n =>
  have F' : ∀ n', n' < n → FnsAt P T X c.fns n' d := fun n' hn => F n' (Nat.lt_succ_of_lt hn)
  have he : ∀ m e ce, compE c m e = some ce → PE X e (rdE X.K T W (evs P n d) ce) := fun m e ce h => e_ok C F' h
  have blkIH := fun (s : Shared) (H : Hp) (scope : Scope) (cl : List (Str × Addr)) (L : Addr) (fp : List Addr) => ex_all n d (X.blk s H scope (compEnvC scope cl L X.env) fp) (c.inn scope) W0 (C.blk s H scope cl L fp) F'
  cases m with
  | zero => unfold compE at h; cases h
  | succ m =>
    unfold compE at h
    simp only at h
    split at h
    · cases h
    · rename_i hq
      simp only [Bool.not_eq_true, Bool.not_eq_false', Bool.and_eq_true, decide_eq_true_eq] at hq
      obtain ⟨hall, hlen⟩ := hq
      split at h
      · rename_i gs' celt h2 h3
        split at h
        · rename_i hq2
          cases h
          rw [Bool.and_eq_true] at hq2
          obtain ⟨hblk, hix⟩ := hq2
          have ok : BlkOk X.N X.env.scope scope (ownOf c scope) := by
            rw [C.N, C.sc]; exact blkOk_by hblk
          obtain ⟨tg, it, ifs, as, rest, tg', it', ifs', rest', m', rfl, rfl, g1, g2, g3, g4, g5⟩ := compG0_of h2
          rw [List.all_cons, Bool.and_eq_true, Bool.and_eq_true] at hall
          obtain ⟨⟨hone, has⟩, hall⟩ := hall
          have has := beq_iff_eq.mp has
          simp only at has
          subst has
          rw [List.all_cons, Bool.and_eq_true] at hix
          have hix1 : ∀ i ∈ tgIxs tg', i ∈ (ownOf c scope).map (·.2) := fun i hi => by
            have := List.all_eq_true.mp hix.1 i hi
            simpa using this
          have eb := fun (s : Shared) (H : Hp) (L : Addr) (cl : List (Str × Addr)) (fp : List Addr) => blkIH s H scope cl L fp
          have hee := fun (s : Shared) (H : Hp) (L : Addr) (cl : List (Str × Addr)) (fp : List Addr) => rdG_E ((eb s H L cl fp).1 _ _ _ h3).1
          have hgg := fun (s : Shared) (H : Hp) (L : Addr) (cl : List (Str × Addr)) (fp : List Addr) => tg_ok (C.blk s H scope cl L fp) 20 tg tg' g1 depthFuel (by decide)
          have hif := fun (s : Shared) (H : Hp) (L : Addr) (cl : List (Str × Addr)) (fp : List Addr) => ifs_ok (fun m e ce h => ((eb s H L cl fp).1 m e ce h).2) g3 hone
          rcases compG_of g4 with ⟨rfl, rfl⟩ | ⟨tg1, it1, ifs1, as1, rest1, tg1', it1', ifs1', rest1', m1', rfl, rfl, k1, k2, k3, k4, k5⟩
          · exact PS.imp (ps_setLc C.ctx.calm C.nd hy hyl hsw (i_ok he C g2 g5) ok hgg hif hee (compI_set g2 _)) fun D σ H h => lc1_imp ev_e hix1 h
          · rcases compG_of k4 with ⟨rfl, rfl⟩ | ⟨_, _, _, _, _, _, _, _, _, _, rfl, _⟩
            · rw [List.all_cons, Bool.and_eq_true, Bool.and_eq_true] at hall
              obtain ⟨⟨hone1, has1⟩, _⟩ := hall
              have has1 := beq_iff_eq.mp has1
              simp only at has1
              subst has1
              have hix2 : ∀ i ∈ tgIxs tg1', i ∈ (ownOf c scope).map (·.2) := fun i hi => by
                have := hix.2
                rw [List.all_cons, Bool.and_eq_true] at this
                have := List.all_eq_true.mp this.1 i hi
                simpa using this
              exact PS.imp (ps_setLc2 C.ctx.calm C.nd hy hyl hsw (i_ok he C g2 g5) ok hix2 hgg hif
                (fun s H L cl fp => i_ok (fun m e ce h => rdG_E ((eb s H L cl fp).1 m e ce h).1) (C.blk s H scope cl L fp) k2 k5)
                (fun s H L cl fp => tg_ok (C.blk s H scope cl L fp) 20 tg1 tg1' k1 depthFuel (by decide))
                (fun s H L cl fp => ifs_ok (fun m e ce h => ((eb s H L cl fp).1 m e ce h).2) k3 hone1) hee (compI_set g2 _) (compI_set k2)) fun D σ H h => lc2_imp ev_e hix1 h
            · simp at hlen
        · cases h
      · cases h
end
end Pv

/-! Pv26: all statements. -/
namespace Pv
open PySem L2 PyProof.Rows

section
variable {P : Prog} {X : Cx} {T : Tb} {W : WX} {c : Cc} {d : Nat}
theorem sw_sole_tup {ts : List Expr} {k : Nat} {p : Pos} {e : Expr} {l : Nat} {env : PySem.Env} : swapsWithSole [.Tuple ts k p] e l env = pure false := by
  cases e <;> rfl
theorem lc_bool {elt : Expr} {gs : List Comprehension} {scope : Scope} {pos py : Pos} {y : Str} {l : Nat} {env : PySem.Env} : ∃ b : Bool, swapsWith (.ListComp elt gs scope pos) (some (.Name y py)) l env = pure b ∧ (b = true → env.kindOf y = some .local) := by
  refine ⟨_, rfl, fun h => ?_⟩
  rw [Bool.and_eq_true, Bool.and_eq_true, Bool.and_eq_true] at h
  simpa using h.1.1.2
theorem compTg_nm {n : Nat} {x : Str} {p : Pos} {t : Tg} (h : compTg c (n + 1) (.Name x p) = some t) : ∃ i, t = .nm i ∧ ixOf x c.N = some i := by
  unfold compTg at h
  simp only at h
  split at h
  · split at h
    · rename_i i hi
      cases h
      exact ⟨i, rfl, hi⟩
    · cases h
  · cases h
/-- the stores of a display -/
theorem par_rd {K : PySem.W.Frag} {n : Nat} {ts : List Tg} {ces : List Ar} {D : Ends} {σ : L2.St} {H : Hp} (h : rdS K T W (evs P (n + 2) d) (.asg (.tp ts) (.tup ces)) D σ H) :
    rdAr K T W (evs P n d) ces σ H fun vs H1 => ∃ g1 ρ A1 xs, RelA K g1 A1 H1 ∧ RepS K g1 H1 ρ σ ∧ RepL K g1 H1 xs vs ∧ (match bindL (bindT 39) ts xs ρ with
      | some ρ' => ∀ σ', RepS K g1 H1 ρ' σ' → D.nx σ' H1
      | none => False) := by
  obtain ⟨g, ρ, A, rA, rS, h⟩ := h
  rw [ev_s] at h
  simp only [stepS, ev_e, stepE] at h
  refine ⟨g, ρ, A, rA, rS, ?_⟩
  cases e1 : evAr (evs P n d) ρ ces A with
  | bad => rw [e1] at h; exact h
  | ex x A1 => rw [e1] at h; exact fun g' H' c d p => h g' σ H' c d p
  | ok xs A1 =>
    simp only [e1] at h
    intro g1 vs H1 p1 rA1 rl
    refine ⟨g1, ρ, A1, xs, rA1, rS.keeps (rA.keeps p1), rl, ?_⟩
    by_cases hz : xs.length ≤ sizeLine
    · simp only [if_pos hz] at h
      rw [show bindT depthFuel (.tp ts) (.tup xs) ρ = bindL (bindT 39) ts xs ρ from rfl] at h
      cases e2 : bindL (bindT 39) ts xs ρ with
      | none => rw [e2] at h; exact h
      | some ρ1 =>
        simp only [e2] at h
        exact fun σ' rS' => h g1 σ' H1 p1 rA1 rS'
    · simp only [if_neg hz] at h
      exact h.elim
theorem no_S {cs : S} {D : Ends} {σ : L2.St} {H : Hp} : ¬ rdS X.K T W (evs P 0 d) cs D σ H := fun ⟨_, _, _, _, _, h⟩ => h
theorem no_asg {t : Tg} {e : E} {D : Ends} {σ : L2.St} {H : Hp} : ¬ rdS X.K T W (evs P 1 d) (.asg t e) D σ H := fun ⟨_, _, _, _, _, h⟩ => h
variable (C : CxOk T X c d W)
include C
theorem asg_ok {n : Nat} (F : ∀ n', n' < n → FnsAt P T X c.fns n' d) {m : Nat} {t e : Expr} {t' : Tg} {ce : E} {pos : Pos} (ha : asgOk c.sc t e = true) (h1 : compTg c 20 t = some t') (h2 : compE c m e = some ce) :
    PS X (.Assign [t] e pos) (rdS X.K T W (evs P (n + 1) d) (.asg t' (cellFor c.mu t e ce))) := by
  have hg := tg_ok C 20 t t' h1 depthFuel (by decide)
  have plain : ∀ {ce' : E}, PE X e (rdE X.K T W (evs P n d) ce') → swapsWithSole [t] e pos.line X.env = pure false → swappedStores [t] e X.env = pure none → (assignEach [t] X.env).map (·.2) = [assign t X.env] → PS X (.Assign [t] e pos) (rdS X.K T W (evs P (n + 1) d) (.asg t' ce')) := fun he hs hw ha =>
    PS.imp (ps_asg he hg hs hw ha) fun D σ H h => asg_rd ev_s h
  cases t <;> first | (unfold compTg at h1; cases h1; done) | skip
  case Name x px =>
    have hc : PE X e (rdE X.K T W (evs P n d) (cellFor c.mu (.Name x px) e ce)) := by
      show PE X e (rdE X.K T W (evs P n d) (if c.mu.contains x then cellE ce else ce))
      split
      · exact cell_ok C F h2
      · exact e_ok C F h2
    by_cases hl : isLc e = true
    · cases e <;> first | cases hl | skip
      rename_i elt gs scope lp
      obtain ⟨b, hb, hk⟩ := lc_bool (elt := elt) (gs := gs) (scope := scope) (pos := lp) (py := px) (y := x) (l := pos.line) (env := X.env)
      cases b with
      | false => exact plain hc hb rfl rfl
      | true =>
        unfold compTg at h1
        simp only at h1
        split at h1
        · split at h1
          · rename_i i hi
            cases h1
            have base := fun (k : Nat) (Fk : ∀ n', n' < k → FnsAt P T X c.fns n' d) => lc_set C Fk (py := px) (spos := pos) h2 (C.at hi) (hk rfl) hb
            by_cases hmu : (c.mu.contains x && freshE ce) = true
            · rw [Bool.and_eq_true] at hmu
              have ec : cellFor c.mu (.Name x px) (.ListComp elt gs scope lp) ce = .cell ce := by
                show (if c.mu.contains x then cellE ce else ce) = .cell ce
                rw [if_pos hmu.1]
                unfold cellE
                rw [if_pos hmu.2]
              rw [ec]
              cases n with
              | zero => exact ps_false fun _ _ _ => no_asg
              | succ n => exact PS.imp (base n fun n' hn => F n' (Nat.lt_succ_of_lt hn)) fun D σ H h => cell_imp ev_e (asg_nm ev_s h)
            · have ec : cellFor c.mu (.Name x px) (.ListComp elt gs scope lp) ce = ce := by
                show (if c.mu.contains x then cellE ce else ce) = ce
                split
                · rename_i hx
                  unfold cellE
                  rw [if_neg fun z => hmu (by rw [hx, z]; rfl)]
                · rfl
              rw [ec]
              exact PS.imp (base n F) fun D σ H h => rdE_F (asg_nm ev_s h)
          · cases h1
        · cases h1
    · refine plain hc ?_ (by cases e <;> rfl) rfl
      cases e <;> first | rfl | exact absurd rfl hl | (cases m <;> (unfold compE at h2; cases h2))
  case Tuple ts tk tp =>
    by_cases he : ∃ vs vk vp, e = .Tuple vs vk vp
    · obtain ⟨vs, vk, vp, rfl⟩ := he
      cases m with
      | zero => unfold compE at h2; cases h2
      | succ m =>
      unfold compE at h2
      simp only at h2
      split at h2
      · rename_i ces h3
        cases h2
        show PS X _ (rdS X.K T W (evs P (n + 1) d) (.asg t' (.tup (cellsGo c.mu ts ces))))
        cases n with
        | zero => exact ps_false fun _ _ _ => no_asg
        | succ n =>
        have hpa : PA X vs (rdAr X.K T W (evs P n d) (cellsGo c.mu ts ces)) := go_ok C (fun n' hn => F n' (Nat.lt_succ_of_lt hn)) ts vs m ces h3
        have ha' : (match swapNames c.sc ts vs with
          | some none => true
          | some (some ns) => nodupS ns
          | none => false) = true := ha
        cases hsn : swapNames c.sc ts vs with
        | none => rw [hsn] at ha'; cases ha'
        | some o =>
          have hw : ∀ (pins : List (Addr × Obj)) (σ : L2.St) (H : Hp) (s : Shared), L2.Inv X pins σ H s → swappedStores [.Tuple ts tk tp] (.Tuple vs vk vp) X.env = pure o := fun pins σ H s I => swap_ok I.ok.kind (by rw [C.sc]; exact hsn)
          cases o with
          | none => exact ⟨fun pins s σ H D I q => (plain (s_tup ev_e hpa) sw_sole_tup (hw pins σ H s I) rfl).run pins s σ H D I q⟩
          | some ns =>
            rw [hsn] at ha'
            have hnd := nodupS_ok ha'
            obtain ⟨hl, hv, _⟩ := swap_names hsn
            rcases ts with _ | ⟨t1, _ | ⟨t2, _ | ⟨t3, _ | ⟨t4, ts⟩⟩⟩⟩
            · simp at hl
            · simp at hl
            · obtain ⟨hv, x, px, y, py, rfl, rfl, rfl, lx, ly⟩ := swap_two hsn
              obtain ⟨a, b, rfl⟩ : ∃ a b, vs = [a, b] := by
                rcases vs with _ | ⟨a, _ | ⟨b, _ | ⟨_, vs⟩⟩⟩ <;> simp at hv
                exact ⟨a, b, rfl⟩
              unfold compTg at h1
              simp only [mapO] at h1
              split at h1
              · rename_i tts htts
                cases h1
                split at htts
                · rename_i t1' ht1
                  split at htts
                  · rename_i ts' hts'
                    cases htts
                    split at hts'
                    · rename_i t2' ht2
                      cases hts'
                      unfold compTg at ht1 ht2
                      simp only at ht1 ht2
                      split at ht1
                      · split at ht1
                        · rename_i i hi
                          cases ht1
                          split at ht2
                          · split at ht2
                            · rename_i j hj
                              cases ht2
                              have hij : i ≠ j := fun z => by
                                subst z
                                have e1 := C.at hi
                                rw [C.at hj] at e1
                                cases e1
                                simp at hnd
                              refine ⟨fun pins s σ H D I q => (PS.imp (ps_par C.ctx.calm C.nd (C.at hi) (C.at hj) hij (by rw [C.sc]; exact lx) (by rw [C.sc]; exact ly) hpa (hw pins σ H s I) sw_sole_tup) fun D σ H h => ?_).run pins s σ H D I q⟩
                              have h := par_rd h
                              obtain ⟨g, ρ, A, rA, rS, h⟩ := h
                              refine ⟨g, ρ, A, rA, rS, ?_⟩
                              split at h
                              · rename_i xs A1 e1
                                intro g1 vs H1 p1 rA1 rl
                                obtain ⟨g2, ρ2, A2, ys, rA2, rS2, rl2, hb⟩ := h g1 vs H1 p1 rA1 rl
                                rcases ys with _ | ⟨d1, _ | ⟨d2, _ | ⟨d3, ys⟩⟩⟩
                                · exact hb.elim
                                · exact hb.elim
                                · obtain ⟨v, w, rfl, rv, rw'⟩ := rl2.two
                                  exact ⟨v, w, rfl, hb _ ((rS2.set rv).set rw')⟩
                                · exact hb.elim
                              · exact h
                              · exact h
                            · cases ht2
                          · cases ht2
                        · cases ht1
                      · cases ht1
                    · cases hts'
                  · cases htts
                · cases htts
              · cases h1
            · obtain ⟨hv, x, px, y, py, z, pz, rfl, rfl, rfl, rfl, lx, ly, lz⟩ := swap_three hsn
              obtain ⟨a, b, b', rfl⟩ : ∃ a b b', vs = [a, b, b'] := by
                rcases vs with _ | ⟨a, _ | ⟨b, _ | ⟨b', _ | ⟨_, vs⟩⟩⟩⟩ <;> simp at hv
                exact ⟨a, b, b', rfl⟩
              unfold compTg at h1
              simp only [mapO] at h1
              split at h1
              · rename_i tts htts
                cases h1
                split at htts
                · rename_i t1' ht1
                  split at htts
                  · rename_i ts' hts'
                    cases htts
                    split at hts'
                    · rename_i t2' ht2
                      split at hts'
                      · rename_i ts'' hts''
                        cases hts'
                        split at hts''
                        · rename_i t3' ht3
                          cases hts''
                          obtain ⟨i, rfl, hi⟩ := compTg_nm ht1
                          obtain ⟨j, rfl, hj⟩ := compTg_nm ht2
                          obtain ⟨l, rfl, hll⟩ := compTg_nm ht3
                          have hij : i ≠ j := fun z => by
                            subst z
                            have e1 := C.at hi
                            rw [C.at hj] at e1
                            cases e1
                            simp at hnd
                          have hil : i ≠ l := fun z => by
                            subst z
                            have e1 := C.at hi
                            rw [C.at hll] at e1
                            cases e1
                            simp at hnd
                          have hjl : j ≠ l := fun z => by
                            subst z
                            have e1 := C.at hj
                            rw [C.at hll] at e1
                            cases e1
                            simp at hnd
                          refine ⟨fun pins s σ H D I q => (PS.imp (ps_par3 C.ctx.calm C.nd (C.at hi) (C.at hj) (C.at hll) hij hil hjl (by rw [C.sc]; exact lx) (by rw [C.sc]; exact ly) (by rw [C.sc]; exact lz) hpa (hw pins σ H s I) sw_sole_tup) fun D σ H h => ?_).run pins s σ H D I q⟩
                          have h := par_rd h
                          obtain ⟨g, ρ, A, rA, rS, h⟩ := h
                          refine ⟨g, ρ, A, rA, rS, ?_⟩
                          split at h
                          · rename_i xs A1 e1
                            intro g1 vs H1 p1 rA1 rl
                            obtain ⟨g2, ρ2, A2, ys, rA2, rS2, rl2, hb⟩ := h g1 vs H1 p1 rA1 rl
                            rcases ys with _ | ⟨d1, _ | ⟨d2, _ | ⟨d3, _ | ⟨d4, ys⟩⟩⟩⟩
                            · exact hb.elim
                            · exact hb.elim
                            · exact hb.elim
                            · cases rl2 with
                              | cons rv rl2 =>
                                obtain ⟨w, u, rfl, rw', ru⟩ := rl2.two
                                exact ⟨_, w, u, rfl, hb _ (((rS2.set rv).set rw').set ru)⟩
                            · exact hb.elim
                          · exact h
                          · exact h
                        · cases hts''
                      · cases hts'
                    · cases hts'
                  · cases htts
                · cases htts
              · cases h1
            · simp at hl
      · cases h2
    · have ec : cellFor c.mu (.Tuple ts tk tp) e ce = ce := by
        cases e <;> first | rfl | exact absurd ⟨_, _, _, rfl⟩ he
      rw [ec]
      refine plain (e_ok C F h2) sw_sole_tup ?_ rfl
      cases e <;> first | rfl | exact absurd ⟨_, _, _, rfl⟩ he
end
end Pv

/-! Pv27: all statements, all defs. -/
namespace Pv
open PySem L2 PyProof.Rows

def StOk (P : Prog) (T : Tb) (n d : Nat) : Prop := ∀ (X : Cx) (c : Cc) (W : WX), CxOk T X c d W → (∀ n', n' < n → FnsAt P T X c.fns n' d) →
  ∀ m, (∀ s cs, compS c m s = some cs → PS X s (rdS X.K T W (evs P n d) cs)) ∧ (∀ ss css, compSs c m ss = some css → PSs X ss (rdSs X.K T W (evs P n d) css))
section
variable {P : Prog} {T : Tb} {d : Nat}
theorem ss_of {X : Cx} {c : Cc} {W : WX} {r : Ev} (hs : ∀ m s cs, compS c m s = some cs → PS X s (rdS X.K T W r cs)) : ∀ (ss : List Stmt) (m : Nat) (css : List S), compSs c m ss = some css → PSs X ss (rdSs X.K T W r css)
  | ss, 0, _, h => by unfold compSs at h; cases h
  | [], m + 1, _, h => by unfold compSs at h; cases h; exact ss_nil
  | s :: ss, m + 1, _, h => by
    unfold compSs at h
    simp only at h
    split at h
    · rename_i cs css h1 h2
      cases h
      exact ss_cons (hs m s cs h1) (ss_of hs ss m css h2)
    · cases h
theorem st_all : ∀ n, StOk P T n d
  | 0 => fun X c W C F m => ⟨fun s cs h => ps_false fun _ _ _ => no_S, fun ss css h => ss_of (fun m s cs h => ps_false fun _ _ _ => no_S) ss m css h⟩
  | n + 1 => by
    intro X c W C F
    have IH := st_all n X c W C fun n' h => F n' (Nat.lt_succ_of_lt h)
    have Fn : ∀ n', n' < n → FnsAt P T X c.fns n' d := fun n' h => F n' (Nat.lt_succ_of_lt h)
    have key : ∀ m s cs, compS c m s = some cs → PS X s (rdS X.K T W (evs P (n + 1) d) cs) := by
      intro m s cs h
      cases m with
      | zero => unfold compS at h; cases h
      | succ m =>
        unfold compS at h
        split at h
        · rename_i e pos
          split at h
          · cases h
          · rename_i hl
            split at h
            · rename_i ce h1
              cases h
              refine st_ex ev_s (by simpa using hl) (fun env => ?_) (e_ok C Fn h1)
              cases e <;> first | rfl | exact absurd rfl hl | (unfold compE at h1; cases h1)
            · cases h
        · cases h; exact st_pass ev_s
        · cases h; exact st_brk ev_s
        · cases h; exact st_retN ev_s
        · split at h
          · rename_i ce h1
            cases h
            exact st_ret ev_s (e_ok C Fn h1)
          · cases h
        · split at h
          · rename_i ha
            split at h
            · rename_i t' ce h1 h2
              cases h
              exact asg_ok C Fn ha h1 h2
            · cases h
          · cases h
        · split at h
          · rename_i ce ca cb h1 h2 h3
            cases h
            exact st_if ev_s (t_ok C Fn h1) ((IH m).2 _ _ h2) ((IH m).2 _ _ h3)
          · cases h
        · split at h
          · rename_i ct ci cb h1 h2 h3
            split at h
            · rename_i hi
              cases h
              exact st_for ev_s C.own C.ctx.calm (i_ok (fun m e ce h => e_ok C Fn h) C h2 hi) (tg_ok C 20 _ _ h1 depthFuel (by decide)) ((IH m).2 _ _ h3) (compI_set h2 _)
            · cases h
          · cases h
        · split at h
          · rename_i ce cb h1 h2
            cases h
            exact st_while ev_s C.own (t_ok C Fn h1) ((IH m).2 _ _ h2)
          · cases h
        · cases h
    exact fun m => ⟨key m, fun ss css h => ss_of key ss m css h⟩
end

/-- a def as it stands -/
structure DefAt (K : PySem.W.Frag) (T : Tb) (P : Prog) (sg : List (Str × Sig)) (cs : List (Str × D)) (s : Sig) : Prop where
  ex : ∃ (name qual : Str) (params : Arguments) (body : List Stmt) (scope : Scope) (dV kV doc pm cdv ct oc : Value) (an od : Option Addr) (osl : Array (Option Value)) (N mu : List Str) (m : Nat) (b : List S),
    K.lookup (T.fa s.k) = some ⟨oc, od, .func (PySem.W.fnOf name qual params body scope dV kV doc pm an cdv ct), osl⟩ ∧ PySem.W.codeIn K cdv qual = true ∧ FnScope N s.ps scope ∧
    compSs ⟨N, scope, true, scope, mu, sg, cs⟩ m body = some b ∧ P[s.k]? = some ⟨s.ps.length, N.length, b⟩ ∧ SigOk K (PySem.W.fnOf name qual params body scope dV kV doc pm an cdv ct) s
/-- the module's names -/
structure ModAt (K : PySem.W.Frag) (mg : Str → Option Value) (T : Tb) (sg : List (Str × Sig)) (cs : List (Str × D)) : Prop where
  fns : ∀ x s, sg.lookup x = some s → mg x = some (.ref (T.fa s.k)) ∧ PySem.W.keepIn K (.ref (T.fa s.k)) = true
  cst : ∀ x dd, cs.lookup x = some dd → ∃ u v, mg x = some u ∧ RelV v u ∧ ∀ g H, RepD K g H dd v
  blt : ∀ x ∈ bltNames, sg.lookup x = none → cs.lookup x = none → mg x = none
theorem fn_false {P : Program} {w : World} {K : PySem.W.Frag} {mg : Str → Option Value} {base : Heap} {k : Nat} {f : Addr} {fd : FuncData} {ps : List Str} {sp : Sp} (h : ∀ vs H Q E, ¬ sp vs H Q E) : FnG P w K mg base k f fd ps sp :=
  ⟨fun vs H Q E q => absurd q (h vs H Q E), fun _ _ _ H _ _ vs Q E _ _ _ _ _ q => absurd q (h vs H Q E)⟩
theorem fn_one {pr : Program} {w : World} {K : PySem.W.Frag} {mg : Str → Option Value} {base : Heap} {T : Tb} {P : Prog} {sg : List (Str × Sig)} {cs : List (Str × D)} (M : ModAt K mg T sg cs) (n : Nat)
    (IH : ∀ n', n' < n → ∀ d, ∀ x s, sg.lookup x = some s → ∃ fd, SigOk K fd s ∧ FnG pr w K mg base d (T.fa s.k) fd s.ps (spF K T s.ps.length (evs P n' d) s.k)) (d : Nat) (s : Sig)
    {name qual : Str} {params : Arguments} {body : List Stmt} {scope : Scope} {dV kV doc pm cdv ct oc : Value} {an od : Option Addr} {osl : Array (Option Value)} {N mu : List Str} {m : Nat} {b : List S}
    (lk : K.lookup (T.fa s.k) = some ⟨oc, od, .func (PySem.W.fnOf name qual params body scope dV kV doc pm an cdv ct), osl⟩) (hcd : PySem.W.codeIn K cdv qual = true) (S : FnScope N s.ps scope)
    (hb : compSs ⟨N, scope, true, scope, mu, sg, cs⟩ m body = some b) (hP : P[s.k]? = some ⟨s.ps.length, N.length, b⟩) :
    FnG pr w K mg base d (T.fa s.k) (PySem.W.fnOf name qual params body scope dV kV doc pm an cdv ct) s.ps (spF K T s.ps.length (evs P n d) s.k) := by
  cases n with
  | zero => exact fn_false fun vs H Q E ⟨_, _, _, _, _, _, h⟩ => h
  | succ n =>
    cases d with
    | zero => exact fn_false fun vs H Q E ⟨_, _, _, _, _, _, h⟩ => h
    | succ d =>
      refine fng_of (N := N) lk hcd S (fun vs H Q E h => ?_) fun A outer st H vs Q E hr hg hsp => ?_
      · obtain ⟨_, ds, _, _, rl, hl, _⟩ := h
        rw [← rl.length, hl]
      · have C : CxOk T (cxOf (CX pr w) pr w K mg base N qual scope (T.fa s.k) cdv A outer st H E) ⟨N, scope, true, scope, mu, sg, cs⟩ d (fun c d _ H => E c d H) :=
          { ctx := ⟨hr, hg, rfl⟩, N := rfl, nd := S.nd, sc := rfl, fn1 := fun _ _ => rfl, fn2 := fun _ _ => rfl, fns := M.fns, cst := M.cst, blt := M.blt, tk := takes_of rfl rfl rfl rfl, own := passes_of rfl }
        refine ⟨_, (st_all n _ _ _ C (fun n' hn => IH n' (Nat.lt_succ_of_lt hn) d) m).2 _ _ hb, ?_⟩
        obtain ⟨g, ds, A0, rA, rl, hl, h⟩ := hsp
        have hlv : ds.length = vs.length := rl.length
        refine ⟨g, ds.map some ++ List.replicate (N.length - s.ps.length) none, A0, rA, ?_, ?_⟩
        · refine ⟨by unfold L2.start; simp [hlv, ← hl], fun i dd e => ?_⟩
          unfold L2.start
          by_cases hi : i < ds.length
          · rw [List.getElem?_append_left (by simpa using hi), List.getElem?_map] at e
            cases e2 : ds[i]? with
            | none => rw [e2] at e; cases e
            | some dd' =>
              rw [e2] at e
              cases e
              obtain ⟨v, v1, v2⟩ := rl.get e2
              exact ⟨v, by rw [List.getElem?_append_left (by rw [List.length_map, ← hlv]; exact hi), List.getElem?_map, v1]; rfl, v2⟩
          · rw [List.getElem?_append_right (by simpa using hi)] at e
            rw [List.getElem?_replicate] at e
            split at e <;> cases e
        · have hf : (evs P (n + 1) (d + 1)).f s.k ds A0 = callF P (evs P n d) s.k ds A0 := rfl
          rw [hf] at h
          unfold callF at h
          rw [hP] at h
          simp only at h
          cases e1 : evSs (evs P n d) b (ds.map some ++ List.replicate (N.length - s.ps.length) none) A0 with
          | bad => rw [e1] at h; exact h
          | ex x A1 => rw [e1] at h; exact fun g' σ' H' c d p => h g' H' c d p
          | ok f A1 =>
            cases f with
            | next ρ' =>
              simp only [e1] at h
              exact fun g' σ' H' p r' _ => h g' .non H' p r' .non
            | brk ρ' => simp only [e1] at h
            | ret dd => simp only [e1] at h; exact h
theorem fns_all {pr : Program} {w : World} {K : PySem.W.Frag} {mg : Str → Option Value} {base : Heap} {T : Tb} {P : Prog} {sg : List (Str × Sig)} {cs : List (Str × D)} (M : ModAt K mg T sg cs) (Df : ∀ x s, sg.lookup x = some s → DefAt K T P sg cs s) :
    ∀ n d, ∀ x s, sg.lookup x = some s → ∃ fd, SigOk K fd s ∧ FnG pr w K mg base d (T.fa s.k) fd s.ps (spF K T s.ps.length (evs P n d) s.k) := by
  intro n
  induction n using Nat.strongRecOn with
  | ind n IH =>
    intro d x s hs
    obtain ⟨name, qual, params, body, scope, dV, kV, doc, pm, cdv, ct, oc, an, od, osl, N, mu, m, b, lk, hcd, S, hb, hP, hsig⟩ := (Df x s hs).ex
    exact ⟨_, hsig, fn_one M n IH d s lk hcd S hb hP⟩
end Pv

/-! Pv28: the end of a law. -/
namespace Pv
open PySem PySem.Spec L2 PyProof.Rows

def Sto.emp : Sto := ⟨0, .nil⟩
theorem Sto.get_emp (i : Nat) : Sto.emp.get i = none := by
  unfold Sto.get Sto.emp
  simp only [Tr.get]
theorem repL_ints {K : PySem.W.Frag} {g : Gh} {H : Hp} : ∀ ns : List Int, RepL K g H (ns.map D.int) (ns.map V.int)
  | [] => .nil
  | n :: ns => .cons (.int n) (repL_ints ns)
/-- the law's def, called at the end of the top -/
theorem law_end {P : Program} {w : World} {K : PySem.W.Frag} {mg mb : Str → Option Value} {k : Nat} {fa a : Addr} {fd : FuncData} {x : Str} {sp : Sp} {s1 : Shared} {us : List Value} {ns : List Int}
    (inK : K.In s1.heap) (gl : s1.heap.Ns mainGlobals mg) (bn : s1.heap.Ns builtinsNs mb) (bo : ∀ y : Str, y ≠ "__name__" → mb y = bootBuiltins y) (nl : s1.heap.NoLimit) (ge : s1.gens = #[])
    (at_a : s1.heap.get? a = some { cls := .type "list", data := .seq us.toArray }) (isI : IntsAre us ns) (sz : ns.length ≤ sizeLine) (rm : Room k callerA)
    (F : ∀ base : Heap, K.In base → base.Ns mainGlobals mg → FnG P w K mg base k fa fd [x] sp) (bd : ∀ (s : Shared) (u : Value), BindsTo s fd ⟨[u], []⟩ [(x, u)])
    (says : ∀ (g : Gh) (H : Hp), RelA K g Sto.emp H → RepD K g H (.scr (ns.map D.int)) (.ref a) → sp [.ref a] H (fun v _ => v = .bl true) fun _ _ _ => False) :
    codeAny (model P w) callerA (.call (.ref fa) ⟨[.ref a], []⟩) (fun r s' => r = .ok (.ret (.bool true)) ∧ OldK s1.heap s'.heap ∧ s'.os = s1.os ∧ AllBare s'.gens) s1 := by
  have valsN := vals_ints isI
  have lenN := isI.length
  have key : ∀ (g : Gh) (H : Hp), Only H → RelA K g Sto.emp H → RepD K g H (.scr (ns.map D.int)) (.ref a) → HOk P w H s1.heap → (∀ b, H b ≠ none → b = a) → (H a ≠ none → K.lookup a = none) →
      codeAny (model P w) callerA (.call (.ref fa) ⟨[.ref a], []⟩) (fun r s' => r = .ok (.ret (.bool true)) ∧ OldK s1.heap s'.heap ∧ s'.os = s1.os ∧ AllBare s'.gens) s1 := by
    intro g H only rA rd good alone out
    have got : ∀ {b : Addr} {o : Obj}, s1.heap.get? b = some o → H b = none → (hidT s1.heap H).get? b = some o := fun e n => hidT_get e n
    have noDict : ∀ {b : Addr} {o : Obj} {es : Array DictEntry} {ep : Nat}, s1.heap.get? b = some o → o.data = .dict es ep → H b = none := by
      intro b o es ep hb hd
      cases hq : H b with
      | none => rfl
      | some u =>
        have hba : b = a := alone b (by simp [hq])
        rw [hba, at_a] at hb
        cases hb
        exact nomatch (show Data.seq us.toArray _ = Data.dict es ep from hd)
    have nsH : ∀ {b : Addr} {m : Str → Option Value}, s1.heap.Ns b m → (hidT s1.heap H).Ns b m := by
      rintro b m ⟨o, es, ep, e, hd, hr⟩
      exact ⟨o, es, ep, got e (noDict e hd), hd, hr⟩
    have inH : K.In (hidT s1.heap H) := by
      intro b o e
      refine got (inK b o e) ?_
      cases hq : H b with
      | none => rfl
      | some u =>
        have hba : b = a := alone b (by simp [hq])
        rw [hba, out (by rw [← hba, hq]; simp)] at e
        cases e
    have modH : Mod K mg (hidT s1.heap H) := by
      refine ⟨inH, nsH gl, ⟨mb, nsH bn, bo⟩, ?_⟩
      obtain ⟨mc, c1, c2⟩ := nl
      exact ⟨mc, nsH c1, c2⟩
    have env0 : Env0 P w K mg (hidT s1.heap H) callerA [] s1 H :=
      ⟨rfl, modH, fun b o e => of_hidT e, Nat.le_of_eq (hidT_size _ _), trivial, (fun b hb => nomatch (show b ∈ ([] : List Addr) from hb)), good, .of_eq ge⟩
    have go := (F _ inH (nsH gl)).run callerA [] s1 H ⟨[.ref a], []⟩ [.ref a] [.ref a] _ _ rm rfl env0 (bd s1 (.ref a)) (.cons rfl .nil) (says g H rA rd)
    refine codeAny_mono go fun res s' hres => ?_
    match res, hres with
    | .error e, hres =>
      obtain ⟨_, _, _, _, _, _, _, _, _, _, _, _, bad⟩ := hres
      exact bad.elim
    | .ok .next, hres => exact hres.elim
    | .ok .brk, hres => exact hres.elim
    | .ok .cont, hres => exact hres.elim
    | .ok (.ret u), hres =>
      obtain ⟨v, H', hos, hbare, hun, hok', hrel, hv⟩ := hres
      have hv : v = .bl true := hv
      rw [hv] at hrel
      have hu : u = Value.bool true := hrel
      rw [hu]
      refine ⟨rfl, OldK.of_keep fun b o e => ?_, hos, hbare⟩
      rcases only b with hn | ⟨ob, xs, hz⟩
      · exact hun.keep b o e hn (fun z => nomatch (show b ∈ ([] : List Addr) from z)) (by simp)
      · have hz2 := hun.frzs b ob _ hz
        obtain ⟨w1, _⟩ := good b _ hz
        obtain ⟨w2, _⟩ := hok' b _ hz2
        rw [e] at w1
        cases w1
        exact w2
  have relE : ∀ (g : Gh) (H : Hp), g.φ = [] → (∀ b, g.F b → ∃ o, H b = some o) → RelA K g Sto.emp H := fun g H hp hF => by
    refine ⟨(by rw [hp]; rfl), (by rw [hp]; simp), (fun b _ => by rw [hp]; simp), (fun b hb => by rw [hp] at hb; cases hb), hF, fun i o e => ?_, by decide⟩
    have : Sto.get Sto.emp i = none := Sto.get_emp i
    rw [this] at e
    cases e
  cases hk : K.lookup a with
  | some o =>
    have e := inK a o hk
    rw [at_a] at e
    cases e
    refine key ⟨fun _ => False, []⟩ (fun _ => none) (fun _ => .inl rfl) (relE _ _ rfl fun _ z => z.elim) (.kscr ⟨_, us.toArray, _, hk, rfl, rfl, rfl, by rw [List.size_toArray, lenN]; exact sz, by simpa using valsN⟩ (repL_ints ns)) ?_ ?_ ?_
    · intro b u z
      exact nomatch (show (none : Option HO) = some u from z)
    · intro b z; exact absurd rfl z
    · intro z; exact absurd rfl z
  | none =>
    refine key ⟨fun b => b = a, []⟩ (fun b => if b = a then some (.frz { cls := .type "list", data := .seq us.toArray } (.lst (ns.map V.int))) else none) (fun b => ?_) (relE _ _ rfl fun b z => ⟨_, if_pos z⟩) (.scr (g := ⟨fun b => b = a, []⟩) rfl (if_pos rfl) (repL_ints ns)) (fun b u z => ?_) (fun b z => ?_) fun _ => hk
    · by_cases hb : b = a
      · exact .inr ⟨_, _, if_pos hb⟩
      · exact .inl (if_neg hb)
    · by_cases hb : b = a
      · have hz := (if_pos hb).symm.trans z
        cases hz
        rw [hb]
        exact ⟨at_a, by rw [List.length_map]; exact sz, us, _, valsN, at_a⟩
      · exact nomatch (if_neg hb).symm.trans z
    · by_cases hb : b = a
      · exact hb
      · exact absurd (if_neg hb) z
end Pv

/-! Pv29: the head of a law: what is looked at, and what follows. -/
namespace Pv
open PySem PySem.Spec L2 PyProof.Rows

/-! ### constants of the top -/
def allB {α β : Type} (f : α → β → Bool) : List α → List β → Bool
  | [], [] => true
  | a :: r, b :: s => f a b && allB f r s
  | _, _ => false
def valB (K : PySem.W.Frag) : Nat → D → Value → Bool
  | 0, _, _ => false
  | n + 1, d, u => match d with
    | .non => (match u with | .none => true | _ => false)
    | .bl b => (match u with | .bool c => b == c | _ => false)
    | .int i => (match u with | .int j _ => decide (i = j) | _ => false)
    | .str x => (match u with | .str y _ => decide (x = y) | _ => false)
    | .tup ds => (match u with
      | .ref a => (match K.lookup a with
        | some o => decide (o.cls = Value.type "tuple") && (match o.data with
          | .seq its _ => decide (its.size ≤ sizeLine) && allB (valB K n) ds its.toList
          | _ => false)
        | none => false)
      | _ => false)
    | _ => false
theorem allB_rep {K : PySem.W.Frag} {f : D → Value → Bool} (hf : ∀ d u, f d u = true → ∃ v, RelV v u ∧ ∀ g H, RepD K g H d v) : ∀ (ds : List D) (us : List Value), allB f ds us = true → ∃ vs, Vals vs us ∧ ∀ g H, RepL K g H ds vs
  | [], [], _ => ⟨[], .nil, fun _ _ => .nil⟩
  | [], _ :: _, h => by cases h
  | _ :: _, [], h => by cases h
  | d :: ds, u :: us, h => by
    unfold allB at h
    rw [Bool.and_eq_true] at h
    obtain ⟨v, r1, r2⟩ := hf d u h.1
    obtain ⟨vs, s1, s2⟩ := allB_rep hf ds us h.2
    exact ⟨v :: vs, .cons r1 s1, fun g H => .cons (r2 g H) (s2 g H)⟩
theorem valB_rep {K : PySem.W.Frag} : ∀ (n : Nat) (d : D) (u : Value), valB K n d u = true → ∃ v, RelV v u ∧ ∀ g H, RepD K g H d v
  | 0, _, _, h => by cases h
  | n + 1, d, u, h => by
    unfold valB at h
    split at h
    · split at h
      · exact ⟨.non, rfl, fun _ _ => .non⟩
      · cases h
    · split at h
      · rename_i b _ c
        have e : b = c := by simpa using h
        subst e
        exact ⟨.bl b, rfl, fun _ _ => .bl b⟩
      · cases h
    · split at h
      · rename_i i _ j t
        have e : i = j := of_decide_eq_true h
        subst e
        exact ⟨.int i, ⟨t, rfl⟩, fun _ _ => .int i⟩
      · cases h
    · split at h
      · rename_i x _ y t
        have e : x = y := of_decide_eq_true h
        subst e
        exact ⟨.str x, ⟨t, rfl⟩, fun _ _ => .str x⟩
      · cases h
    · split at h
      · rename_i a
        split at h
        · rename_i o ho
          rw [Bool.and_eq_true] at h
          obtain ⟨h1, h2⟩ := h
          split at h2
          · rename_i its m hd
            rw [Bool.and_eq_true] at h2
            obtain ⟨vs, s1, s2⟩ := allB_rep (valB_rep n) _ _ h2.2
            exact ⟨.ref a, rfl, fun g H => .ktup ⟨o, its, m, ho, of_decide_eq_true h1, hd, of_decide_eq_true h2.1, s1⟩ (s2 g H)⟩
          · cases h2
        · cases h
      · cases h
    · cases h

/-! ### the Hook -/
def dvOf : D → He.Dv
  | .bl b => .bl b
  | .int i => .int i
  | .str x => .str x
  | _ => .non
/-- the written defaults -/
def dfD (args : Arguments) : List D := match mapO dflE args.defaults with
  | some ds => ds
  | none => []
def defD (d : Df) : He.DefD := ⟨(d.name, none), d.name, d.name, d.args, d.body, d.scope, (dfD d.args).map dvOf, []⟩
/-- what is looked at beside the defs -/
def exB (sg : List (Str × Sig)) (cs : List (Str × D)) (K : PySem.W.Frag) : Bool :=
  (sg.all fun q => (He.Fa.glo q.1).ok K) && ((cs.all fun q => match PySem.W.nsIn K mainGlobals q.1 with
    | some (some u) => valB K 6 q.2 u
    | _ => false) && bltNames.all fun x => (sg.lookup x).isSome || (cs.lookup x).isSome || (He.Fa.free x).ok K)
def obsP (sg : List (Str × Sig)) (cs : List (Str × D)) (fn : List He.DefD) (K : PySem.W.Frag) : He.AlD := (exB sg cs K && fn.all fun d => d.ok K, fn.map fun d => He.fnW K d.at_)
def obsPG (n : Nat) (sg : List (Str × Sig)) (cs : List (Str × D)) (fn : List He.DefD) (g : Addr → Option Obj) : He.AlD := obsP sg cs fn (He.frG g (He.asD g n))
def hookP (n : Nat) (sg : List (Str × Sig)) (cs : List (Str × D)) (fn : List He.DefD) : PySem.W.Hook where
  α := He.AlD
  obs := fun s => obsPG n sg cs fn s.heap.get?
  val := fun _ => He.valD fn
  says := fun _ h => ∃ K : PySem.W.Frag, K.In h ∧ obsP sg cs fn K = He.valD fn
  of := fun _ _ e => ⟨_, He.frG_in, e⟩
  keeps := fun _ _ _ ⟨K, hK, c⟩ k => ⟨K, PySem.W.Frag.In.keeps hK k, c⟩
theorem obsPG_eq {n : Nat} {sg : List (Str × Sig)} {cs : List (Str × D)} {fn : List He.DefD} {g : Addr → Option Obj} {s : Shared} (h : ∀ a, g a = s.heap.get? a) : obsPG n sg cs fn g = (hookP n sg cs fn).obs s := by
  have e : g = s.heap.get? := funext h
  subst e
  rfl

/-! ### defs that can be taken -/
def okDf (d : Df) : Bool := d.args.posonlyargs.isEmpty && d.args.vararg.isNone && d.args.kwonlyargs.isEmpty && d.args.kwarg.isNone && nodupS (d.args.args.map (·.arg)) &&
  (match d.scope.kind with | .function => true | _ => false) && !d.scope.isCoroutine && !d.scope.isGenerator && nodupS (slotsOf d.args d.body d.scope) &&
  decide ((slotsOf d.args d.body d.scope).take (d.args.args.map (·.arg)).length = d.args.args.map (·.arg)) && ((d.args.args.map (·.arg)).all fun x => isLoc d.scope x) &&
  (d.scope.names.all fun y => match y.2 with | .free => false | _ => true)
theorem okDf_scope {d : Df} (h : okDf d = true) : Plain d.args (d.args.args.map (·.arg)) ∧ (d.args.args.map (·.arg)).Nodup ∧ FnScope (slotsOf d.args d.body d.scope) (d.args.args.map (·.arg)) d.scope := by
  unfold okDf at h
  simp only [Bool.and_eq_true] at h
  obtain ⟨⟨⟨⟨⟨⟨⟨⟨⟨⟨⟨h1, h2⟩, h3⟩, h4⟩, h5⟩, h6⟩, h7⟩, h8⟩, h9⟩, h10⟩, h11⟩, h12⟩ := h
  refine ⟨⟨by simpa using h1, rfl, by simpa using h2, by simpa using h3, by simpa using h4⟩, nodupS_ok h5, ⟨?_, by simpa using h7, by simpa using h8, nodupS_ok h9, of_decide_eq_true h10, fun x hx => ?_, fun y hy z => ?_⟩⟩
  · split at h6
    · assumption
    · cases h6
  · have := List.all_eq_true.mp h11 x hx
    unfold isLoc at this
    split at this
    · rename_i e; exact .inl e
    · rename_i e; exact .inr e
    · cases this
  · have := List.all_eq_true.mp h12 y hy
    rw [z] at this
    cases this
theorem sigs_at : ∀ {k : Nat} {ds : List Df} {sg : List (Str × Sig)} {x : Str} {s : Sig}, sigsOf k ds = some sg → sg.lookup x = some s → ∃ i df dd, ds[i]? = some df ∧ df.name = x ∧ s = ⟨k + i, df.args.args.map (·.arg), dd⟩ ∧ dfltsOf df.args = some dd
  | k, [], sg, x, s, h, hl => by cases h; cases hl
  | k, d :: r, sg, x, s, h, hl => by
    unfold sigsOf at h
    split at h
    · rename_i dd sg' h1 h2
      cases h
      rw [List.lookup_cons] at hl
      split at hl
      · rename_i e
        cases hl
        exact ⟨0, d, dd, rfl, (beq_iff_eq.mp e).symm, rfl, h1⟩
      · obtain ⟨i, df, dd', i1, i2, i3, i4⟩ := sigs_at h2 hl
        exact ⟨i + 1, df, dd', by simpa using i1, i2, by rw [i3]; congr 1; omega, i4⟩
    · cases h
/-- where the defs stand -/
def tbOf (K : PySem.W.Frag) (ds : List Df) : Tb := ⟨fun k => match ds[k]? with
  | some d => He.ga K d.name
  | none => 0, fun _ => none⟩
theorem dv_cV {K : PySem.W.Frag} : ∀ {ds : List D} {vs : List V}, mapO cV ds = some vs → (ds.map dvOf).map (He.Dv.v K) = vs
  | [], _, h => by cases h; rfl
  | d :: ds, vs, h => by
    unfold mapO at h
    split at h
    · rename_i v hv
      split at h
      · rename_i vs' hvs
        cases h
        have := dv_cV (K := K) hvs
        simp only [List.map_cons, this]
        congr 1
        unfold cV at hv
        split at hv <;> cases hv <;> rfl
      · cases h
    · cases h
end Pv

/-! Pv30: a law by a run of the evaluator. -/
namespace Pv
open PySem PySem.Spec L2 PyProof.Rows

/-- what the compiler gave -/
structure Made (dfs : List Df) (P : Prog) (sg : List (Str × Sig)) (cs : List (Str × D)) : Prop where
  sigs : sigsOf 0 dfs = some sg
  comp : mapO (compDf sg cs) dfs = some P
  ok : dfs.all okDf = true
  dfl : dfs.all (fun d => (mapO cV (dfD d.args)).isSome) = true
theorem dflts_of {args : Arguments} {dd : List (Option D)} (h : dfltsOf args = some dd) : ∃ n, dd = List.replicate n none ++ (dfD args).map some := by
  unfold dfltsOf at h
  split at h
  · rename_i ds hds
    cases h
    refine ⟨args.args.length - ds.length, ?_⟩
    have : dfD args = ds := by
      unfold dfD
      rw [hds]
    rw [this]
  · cases h
section
variable {dfs : List Df} {P : Prog} {sg : List (Str × Sig)} {cs : List (Str × D)} {K : PySem.W.Frag}
theorem made_mod {h : Heap} (X : K.In h) {mg : Str → Option Value} (G : h.Ns mainGlobals mg) (M : Made dfs P sg cs) (c : obsP sg cs (dfs.map defD) K = He.valD (dfs.map defD)) : ModAt K mg (tbOf K dfs) sg cs ∧ (∀ x s, sg.lookup x = some s → DefAt K (tbOf K dfs) P sg cs s) ∧
    ∀ (i : Nat) (df : Df), dfs[i]? = some df → ∃ fd, FunD K df.name df.name df.args df.body df.scope ((dfD df.args |>.map dvOf).map (He.Dv.v K)) [] (He.ga K df.name) fd := by
  have c1 : (exB sg cs K && (dfs.map defD).all fun d => d.ok K) = true := congrArg (fun z : He.AlD => z.1) c
  have c2 : (dfs.map defD).map (fun d => He.fnW K d.at_) = (dfs.map defD).map He.DefD.val := congrArg (fun z : He.AlD => z.2) c
  rw [Bool.and_eq_true] at c1
  obtain ⟨ce, cd⟩ := c1
  unfold exB at ce
  rw [Bool.and_eq_true, Bool.and_eq_true] at ce
  obtain ⟨ce1, ce2, ce3⟩ := ce
  have fund : ∀ (i : Nat) (df : Df), dfs[i]? = some df → ∃ fd, FunD K df.name df.name df.args df.body df.scope ((dfD df.args |>.map dvOf).map (He.Dv.v K)) [] (He.ga K df.name) fd := by
    intro i df hi
    have hm : (dfs.map defD)[i]? = some (defD df) := by rw [List.getElem?_map, hi]; rfl
    have e2 : ((dfs.map defD).map fun d => He.fnW K d.at_)[i]? = ((dfs.map defD).map He.DefD.val)[i]? := by rw [c2]
    simp only [List.getElem?_map, hi, Option.map_some] at e2
    exact He.DefD.funD (d := defD df) (Option.some.inj e2) (List.all_eq_true.mp cd _ (List.mem_of_getElem? hm))
  have tb : ∀ (i : Nat) (df : Df), dfs[i]? = some df → (tbOf K dfs).fa i = He.ga K df.name := by
    intro i df hi
    unfold tbOf
    simp only [hi]
  refine ⟨⟨fun x s hs => ?_, fun x dd hx => ?_, fun x hx h1 h2 => ?_⟩, fun x s hs => ?_, fund⟩
  · obtain ⟨i, df, dd, hi, rfl, rfl, _⟩ := sigs_at M.sigs hs
    obtain ⟨fd, F⟩ := fund i df hi
    simp only [Nat.zero_add]
    rw [tb i df hi]
    have := List.all_eq_true.mp ce1 _ (PySem.mem_of_lookup hs)
    exact ⟨He.glo_ok X G this, F.kp⟩
  · have := List.all_eq_true.mp ce2 _ (PySem.mem_of_lookup hx)
    simp only at this
    split at this
    · rename_i u hu
      obtain ⟨v, r1, r2⟩ := valB_rep _ _ _ this
      exact ⟨u, v, PySem.W.mg_of X G hu, r1, r2⟩
    · cases this
  · have := List.all_eq_true.mp ce3 x hx
    rw [h1, h2] at this
    exact He.free_ok X G (by simpa using this)
  · obtain ⟨i, df, dd, hi, rfl, rfl, hdd⟩ := sigs_at M.sigs hs
    obtain ⟨fd, F⟩ := fund i df hi
    obtain ⟨oc, od, dV, kV, doc, pm, an, cdv, ct, osl, rfl, lk, hcd, hdv, _⟩ := F.ex
    obtain ⟨p1, p2, p3⟩ := okDf_scope (List.all_eq_true.mp M.ok df (List.mem_of_getElem? hi))
    obtain ⟨_, hg⟩ := mapO_get M.comp
    obtain ⟨f, hf, hP⟩ := hg i df hi
    unfold compDf at hf
    simp only at hf
    split at hf
    · rename_i b hb
      cases hf
      refine ⟨df.name, df.name, df.args, df.body, df.scope, dV, kV, doc, pm, cdv, ct, oc, an, od, osl, slotsOf df.args df.body df.scope, muSs 1000 df.body, 1000, b, ?_, hcd, p3, hb, ?_, ⟨p1, p2, ?_⟩⟩
      · simp only [Nat.zero_add]
        rw [tb i df hi]
        exact lk
      · simp only [Nat.zero_add, List.length_map]
        exact hP
      · obtain ⟨n, hn⟩ := dflts_of hdd
        have hv := List.all_eq_true.mp M.dfl df (List.mem_of_getElem? hi)
        obtain ⟨vs, hvs⟩ := Option.isSome_iff_exists.mp hv
        refine ⟨n, dfD df.args, vs, hn, hvs, ?_⟩
        rw [dv_cV hvs] at hdv
        exact hdv
    · cases hf
/-- the walk of a law -/
theorem walk_by {l : PySem.W.OpenLaw} {n nn d : Nat} {q : Program} {loose : List Str} {XP : (Str → Option Value) → Heap → Prop} {dr : DefRec} {df : Df} {x : Str} {s : Sig} (hn : l.most = some n) (hn2 : n ≤ sizeLine) (hdf : dr.params.defaults = []) (hr : Room d callerA)
    (M : Made dfs P sg cs) (hs : sg.lookup dr.name = some s) (hps : s.ps = [x]) (hat : dfs[s.k]? = some df) (hdd : dfD df.args = [])
    (bd : ∀ (K : PySem.W.Frag) (f : Addr) (fd : FuncData), FunD K df.name df.name df.args df.body df.scope [] [] f fd → ∀ (st : Shared) (u : Value), BindsTo st fd ⟨[u], []⟩ [(x, u)])
    (ev : ∀ ns : List Int, ns.length ≤ n → ∃ m A, (evs P m d).f s.k [.scr (ns.map D.int)] Sto.emp = .ok (.bl true) A) : PySem.W.WalkO q loose XP (hookP nn sg cs (dfs.map defD)).says l.row.toRowW dr [] (fun f vs => PySem.call f vs) := by
  refine Att.attach_call hn hdf fun w s0 s1 mg mb fa o pm cd doc a vs ns G Y ho hd hcd hmg hobj hints hlen hg => ?_
  obtain ⟨K, KX, c⟩ := Y
  obtain ⟨MA, DA, FA⟩ := made_mod KX G.T.g M c
  obtain ⟨m, A, hev⟩ := ev ns hlen
  have hfa := (MA.fns _ _ hs).1
  rw [hmg] at hfa
  cases hfa
  obtain ⟨name, qual, params, body, scope, dV, kV, doc', pm', cdv, ct, oc, an, od, osl, N, mu, mm, b, lk, hcd', S, hb, hP, hsig⟩ := (DA _ _ hs).ex
  obtain ⟨fd, F⟩ := FA _ _ hat
  rw [hdd] at F
  have hft : (tbOf K dfs).fa s.k = He.ga K df.name := by
    unfold tbOf
    simp only [hat]
  have lk2 := lk
  rw [hft] at lk2
  obtain ⟨oc2, od2, dV2, kV2, doc2, pm2, an2, cdv2, ct2, osl2, efd, lk3, _⟩ := F.ex
  rw [lk2] at lk3
  have hfd : PySem.W.fnOf name qual params body scope dV kV doc' pm' an cdv ct = fd := by
    have := Option.some.inj lk3
    injection this with _ _ h3 _
    injection h3
  refine law_end (x := x) (sp := spF K (tbOf K dfs) s.ps.length (evs P m d) s.k) KX G.T.g G.T.b G.T.builtins G.T.nolimit hg hobj hints (Nat.le_trans hlen hn2) hr (fun base _ _ => ?_) (fun st u => bd K _ fd F st u) fun g H rA rd => ?_
  · rw [← hps, ← hfd]
    exact fn_one MA m (fun n' _ d x s hs => fns_all MA DA n' d x s hs) d s lk hcd' S hb hP
  · refine ⟨g, [.scr (ns.map D.int)], Sto.emp, rA, .cons rd .nil, by rw [hps]; rfl, ?_⟩
    rw [hev]
    intro g' v H' p r' rd'
    cases rd'
    rfl
end
end Pv

namespace Pv.Law
open PySem PySem.Spec PyProof.Rows L2
abbrev p : Program := PySem.Challenge.pw_unseenask_k01_kinds_told
abbrev dfs : List Df := dfsOf p.main.body
abbrev cs : List (Str × D) := cstsOf p.main.body
def sg : List (Str × Sig) := (sigsOf 0 dfs).getD []
def P : Prog := (mapO (compDf sg cs) dfs).getD []
def fn : List He.DefD := dfs.map defD
abbrev R : PySem.W.OpenRow := PySem.W.OpenLaw.row PySem.Challenge.rw_unseenask_k01_kinds_told
abbrev hk : PySem.W.Hook := hookP 4 sg cs fn
def ob (s : PySem.W.SharedT) : He.AlD := obsPG 4 sg cs fn (HandSHeadRun.getT s)
theorem ob_eq (s : PySem.W.SharedT) : ob s = hk.obs s.abs := obsPG_eq (HandSHeadRun.getT_eq s)
def loose : List Str := (p.main.scope.names.map (·.1)).filter fun x => !(x == ("law" : Str) || x == ("__name__" : Str))
theorem run (w : World) : HandSHeadRun.RunEq R (PySem.W.view R.prog [35]) hk ob 2000 loose w := by
  intro os
  kernel_rfl
theorem made : Made dfs P sg cs := ⟨by kernel_rfl, by kernel_rfl, by kernel_rfl, by kernel_rfl⟩
def lawSig : Sig := (sg.lookup ("law" : Str)).getD ⟨0, [], []⟩
def lawDf : Df := dfs.getD lawSig.k ⟨"law", ⟨[], [], none, [], [], none, []⟩, [], ⟨.function, [], false, false, []⟩⟩
def endOf (ns : List Int) : Bool := match (evs P 20000 60).f lawSig.k [.scr (ns.map D.int)] Sto.emp with
  | .ok (.bl true) _ => true
  | _ => false
theorem evals (ns : List Int) : endOf ns = true := by kernel_rfl
theorem ev (ns : List Int) (_ : ns.length ≤ 63) : ∃ m A, (evs P m 60).f lawSig.k [.scr (ns.map D.int)] Sto.emp = .ok (.bl true) A := by
  have h := evals ns
  unfold endOf at h
  split at h
  · rename_i A e
    exact ⟨20000, A, e⟩
  · cases h
end Pv.Law
namespace Pv.Law
open PySem PySem.W PySem.Calls PyProof.Rows
abbrev q := view R.prog [35]
abbrev d := HandSHeadRun.topDef R.prog 35
theorem a1 : opening R.prog = plainProg R.prog.main.scope.names := by kernel_rfl
theorem a2 (s) : fenceModules? R.prog s = some s := by kernel_rfl
theorem a3 : defOf q R.name = some (d, []) := by kernel_rfl
theorem a4 : R.prog.theDef R.name = some (d.params, d.body, d.scope) := by kernel_rfl
theorem a5 : kwWritten? d.params.kwonlyargs d.params.kw_defaults = some [] := by kernel_rfl
theorem b1 : d.params.defaults = [] := by kernel_rfl
theorem b2 : sg.lookup d.name = some lawSig := by kernel_rfl
theorem b3 : lawSig.ps = [("_law_script" : PySem.Str)] := by kernel_rfl
theorem b4 : dfs[lawSig.k]? = some lawDf := by kernel_rfl
theorem b5 : dfD lawDf.args = [] := by kernel_rfl
theorem b6 (K : PySem.W.Frag) (f : Addr) (fd : FuncData) (F : L2.FunD K lawDf.name lawDf.name lawDf.args lawDf.body lawDf.scope [] [] f fd) (s : Shared) (v : Value) : BindsTo s fd ⟨[v], []⟩ [("_law_script", v)] := by
  have b := L2.FunD.bindsA (ps := ["_law_script"]) F fun _ _ _ _ _ _ us hl => match us, hl with | [_], _ => by kernel_rfl
  exact b s [v] rfl
end Pv.Law
open PySem PySem.W PySem.Calls PyProof.Rows
theorem PySem.Challenge.cw_unseenask_k01_kinds_told_holds : PySem.Challenge.rw_unseenask_k01_kinds_told.Holds := by
  w_on; o_law
  refine HandSHeadRun.head_any (r := OpenLaw.row PySem.Challenge.rw_unseenask_k01_kinds_told) (q := Pv.Law.q) (H := Pv.Law.hk) (ob := Pv.Law.ob) (M := 2000) (loose := Pv.Law.loose)
    (d := Pv.Law.d) (kwd := []) Pv.Law.ob_eq
    Pv.Law.a1 Pv.Law.a2 Pv.Law.run Pv.Law.a3 Pv.Law.a4 Pv.Law.a5 (by rfl) (by first | assumption | decide +kernel) (by decide +kernel) ⟨rfl, rfl, rfl, rfl, rfl, by decide +kernel⟩ ?hw ?hc
  case hw => w_witness2
  case hc =>
    exact Pv.walk_by (l := PySem.Challenge.rw_unseenask_k01_kinds_told) (n := 63) (d := 60) (x := "_law_script") (df := Pv.Law.lawDf) (s := Pv.Law.lawSig) rfl (by decide) Pv.Law.b1 ⟨rfl, by decide, by decide⟩ Pv.Law.made Pv.Law.b2 Pv.Law.b3 Pv.Law.b4 Pv.Law.b5 Pv.Law.b6 Pv.Law.ev
