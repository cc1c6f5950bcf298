import PyProof.Rows.All
import HandS.ForMost
import HandS.Deep
import HandS.Style
import HandS.TupAny
import HandS.TupMul
import HandS.DictComp
import HandS.IsInst
import KE.SortData
import HandS.Text
import HandS.More
import HandS.WordsDict
import HandS.Flow
import PyProof.DictUpdate
import HandS.Defaults
import KE.KStateDown
import HandS.Ends
import HandS.Words
import HandS.WordsExc
import HandS.Head0
import HandS.Head1
import HandS.Head2
import HandS.HeadEnd
import HandS.HeadHook1
import HandS.HeadHook2
import PySem.Challenge.RW_lettergrids_k48_whole_walks_of_a_length
set_option Elab.async false
set_option linter.all false
set_option autoImplicit false
set_option maxRecDepth 100000
set_option maxHeartbeats 0
namespace Pd
open PySem

abbrev D := PyData

inductive Tree (α : Type) where
  | ret (a : α)
  | err
  | draw (n : Nat) (k : Nat → Tree α)
namespace Tree
variable {α β γ : Type}
def bind (t : Tree α) (f : α → Tree β) : Tree β :=
  match t with
  | .ret a => f a
  | .err => .err
  | .draw n k => .draw n fun d => (k d).bind f
instance : Monad Tree where
  pure := .ret
  bind := .bind
def All (t : Tree α) (Q : α → Prop) : Prop :=
  match t with
  | .ret a => Q a
  | .err => False
  | .draw n k => ∀ d, d < n → (k d).All Q
theorem ret_bind (a : α) (f : α → Tree β) : (Tree.ret a >>= f) = f a := rfl
theorem pure_bind' (a : α) (f : α → Tree β) : ((pure a : Tree α) >>= f) = f a := rfl
theorem pure_eq (a : α) : (pure a : Tree α) = .ret a := rfl
theorem err_bind (f : α → Tree β) : (Tree.err >>= f) = .err := rfl
theorem draw_bind (n : Nat) (k : Nat → Tree α) (f : α → Tree β) : (Tree.draw n k >>= f) = .draw n fun d => k d >>= f := rfl
theorem bind_assoc' (t : Tree α) (f : α → Tree β) (g : β → Tree γ) : (t >>= f >>= g) = (t >>= fun a => f a >>= g) := by
  induction t with
  | ret a => rfl
  | err => rfl
  | draw n k ih => exact congrArg (Tree.draw n) (funext fun d => ih d)
theorem bind_ret' (t : Tree α) : (t >>= Tree.ret) = t := by
  induction t with
  | ret a => rfl
  | err => rfl
  | draw n k ih => exact congrArg (Tree.draw n) (funext fun d => ih d)
theorem all_ret (a : α) (Q : α → Prop) : (Tree.ret a).All Q ↔ Q a := Iff.rfl
theorem all_bind (t : Tree α) (f : α → Tree β) (Q : β → Prop) : (t >>= f).All Q ↔ t.All fun a => (f a).All Q := by
  induction t with
  | ret a => exact Iff.rfl
  | err => exact Iff.rfl
  | draw n k ih =>
    show (∀ d, d < n → ((k d).bind f).All Q) ↔ ∀ d, d < n → (k d).All _
    exact ⟨fun h d hd => (ih d).mp (h d hd), fun h d hd => (ih d).mpr (h d hd)⟩
theorem All.mono {t : Tree α} {Q Q' : α → Prop} (h : t.All Q) (m : ∀ a, Q a → Q' a) : t.All Q' := by
  induction t with
  | ret a => exact m a h
  | err => exact h
  | draw n k ih => exact fun d hd => ih d (h d hd)
end Tree
open Tree

/-- built-ins called by name -/
inductive Bi where
  | len | tuple | list | sorted | abs | max | min | sum | all | any | int | str | dict | set | range | enumerate | zip | isinst | sortedRev | bool
  deriving DecidableEq, Repr
/-- methods -/
inductive Me where
  | join | count | find | get | items | values | index | upper | split | replace | endswith | copy
  deriving DecidableEq, Repr
inductive T where
  | name (i : Nat) | tup (ts : List T)
inductive E where
  | var (i : Nat) | con (d : D)
  | tup (es : List E) | lst (es : List E)
  | bin (op : Operator) (a b : E) | neg (a : E) | not (a : E)
  | and (a b : E) | or (a b : E) | ite (c a b : E)
  | cmp (op : CmpOp) (a b : E) | cmp2 (op op' : CmpOp) (a b c : E)
  | idx (a i : E) | slc (a : E) (lo hi : Option E) | rev (a : E)
  | call (f : Nat) (as : List E)
  | bi (f : Bi) (as : List E)
  | isa (a : E) (ty : String)
  | me (m : Me) (o : E) (as : List E)
  | lc (tg : T) (vs : List Nat) (it : E) (ifs : List E) (el : E)
  | lc2 (tg : T) (vs : List Nat) (it : E) (ifs : List E) (tg1 : T) (vs1 : List Nat) (it1 : E) (ifs1 : List E) (el : E)
  | dc (tg : T) (vs : List Nat) (it : E) (ifs : List E) (k v : E)
  | dic (es : List E)
inductive S where
  | asg (t : T) (e : E)
  | own (i : Nat) (e : E)
  | aug (i : Nat) (op : Operator) (e : E)
  | ret (e : E) | retN
  | ite (c : E) (a b : List S)
  | whl (c : E) (b : List S)
  | for_ (t : T) (it : E) (b : List S)
  | app (i : Nat) (e : E)
  | ext (i : Nat) (e : E)
  | upd (i : Nat) (e : E)
  | sto (i : Nat) (k v : E)
  | exp (e : E)
  | pass | brk | cnt
  | frz (i : Nat)
  | bad

inductive B where
  | v (d : D)
  | own (d : D)
  | box
abbrev Env := List (Option B)
inductive Out where
  | nx (ρ : Env) | ret (d : D) | brk (ρ : Env) | cnt (ρ : Env)

def rd (ρ : Env) (i : Nat) : Tree D := match ρ[i]? with
  | some (some (.v d)) => .ret d
  | _ => .err
/-- as an operand that is only looked at -/
def rdW (ρ : Env) (i : Nat) : Tree D := match ρ[i]? with
  | some (some (.v d)) => .ret d
  | some (some (.own d)) => .ret d
  | _ => .err
def rdB (ρ : Env) (i : Nat) : Tree B := match ρ[i]? with
  | some (some (.v d)) => .ret (.v d)
  | some (some .box) => .ret .box
  | _ => .err

/-- the longest list, text -/
def lim : Nat := 16777216
def guard (b : Bool) : Tree Unit := if b then .ret () else .err
def asInt : D → Tree Int
  | .int i => .ret i
  | _ => .err
def asBool : D → Tree Bool
  | .bool b => .ret b
  | _ => .err
def asStr : D → Tree Str
  | .str x => .ret x
  | _ => .err
/-- a list's or a tuple's items -/
def asSeq : D → Tree (List D)
  | .list xs => .ret xs
  | .tuple xs => .ret xs
  | _ => .err
def asLst : D → Tree (List D)
  | .list xs => .ret xs
  | _ => .err
def asDic : D → Tree (List (D × D))
  | .dict kvs => .ret kvs
  | _ => .err
def truth : D → Tree Bool
  | .none => .ret false
  | .bool b => .ret b
  | .int i => .ret (i != 0)
  | .str x => do guard (decide (x.length ≤ lim)); .ret ((x.length : Int) != 0)
  | .list xs => .ret (!xs.isEmpty)
  | .tuple xs => .ret (!xs.isEmpty)
  | .dict kvs => .ret (!kvs.isEmpty)
def small (i : Int) : Bool := decide (-(2 ^ 64) < i) && decide (i < 2 ^ 64)
def repL {α : Type} (n : Nat) (xs : List α) : List α := (List.replicate n xs).flatten
def dBin : Operator → D → D → Tree D
  | .Add, .int i, .int j => .ret (.int (i + j))
  | .Add, .str x, .str y => do guard (decide (x.length + y.length ≤ lim)); .ret (.str (x ++ y))
  | .Add, .tuple xs, .tuple ys => do guard (decide (xs.length + ys.length ≤ lim)); .ret (.tuple (xs ++ ys))
  | .Add, .list xs, .list ys => do guard (decide (xs.length + ys.length ≤ lim)); .ret (.list (xs ++ ys))
  | .Sub, .int i, .int j => .ret (.int (i - j))
  | .Mult, .int i, .int j => do guard (small i || small j); .ret (.int (i * j))
  | .Mult, .str x, .int j => do guard (decide (-(2 ^ 62) ≤ j) && decide (j < 2 ^ 62) && decide (x.length * j.toNat ≤ lim)); .ret (.str ⟨(repL j.toNat x.cps.toList).toArray⟩)
  | .FloorDiv, .int i, .int j => do guard (decide (0 < j) && decide (j < 1073741824)); .ret (.int (i / j))
  | .Mod, .int i, .int j => do guard (decide (0 < j)); .ret (.int (i % j))
  | _, _, _ => .err
/-- op= -/
def dAug : Operator → D → D → Tree D
  | .Add, .int i, .int j => .ret (.int (i + j))
  | .Add, .str x, .str y => do guard (decide (x.length + y.length ≤ lim)); .ret (.str (x ++ y))
  | .Sub, .int i, .int j => .ret (.int (i - j))
  | .Mult, .int i, .int j => do guard (small i || small j); .ret (.int (i * j))
  | _, _, _ => .err
def scalar : D → Bool
  | .none => true | .bool _ => true | .int _ => true | .str _ => true
  | _ => false
/-- a == b -/
def dEq : D → D → Tree Bool
  | .int i, .int j => .ret (decide (i = j))
  | .str x, .str y => .ret (decide (x = y))
  | .bool x, .bool y => .ret (decide (x = y))
  | a, b => do guard (SeqAt.shaped a && SeqAt.shaped b); .ret (PyData.eqv a b)
/-- sub stands in s -/
def strIn (i j : Str) : Bool := !(Builtin.Str.occurrences j i 0 j.length 1).isEmpty
/-- keys: numbers, texts -/
def isKey0 : D → Bool
  | .int _ => true | .str _ => true
  | _ => false
def isKey : D → Bool := isKey0
/-- what stands at a key (keys alike: equal if the same) -/
def keyEq : D → D → Bool
  | .int i, .int j => decide (i = j)
  | .str x, .str y => decide (x = y)
  | _, _ => false
def lookD (k : D) : List (D × D) → Option D
  | [] => none
  | (a, v) :: r => if keyEq a k then some v else lookD k r
def putD (k v : D) (kvs : List (D × D)) : List (D × D) :=
  if (kvs.any fun p => keyEq p.1 k) = true then kvs.map (fun p => if keyEq p.1 k = true then (p.1, v) else p) else kvs ++ [(k, v)]
def dIn : D → D → Tree Bool
  | .str x, .str y => .ret (strIn x y)
  | a, .dict kvs => do guard (isKey a); .ret (lookD a kvs).isSome
  | a, .list xs => do guard (SeqAt.shaped a && SeqAt.shaped (.list xs)); .ret (xs.any fun z => PyData.eqv z a)
  | a, .tuple xs => do guard (SeqAt.shaped a && SeqAt.shaped (.tuple xs)); .ret (xs.any fun z => PyData.eqv z a)
  | _, _ => .err
def dLt : D → D → Tree Bool
  | .int i, .int j => .ret (decide (i < j))
  | .str x, .str y => .ret (decide (x.cps.toList < y.cps.toList))
  | .tuple xs, .tuple ys => do guard (W.alike (.tuple xs) (.tuple ys) && SeqAt.shaped (.tuple xs) && SeqAt.shaped (.tuple ys)); .ret (W.dataLt (.tuple xs) (.tuple ys))
  | _, _ => .err
def dLe : D → D → Tree Bool
  | .int i, .int j => .ret (decide (i ≤ j))
  | .str x, .str y => .ret (!decide (y.cps.toList < x.cps.toList))
  | _, _ => .err
def isNon : D → Bool
  | .none => true
  | _ => false
def dCmp : CmpOp → D → D → Tree Bool
  | .Eq, a, b => dEq a b
  | .NotEq, a, b => do let k ← dEq a b; .ret (!k)
  | .Lt, a, b => dLt a b
  | .Gt, .int i, .int j => .ret (decide (j < i))
  | .Gt, .str x, .str y => .ret (decide (y.cps.toList < x.cps.toList))
  | .LtE, a, b => dLe a b
  | .GtE, a, b => dLe b a
  | .In, a, b => dIn a b
  | .NotIn, a, b => do let k ← dIn a b; .ret (!k)
  | .Is, a, .none => .ret (isNon a)
  | .IsNot, a, .none => .ret (!isNon a)
  | .Is, .bool a, .bool b => .ret (decide (a = b))
  | .IsNot, .bool a, .bool b => .ret (!decide (a = b))
  | _, _, _ => .err
def dIdx : D → D → Tree D
  | .list xs, .int i => match L2.atI xs i with | some d => .ret d | none => .err
  | .tuple xs, .int i => match L2.atI xs i with | some d => .ret d | none => .err
  | .str x, .int i => do guard (decide (x.length ≤ lim)); match L2.atI x.cps.toList i with | some c => .ret (.str ⟨#[c]⟩) | none => .err
  | .dict kvs, k => do guard (isKey k); match lookD k kvs with | some v => .ret v | none => .err
  | _, _ => .err
def cut {α : Type} (xs : List α) (lo hi : Option Int) : List α := (xs.drop (HT.sIx xs.length 0 lo)).take (HT.sIx xs.length xs.length hi - HT.sIx xs.length 0 lo)
def dSlc (a : D) (lo hi : Option Int) : Tree D := match a with
  | .str x => do guard (decide (x.length ≤ lim)); .ret (.str ⟨(cut x.cps.toList lo hi).toArray⟩)
  | .tuple xs => .ret (.tuple (cut xs lo hi))
  | .list xs => .ret (.list (cut xs lo hi))
  | _ => .err
def dRev : D → Tree D
  | .str x => do guard (decide (x.length ≤ lim)); .ret (.str ⟨x.cps.toList.reverse.toArray⟩)
  | .tuple xs => .ret (.tuple xs.reverse)
  | .list xs => .ret (.list xs.reverse)
  | _ => .err
/-- what a for walks -/
def items : D → Tree (List D)
  | .list xs => .ret xs
  | .tuple xs => .ret xs
  | .str x => do guard (decide (x.length ≤ lim)); .ret (x.cps.toList.map fun c => .str ⟨#[c]⟩)
  | _ => .err
def near62 (i : Int) : Bool := decide (-(2 ^ 62) ≤ i) && decide (i < 2 ^ 62)
def rng (lo : Int) (n : Nat) : List D := (List.range n).map fun (k : Nat) => PyData.int (lo + (k : Int))
def num (n : Nat) : List D → List D
  | [] => []
  | x :: r => .tuple [.int (n : Int), x] :: num (n + 1) r
def zipD : List D → List D → List D
  | x :: xs, y :: ys => .tuple [x, y] :: zipD xs ys
  | _, _ => []
def strsD : List D → Tree (List Str)
  | [] => .ret []
  | .str x :: r => do let xs ← strsD r; .ret (x :: xs)
  | _ => .err
def totLen (sep : Str) (xs : List Str) : Nat := (xs.map (·.length)).sum + xs.length * sep.length
def dJoin (sep : Str) (xs : List D) : Tree D := do
  let ss ← strsD xs
  guard (decide (totLen sep ss ≤ lim))
  .ret (.str (Txt.join sep ss))
def isTup1 : D → Bool
  | .tuple (_ :: _) => true
  | _ => false
def isOth : D → Bool
  | .none => false
  | .tuple _ => false
  | _ => true
def sortable (xs : List D) : Bool :=
  (xs.all fun a => xs.all fun b => W.alike a b) && (xs.all fun a => decide (a.depth ≤ 60)) &&
    (xs.all isTup1 || xs.all isOth)
def dSort (rev : Bool) (xs : List D) : Tree (List D) := do
  guard (sortable xs && decide (xs.length ≤ lim))
  .ret (xs.mergeSort (W.dataLe rev id))
def intsD : List D → Tree (List Int)
  | [] => .ret []
  | .int i :: r => do let xs ← intsD r; .ret (i :: xs)
  | _ => .err
def bools : List D → Tree (List Bool)
  | [] => .ret []
  | .bool b :: r => do let xs ← bools r; .ret (b :: xs)
  | _ => .err
def maxI : List Int → Tree Int
  | [] => .err
  | x :: r => .ret (r.foldl (fun a b => if b > a then b else a) x)
def minI : List Int → Tree Int
  | [] => .err
  | x :: r => .ret (r.foldl (fun a b => if b < a then b else a) x)
def pairOf : D → Tree (D × D)
  | .tuple [k, v] => do guard (isKey k); .ret (k, v)
  | _ => .err
def pairs : List D → Tree (List (D × D))
  | [] => .ret []
  | d :: r => do let p ← pairOf d; let xs ← pairs r; .ret (p :: xs)
def putAll (kvs more : List (D × D)) : List (D × D) := more.foldl (fun acc p => putD p.1 p.2 acc) kvs
/-- key, value, key, value, .. -/
def pairUp : List D → Tree (List (D × D))
  | [] => .ret []
  | k :: v :: r => do guard (isKey k); let xs ← pairUp r; .ret ((k, v) :: xs)
  | _ => .err
def dLen : D → Tree D
  | .str x => do guard (decide (x.length ≤ lim)); .ret (.int x.length)
  | .list xs => .ret (.int xs.length)
  | .tuple xs => .ret (.int xs.length)
  | .dict kvs => .ret (.int kvs.length)
  | _ => .err
def dTuple : D → Tree D
  | .list xs => .ret (.tuple xs)
  | .tuple xs => .ret (.tuple xs)
  | _ => .err
def dList : D → Tree D
  | .list xs => .ret (.list xs)
  | .tuple xs => .ret (.list xs)
  | _ => .err
def dSorted : D → Tree D
  | .list xs => do let ys ← dSort false xs; .ret (.list ys)
  | .dict kvs => do let ys ← dSort false (kvs.map (·.1)); .ret (.list ys)
  | _ => .err
def dAbs : D → Tree D
  | .int i => .ret (.int (if i < 0 then -i else i))
  | _ => .err
def dMax2 : D → D → Tree D
  | .int i, .int j => .ret (.int (if j > i then j else i))
  | _, _ => .err
def dMin2 : D → D → Tree D
  | .int i, .int j => .ret (.int (if j < i then j else i))
  | _, _ => .err
def dMax1 : D → Tree D
  | .list xs => do let is ← intsD xs; let m ← maxI is; .ret (.int m)
  | _ => .err
def dMin1 : D → Tree D
  | .list xs => do let is ← intsD xs; let m ← minI is; .ret (.int m)
  | _ => .err
def dSum : D → Tree D
  | .list xs => do let is ← intsD xs; .ret (.int is.sum)
  | _ => .err
def dAll : D → Tree D
  | .list xs => do let bs ← bools xs; .ret (.bool (bs.all id))
  | _ => .err
def dAny : D → Tree D
  | .list xs => do let bs ← bools xs; .ret (.bool (bs.any id))
  | _ => .err
def dInt : D → Tree D
  | .int i => .ret (.int i)
  | _ => .err
def dStr : D → Tree D
  | .int i => do guard (decide (i.natAbs.log2 < 1920)); .ret (.str (Str.ofString (toString i)))
  | _ => .err
def dDict : D → Tree D
  | .list xs => do let ps ← pairs xs; .ret (.dict (putAll [] ps))
  | _ => .err
def dBi (f : Bi) (ds : List D) : Tree D := match f, ds with
  | .len, [d] => dLen d
  | .tuple, [d] => dTuple d
  | .list, [d] => dList d
  | .sorted, [d] => dSorted d
  | .abs, [d] => dAbs d
  | .max, [d, e] => dMax2 d e
  | .min, [d, e] => dMin2 d e
  | .max, [d] => dMax1 d
  | .min, [d] => dMin1 d
  | .sum, [d] => dSum d
  | .all, [d] => dAll d
  | .any, [d] => dAny d
  | .int, [d] => dInt d
  | .str, [d] => dStr d
  | .dict, [d] => dDict d
  | _, _ => .err
def typeN : D → String
  | .none => "NoneType" | .bool _ => "bool" | .int _ => "int" | .str _ => "str" | .list _ => "list" | .tuple _ => "tuple" | .dict _ => "dict"
def isa (d : D) (ty : String) : Bool := typeN d == ty || (ty == "int" && typeN d == "bool")
def dJoinM : D → D → Tree D
  | .str x, .list xs => dJoin x xs
  | .str x, .tuple xs => dJoin x xs
  | _, _ => .err
def dCount : D → D → Tree D
  | .str x, .str y => .ret (.int (Txt.count x y))
  | _, _ => .err
def dGet1 : D → D → Tree D
  | .dict kvs, k => do guard (isKey k); .ret ((lookD k kvs).getD .none)
  | _, _ => .err
def dGet2 : D → D → D → Tree D
  | .dict kvs, k, d => do guard (isKey k); .ret ((lookD k kvs).getD d)
  | _, _, _ => .err
/-- the receiver's kind -/
def meOk : Me → D → Bool
  | .join, .str _ => true
  | .count, .str _ => true
  | .get, .dict _ => true
  | _, _ => false
def dMe (f : Me) (o : D) (ds : List D) : Tree D := match f, ds with
  | .join, [a] => dJoinM o a
  | .count, [a] => dCount o a
  | .get, [k] => dGet1 o k
  | .get, [k, d] => dGet2 o k d
  | _, _ => .err

mutual
def bindT : T → D → Env → Tree Env
  | .name i, d, ρ => .ret (ρ.set i (some (.v d)))
  | .tup ts, d, ρ => match d with
    | .tuple ds => do guard (decide (ds.length = ts.length)); bindTs ts ds ρ
    | _ => .err
def bindTs : List T → List D → Env → Tree Env
  | [], [], ρ => .ret ρ
  | t :: ts, d :: ds, ρ => do let ρ' ← bindT t d ρ; bindTs ts ds ρ'
  | _, _, _ => .err
end
def wip (ρ : Env) : List Nat → Env
  | [] => ρ
  | v :: vs => (wip ρ vs).set v none

/-- a comprehension's loop: the items taken, what is made so far -/
def lcD {α : Type} (f : D → Tree (Option α)) : List D → Tree (List α)
  | [] => .ret []
  | x :: r => do
    let o ← f x
    match o with
    | some y => let ys ← lcD f r; .ret (y :: ys)
    | none => lcD f r
def lcD2 (f : D → Tree (List D)) : List D → Tree (List D)
  | [] => .ret []
  | x :: r => do
    let ys ← f x
    let zs ← lcD2 f r
    .ret (ys ++ zs)
def forD (f : D → Env → Tree Out) : List D → Env → Tree Out
  | [], ρ => .ret (.nx ρ)
  | x :: r, ρ => do
    let o ← f x ρ
    match o with
    | .nx ρ' => forD f r ρ'
    | .cnt ρ' => forD f r ρ'
    | .brk ρ' => .ret (.nx ρ')
    | .ret d => .ret (.ret d)
def whlD (c : Env → Tree Bool) (f : Env → Tree Out) : Nat → Env → Tree Out
  | 0, _ => .err
  | n + 1, ρ => do
    let k ← c ρ
    if k then
      let o ← f ρ
      match o with
      | .nx ρ' => whlD c f n ρ'
      | .cnt ρ' => whlD c f n ρ'
      | .brk ρ' => .ret (.nx ρ')
      | .ret d => .ret (.ret d)
    else .ret (.nx ρ)
/-- more turns than any while here takes -/
def fuel : Nat := 1073741824
def frzAt (ρ : Env) (i : Nat) : Env := match ρ[i]? with
  | some (some (.own d)) => ρ.set i (some (.v d))
  | _ => ρ

abbrev Phi := Nat → List B → Tree D
/-- what is wanted: a value, an operand that is only looked at, a test, what is walked -/
inductive Md where
  | v | w | t | i
def post (m : Md) (t : Tree D) : Tree D := match m with
  | .v => t
  | .w => t
  | .t => do let x ← t; let k ← truth x; .ret (.bool k)
  | .i => do let x ← t; let xs ← items x; .ret (.list xs)
section
variable (Φ : Phi)
mutual
def ev (m : Md) (e : E) (ρ : Env) : Tree D :=
  match e with
  | .var i => match m with
    | .v => rd ρ i
    | .i => post .i (rd ρ i)
    | .w => rdW ρ i
    | .t => post .t (rdW ρ i)
  | .con d => post m (.ret d)
  | .tup es => post m (do let ds ← evs es ρ; guard (decide (ds.length ≤ lim)); .ret (.tuple ds))
  | .lst es => post m (do let ds ← evs es ρ; guard (decide (ds.length ≤ lim)); .ret (.list ds))
  | .bin op a b => post m (do let x ← ev .v a ρ; let y ← ev .v b ρ; dBin op x y)
  | .neg a => post m (do let x ← ev .v a ρ; let i ← asInt x; .ret (.int (-i)))
  | .not a => match m with
    | .t => do let x ← ev .t a ρ; let k ← asBool x; .ret (.bool (!k))
    | m => post m (do let x ← ev .w a ρ; let k ← truth x; .ret (.bool (!k)))
  | .and a b => match m with
    | .t => do let x ← ev .t a ρ; let k ← asBool x; if k then ev .t b ρ else .ret (.bool false)
    | m => post m (do let x ← ev .v a ρ; let k ← asBool x; if k then ev .v b ρ else .ret (.bool false))
  | .or a b => match m with
    | .t => do let x ← ev .t a ρ; let k ← asBool x; if k then .ret (.bool true) else ev .t b ρ
    | m => post m (do let x ← ev .v a ρ; let k ← asBool x; if k then .ret (.bool true) else ev .v b ρ)
  | .ite c a b => match m with
    | .t => do let x ← ev .t c ρ; let k ← asBool x; if k then ev .t a ρ else ev .t b ρ
    | m => post m (do let x ← ev .t c ρ; let k ← asBool x; if k then ev .v a ρ else ev .v b ρ)
  | .cmp op a b => post m (do let x ← ev .w a ρ; let y ← ev .w b ρ; let k ← dCmp op x y; .ret (.bool k))
  | .cmp2 op op' a b c => post m (do
    let x ← ev .w a ρ; let y ← ev .w b ρ; let k ← dCmp op x y
    if k then let z ← ev .w c ρ; let k' ← dCmp op' y z; .ret (.bool k') else .ret (.bool false))
  | .idx a i => post m (do let x ← ev .w a ρ; let j ← ev .v i ρ; dIdx x j)
  | .slc a lo hi => post m (do let x ← ev .w a ρ; let l ← evO lo ρ; let h ← evO hi ρ; dSlc x l h)
  | .rev a => post m (do let x ← ev .w a ρ; dRev x)
  | .call f as => post m (do let bs ← evBs as ρ; Φ f bs)
  | .bi f as => match m, f, as with
    | .i, .range, [a] => do let x ← ev .v a ρ; let n ← asInt x; guard (near62 n); .ret (.list (rng 0 n.toNat))
    | .i, .range, [a, b] => do let x ← ev .v a ρ; let y ← ev .v b ρ; let m ← asInt x; let n ← asInt y; guard (near62 m && near62 n); .ret (.list (rng m (n - m).toNat))
    | .i, .enumerate, [a] => do let x ← ev .v a ρ; let xs ← items x; .ret (.list (num 0 xs))
    | .i, .zip, [a, b] => do let x ← ev .v a ρ; let y ← ev .v b ρ; let xs ← items x; let ys ← items y; .ret (.list (zipD xs ys))
    | m, f, as => post m (do let ds ← evWs as ρ; dBi f ds)
  | .isa a ty => post m (do let x ← ev .w a ρ; .ret (.bool (isa x ty)))
  | .me f o as => match m, f, as with
    | .i, .items, [] => do let x ← ev .v o ρ; let kvs ← asDic x; .ret (.list (kvs.map fun p => .tuple [p.1, p.2]))
    | .i, .values, [] => do let x ← ev .v o ρ; let kvs ← asDic x; .ret (.list (kvs.map (·.2)))
    | m, f, as => post m (do let x ← ev .w o ρ; guard (meOk f x); let ds ← evWs as ρ; dMe f x ds)
  | .lc tg vs it ifs el => post m (do
    let l ← ev .i it ρ
    let xs ← asLst l
    guard (decide (xs.length ≤ lim))
    let ys ← lcD (fun x => do
      let ρ' ← bindT tg x (wip ρ vs)
      let k ← evIfs ifs ρ'
      if k then let y ← ev .v el ρ'; .ret (some y) else .ret none) xs
    .ret (.list ys))
  | .lc2 tg vs it ifs tg1 vs1 it1 ifs1 el => post m (do
    let l ← ev .i it ρ
    let xs ← asLst l
    guard (decide (xs.length ≤ 4096))
    let ys ← lcD2 (fun x => do
      let ρ' ← bindT tg x (wip ρ vs)
      let k ← evIfs ifs ρ'
      if k then
        let l1 ← ev .i it1 ρ'
        let xs1 ← asLst l1
        guard (decide (xs1.length ≤ 4096))
        lcD (fun x1 => do
          let ρ2 ← bindT tg1 x1 (wip ρ' vs1)
          let k1 ← evIfs ifs1 ρ2
          if k1 then let y ← ev .v el ρ2; .ret (some y) else .ret none) xs1
      else .ret []) xs
    .ret (.list ys))
  | .dc tg vs it ifs k v => post m (do
    let l ← ev .i it ρ
    let xs ← asLst l
    guard (decide (xs.length ≤ lim))
    let ps ← lcD (fun x => do
      let ρ' ← bindT tg x (wip ρ vs)
      let b ← evIfs ifs ρ'
      if b then let kd ← ev .v k ρ'; let vd ← ev .v v ρ'; guard (isKey kd); .ret (some (kd, vd)) else .ret none) xs
    .ret (.dict (putAll [] ps)))
  | .dic es => post m (do
    let ds ← evs es ρ
    let ps ← pairUp ds
    guard (decide (ps.length ≤ 15))
    .ret (.dict (putAll [] ps)))
termination_by structural e
def evWs (es : List E) (ρ : Env) : Tree (List D) :=
  match es with
  | [] => .ret []
  | e :: r => do let x ← ev .w e ρ; let xs ← evWs r ρ; .ret (x :: xs)
termination_by structural es
def evs (es : List E) (ρ : Env) : Tree (List D) :=
  match es with
  | [] => .ret []
  | e :: r => do let x ← ev .v e ρ; let xs ← evs r ρ; .ret (x :: xs)
termination_by structural es
def evBs (es : List E) (ρ : Env) : Tree (List B) :=
  match es with
  | [] => .ret []
  | e :: r => do
    let x ← (match e with
      | .var i => rdB ρ i
      | e => do let x ← ev .v e ρ; .ret (.v x))
    let xs ← evBs r ρ
    .ret (x :: xs)
termination_by structural es
def evO (e : Option E) (ρ : Env) : Tree (Option Int) :=
  match e with
  | none => .ret none
  | some e => do let x ← ev .v e ρ; let i ← asInt x; .ret (some i)
termination_by structural e
def evIfs (es : List E) (ρ : Env) : Tree Bool :=
  match es with
  | [] => .ret true
  | e :: r => do let x ← ev .t e ρ; let k ← asBool x; if k then evIfs r ρ else .ret false
termination_by structural es
end
def evT (e : E) (ρ : Env) : Tree Bool := do let x ← ev Φ .t e ρ; asBool x
def evI (e : E) (ρ : Env) : Tree (List D) := do let x ← ev Φ .i e ρ; asLst x

mutual
def ex (s : S) (ρ : Env) : Tree Out :=
  match s with
  | .asg t e => do let x ← ev Φ .v e ρ; let ρ' ← bindT t x ρ; .ret (.nx ρ')
  | .own i e => do let x ← ev Φ .v e ρ; .ret (.nx (ρ.set i (some (.own x))))
  | .aug i op e => do let x ← rd ρ i; let y ← ev Φ .v e ρ; let z ← dAug op x y; .ret (.nx (ρ.set i (some (.v z))))
  | .ret e => do let x ← ev Φ .v e ρ; .ret (.ret x)
  | .retN => .ret (.ret .none)
  | .ite c a b => do let k ← evT Φ c ρ; if k then exs a ρ else exs b ρ
  | .whl c b => whlD (evT Φ c) (exs b) fuel ρ
  | .for_ t it b => do
    let xs ← evI Φ it ρ
    forD (fun x ρ' => do let ρ2 ← bindT t x ρ'; exs b ρ2) xs ρ
  | .app i e => match ρ[i]? with
    | some (some (.own (.list xs))) => do
      let y ← ev Φ .v e ρ
      guard (decide (xs.length < lim))
      .ret (.nx (ρ.set i (some (.own (.list (xs ++ [y]))))))
    | _ => .err
  | .ext i e => match ρ[i]? with
    | some (some (.own (.list xs))) => do
      let y ← ev Φ .v e ρ
      let ys ← asLst y
      guard (decide (xs.length + ys.length ≤ lim))
      .ret (.nx (ρ.set i (some (.own (.list (xs ++ ys))))))
    | _ => .err
  | .upd i e => match ρ[i]? with
    | some (some (.own (.dict kvs))) => do
      let y ← ev Φ .v e ρ
      let ps ← asDic y
      guard (decide (kvs.length + ps.length ≤ lim))
      .ret (.nx (ρ.set i (some (.own (.dict (putAll kvs ps))))))
    | _ => .err
  | .sto i k v => match ρ[i]? with
    | some (some (.own (.dict kvs))) => do
      let y ← ev Φ .v v ρ
      let x ← ev Φ .v k ρ
      guard (isKey x)
      .ret (.nx (ρ.set i (some (.own (.dict (putD x y kvs))))))
    | some (some (.own (.list xs))) => do
      let y ← ev Φ .v v ρ
      let x ← ev Φ .v k ρ
      let j ← asInt x
      match L2.ixN xs.length j with
      | some n => .ret (.nx (ρ.set i (some (.own (.list (xs.set n y))))))
      | none => .err
    | _ => .err
  | .exp e => do let _ ← ev Φ .v e ρ; .ret (.nx ρ)
  | .pass => .ret (.nx ρ)
  | .brk => .ret (.brk ρ)
  | .cnt => .ret (.cnt ρ)
  | .frz i => .ret (.nx (frzAt ρ i))
  | .bad => .err
termination_by structural s
def exs (ss : List S) (ρ : Env) : Tree Out :=
  match ss with
  | [] => .ret (.nx ρ)
  | s :: r => do
    let o ← ex s ρ
    match o with
    | .nx ρ' => exs r ρ'
    | o => .ret o
termination_by structural ss
end
end

/-- a def: how many parameters, slots, its body -/
structure Fn where
  np : Nat
  ns : Nat
  body : List S
def runF (Φ : Phi) (f : Fn) (bs : List B) : Tree D :=
  if bs.length = f.np then do
    let o ← exs Φ f.body (bs.map some ++ List.replicate (f.ns - f.np) none)
    match o with
    | .ret d => .ret d
    | .nx _ => .ret .none
    | _ => .err
  else .err
/-- what stands at a def's place: a body, or what it does (told by hand) -/
inductive Fd where
  | fn (f : Fn)
  | prim (T : List B → Tree D)
def callN (tab : List Fd) : Nat → Phi
  | 0, _, _ => .err
  | k + 1, i, bs => match tab[i]? with
    | some (.fn f) => runF (callN tab k) f bs
    | some (.prim T) => if k < 4 then .err else T bs
    | none => .err
end Pd

namespace Pd
open PySem L2

/-- where the translation stands: the def's names by slot, the scope that runs, a block's own scope, the defs, the module's constants, the built-ins that the module leaves alone -/
structure Ctx where
  N : List Str
  sc : Scope
  blk : Option Scope
  fns : List (Str × Nat)
  cons : List (Str × D)
  bis : List Str

def slotOf (x : Str) : List Str → Option Nat
  | [] => none
  | y :: r => if y = x then some 0 else (slotOf x r).map (· + 1)
theorem slotOf_some {x : Str} : ∀ {N : List Str} {i : Nat}, slotOf x N = some i → N[i]? = some x
  | [], _, h => by cases h
  | y :: r, i, h => by
    unfold slotOf at h
    split at h
    · rename_i e
      cases h
      rw [e]; rfl
    · cases q : slotOf x r with
      | none => rw [q] at h; cases h
      | some j =>
        rw [q] at h
        cases h
        show (y :: r)[j + 1]? = some x
        rw [List.getElem?_cons_succ]
        exact slotOf_some q
def nm : Str → Bool := fun x => (x == ("__debug__" : Str)) || (x == ("__classdict__" : Str)) || (x == ("__name__" : Str))
def visB (sc : Scope) (x : Str) : Bool := match sc.names.lookup x with
  | some .local => true | some .cell => true | some .free => true
  | _ => false
def glB (sc : Scope) (x : Str) : Bool := match sc.names.lookup x with
  | some .globalImplicit => true
  | _ => false
def storeB (C : Ctx) (x : Str) : Bool := match C.sc.names.lookup x with
  | some .local => true
  | some .cell => (match C.blk with
    | none => true
    | some s => s.names.lookup x == some .cell)
  | _ => false
def localB (sc : Scope) (x : Str) : Bool := match sc.names.lookup x with
  | some .local => true
  | _ => false

def notStar : Expr → Bool
  | .Starred .. => false
  | _ => true
def mapO {α β : Type} (f : α → Option β) : List α → Option (List β)
  | [] => some []
  | x :: r => match f x with
    | some y => (match mapO f r with
      | some ys => some (y :: ys)
      | none => none)
    | none => none
theorem mapO_nil {α β : Type} {f : α → Option β} {ys : List β} (h : mapO f [] = some ys) : ys = [] := (Option.some.inj h).symm
theorem mapO_cons {α β : Type} {f : α → Option β} {x : α} {r : List α} {ys : List β} (h : mapO f (x :: r) = some ys) : ∃ y ys', ys = y :: ys' ∧ f x = some y ∧ mapO f r = some ys' := by
  unfold mapO at h
  split at h
  · rename_i y hy
    split at h
    · rename_i ys' hys
      exact ⟨y, ys', (Option.some.inj h).symm, hy, hys⟩
    · cases h
  · cases h
def trT (C : Ctx) : Nat → Expr → Option T
  | 0, _ => none
  | n + 1, e => match e with
    | .Name x _ => if storeB C x then (slotOf x C.N).map T.name else none
    | .Tuple es _ _ => if es.all notStar then (mapO (trT C n) es).map T.tup else none
    | _ => none
mutual
def T.names : T → List Nat
  | .name i => [i]
  | .tup ts => T.namesL ts
def T.namesL : List T → List Nat
  | [] => []
  | t :: ts => t.names ++ T.namesL ts
end
/-- the block's own names, with their slots -/
def ownOf (N : List Str) (is : List Nat) : List (Str × Nat) := is.filterMap fun i => (N[i]?).map fun x => (x, i)

def biTab : List (Str × Bi) := [("len", .len), ("tuple", .tuple), ("list", .list), ("sorted", .sorted), ("abs", .abs), ("max", .max), ("min", .min), ("sum", .sum), ("all", .all), ("any", .any), ("int", .int), ("str", .str), ("dict", .dict), ("range", .range)]
def biOf (x : Str) : Option Bi := biTab.lookup x
def meTab : List (Str × Me) := [("join", .join), ("count", .count)]
def meOf (x : Str) : Option Me := meTab.lookup x
def tyTab : List (Str × String) := [("tuple", "tuple"), ("list", "list"), ("bool", "bool"), ("int", "int"), ("str", "str")]
def tyOf (x : Str) : Option String := tyTab.lookup x
/-- a comprehension's head: one for, no set display -/
def notSet : Expr → Bool
  | .Set .. => false
  | _ => true
/-- no call without arguments -/
def notCall0 : Expr → Bool
  | .Call _ [] [] _ => false
  | _ => true
/-- an expression, with fuel -/
def trE (C : Ctx) : Nat → Expr → Option E
  | 0, _ => none
  | n + 1, e => match e with
    | .Constant (.int i) _ _ => some (.con (.int i))
    | .Constant (.str x) _ _ => some (.con (.str x))
    | .Constant (.bool b) _ _ => some (.con (.bool b))
    | .Constant .none _ _ => some (.con .none)
    | .Name x _ => if nm x then none else if visB C.sc x then (slotOf x C.N).map E.var
      else if glB C.sc x then (C.cons.lookup x).map E.con else none
    | .Tuple es _ _ => if es.all notStar then (mapO (trE C n) es).map E.tup else none
    | .List es _ => if es.all notStar then (mapO (trE C n) es).map E.lst else none
    | .BinOp a op b _ => do let x ← trE C n a; let y ← trE C n b; some (.bin op x y)
    | .UnaryOp .USub a _ => do let x ← trE C n a; some (.neg x)
    | .UnaryOp .Not a _ => do let x ← trE C n a; some (.not x)
    | .BoolOp .And [a, b] _ => do let x ← trE C n a; let y ← trE C n b; some (.and x y)
    | .BoolOp .And (a :: b :: c :: r) p => do let x ← trE C n a; let y ← trE C n (.BoolOp .And (b :: c :: r) p); some (.and x y)
    | .BoolOp .Or [a, b] _ => do let x ← trE C n a; let y ← trE C n b; some (.or x y)
    | .BoolOp .Or (a :: b :: c :: r) p => do let x ← trE C n a; let y ← trE C n (.BoolOp .Or (b :: c :: r) p); some (.or x y)
    | .IfExp c a b _ => do let z ← trE C n c; let x ← trE C n a; let y ← trE C n b; some (.ite z x y)
    | .Compare a [op] [b] _ => if notSet b then do let x ← trE C n a; let y ← trE C n b; some (.cmp op x y) else none
    | .Compare a [op, op'] [b, c] _ => if notSet b && notSet c then do let x ← trE C n a; let y ← trE C n b; let z ← trE C n c; some (.cmp2 op op' x y z) else none
    | .Subscript a (.Slice none none (some (.UnaryOp .USub (.Constant (.int 1) _ _) _)) _) _ => do let x ← trE C n a; some (.rev x)
    | .Subscript a (.Slice lo hi none _) _ => do
      let x ← trE C n a
      let l ← (match lo with | none => some none | some e => (trE C n e).map some)
      let h ← (match hi with | none => some none | some e => (trE C n e).map some)
      some (.slc x l h)
    | .Subscript _ (.Slice ..) _ => none
    | .Subscript a i _ => do let x ← trE C n a; let y ← trE C n i; some (.idx x y)
    | .Call (.Name f _) args [] _ =>
      if nm f || !glB C.sc f || !args.all notStar || args.isEmpty then none else
      match C.fns.lookup f with
      | some k => (mapO (trE C n) args).map (E.call k)
      | none => if C.bis.contains f then
          if f = "isinstance" then
            (match args with
            | [a, .Name t _] => if C.bis.contains t && glB C.sc t && !nm t then do let x ← trE C n a; let ty ← tyOf t; some (.isa x ty) else none
            | _ => none)
          else match biOf f with
            | some b => (mapO (trE C n) args).map (E.bi b)
            | none => none
        else none
    | .Call (.Attribute o m apos) args [] pos =>
      if !args.all notStar || !(apos.endLine == pos.line) || args.isEmpty || decide (10 < args.length) || !notCall0 o then none else
      match meOf m with
      | some k => do let x ← trE C n o; let ys ← mapO (trE C n) args; some (.me k x ys)
      | none => none
    | .ListComp el [⟨tg, it, ifs, 0⟩] scope _ =>
      if !notSet it || ifs.length > 1 then none else
      let C' : Ctx := { C with sc := relS scope C.sc, blk := some scope }
      do
        let t ← trT C' 9 tg
        let own := ownOf C.N t.names
        if !blkC C.N C.sc scope own || !decide (own.map (·.2) = t.names) then none else do
          let i ← trE C n it
          let cs ← mapO (trE C' n) ifs
          let y ← trE C' n el
          some (.lc t t.names i cs y)
    | .DictComp k v [⟨tg, it, ifs, 0⟩] scope _ =>
      if !notSet it || ifs.length > 1 then none else
      let C' : Ctx := { C with sc := relS scope C.sc, blk := some scope }
      do
        let t ← trT C' 9 tg
        let own := ownOf C.N t.names
        if !blkC C.N C.sc scope own || !decide (own.map (·.2) = t.names) then none else do
          let i ← trE C n it
          let cs ← mapO (trE C' n) ifs
          let x ← trE C' n k
          let y ← trE C' n v
          some (.dc t t.names i cs x y)
    | .ListComp el [⟨tg, it, ifs, 0⟩, ⟨tg1, it1, ifs1, 0⟩] scope _ =>
      if !notSet it || ifs.length > 1 || !notSet it1 || ifs1.length > 1 then none else
      let C' : Ctx := { C with sc := relS scope C.sc, blk := some scope }
      do
        let t ← trT C' 9 tg
        let t1 ← trT C' 9 tg1
        let own := ownOf C.N (t.names ++ t1.names)
        if !blkC C.N C.sc scope own || !decide (own.map (·.2) = t.names ++ t1.names) then none else do
          let i ← trE C n it
          let cs ← mapO (trE C' n) ifs
          let i1 ← trE C' n it1
          let cs1 ← mapO (trE C' n) ifs1
          let y ← trE C' n el
          some (.lc2 t (t.names ++ t1.names) i cs t1 t1.names i1 cs1 y)
    | .Dict [] [] _ => some (.dic [])
    | .Dict (k :: ks) vs _ => if !(ks.all (·.isSome) && k.isSome) || !decide ((k :: ks).length = vs.length) || decide (15 < (k :: ks).length) then none else
      (mapO (fun p => do let k ← p.1; let x ← trE C n k; let y ← trE C n p.2; some (x, y)) ((k :: ks).zip vs)).map fun ps => E.dic (ps.flatMap fun p => [p.1, p.2])
    | _ => none

/-- which slots a value's making may let escape -/
def esc : Nat → E → List Nat
  | 0, _ => []
  | n + 1, e =>
    let w : E → List Nat := fun a => match a with | .var _ => [] | a => esc n a
    match e with
    | .var i => [i]
    | .con _ => []
    | .tup es => es.flatMap (esc n) | .lst es => es.flatMap (esc n)
    | .bin _ a b => esc n a ++ esc n b | .neg a => esc n a | .not a => w a
    | .and a b => esc n a ++ esc n b | .or a b => esc n a ++ esc n b
    | .ite c a b => w c ++ esc n a ++ esc n b
    | .cmp _ a b => w a ++ w b | .cmp2 _ _ a b c => w a ++ w b ++ w c
    | .idx a i => w a ++ esc n i
    | .slc a lo hi => w a ++ (match lo with | some e => esc n e | none => []) ++ (match hi with | some e => esc n e | none => [])
    | .rev a => w a
    | .call _ as => as.flatMap (esc n)
    | .bi .enumerate as => as.flatMap (esc n)
    | .bi .zip as => as.flatMap (esc n)
    | .bi _ as => as.flatMap w
    | .isa a _ => w a
    | .me .items o _ => esc n o
    | .me .values o _ => esc n o
    | .me _ o as => w o ++ as.flatMap w
    | .lc _ vs it ifs el => (esc n it ++ ifs.flatMap w ++ esc n el).filter fun i => !vs.contains i
    | .lc2 _ vs it ifs _ _ it1 ifs1 el => (esc n it ++ ifs.flatMap w ++ esc n it1 ++ ifs1.flatMap w ++ esc n el).filter fun i => !vs.contains i
    | .dc _ vs it ifs k v => (esc n it ++ ifs.flatMap w ++ esc n k ++ esc n v).filter fun i => !vs.contains i
    | .dic es => es.flatMap (esc n)
/-- a new list or dict -/
def isNew : E → Bool
  | .lst _ => true
  | .lc .. => true
  | .lc2 .. => true
  | .dc .. => true
  | .dic .. => true
  | _ => false
def frzs (is : List Nat) : List S := is.map S.frz
def withF (e : E) (s : S) : List S := frzs (esc 40 e).eraseDups ++ [s]
def testF (e : E) (s : S) : List S := frzs (match e with | .var _ => [] | e => (esc 40 e).eraseDups) ++ [s]

def dep : Nat := 60
def notTup : Expr → Bool
  | .Tuple .. => false
  | _ => true
/-- a, b = x, y: stored from the right -/
def noSwap (C : Ctx) (ts : List Expr) (e : Expr) : Bool := notTup e || ts.any (fun t => match t with | .Name x _ => !localB C.sc x | _ => false)
def parOk (x y : Str) (px py : Pos) (a b : Expr) : Bool :=
  px.line == py.line && !(x == y) && !([a, b].all (foldedForSure 8)) && !([a, b].all (constantsAlone 8))
mutual
def trS (C : Ctx) : Stmt → Option (List S)
  | .Assign [.Name x _] e _ => if !storeB C x then none else do
    let i ← slotOf x C.N
    let y ← trE C dep e
    some (withF y (if isNew y then .own i y else .asg (.name i) y))
  | .Assign [.Tuple [.Name x px, .Name y py] tk pt] (.Tuple [a, b] _ _) _ => if !(localB C.sc x && localB C.sc y) then (if !notStar a || !notStar b then none else do
      let t ← trT C 9 (.Tuple [.Name x px, .Name y py] tk pt)
      let u ← trE C dep a
      let v ← trE C dep b
      some (withF (.tup [u, v]) (.asg t (.tup [u, v]))))
    else if !notStar a || !notStar b || !parOk x y px py a b then none else do
    let i ← slotOf x C.N
    let j ← slotOf y C.N
    let u ← trE C dep a
    let v ← trE C dep b
    if i = j then none else some (withF (.tup [u, v]) (.asg (.tup [.name i, .name j]) (.tup [u, v])))
  | .Assign [.Tuple ts k p] e _ => if !notTup e then none else do
    let t ← trT C 9 (.Tuple ts k p)
    let y ← trE C dep e
    some (withF y (.asg t y))
  | .AugAssign (.Name x _) op e _ => if !storeB C x then none else do
    let i ← slotOf x C.N
    let y ← trE C dep e
    some (withF y (match op, isNew y with
    | .Add, true => .ext i y
    | _, _ => .aug i op y))
  | .Expr (.Call (.Attribute (.Name x _) m apos) [a] [] pos) _ => if nm x || !visB C.sc x || !notStar a || !(apos.endLine == pos.line) then none else do
    let i ← slotOf x C.N
    let y ← trE C dep a
    if m = "append" then some (withF y (.app i y))
    else if m = "extend" then some (withF y (.ext i y))
    else if m = "update" then some (withF y (.upd i y))
    else none
  | .Return (some e) _ => do let y ← trE C dep e; some (withF y (.ret y))
  | .Return none _ => some [.retN]
  | .If c a b _ => do
    let x ← trE C dep c
    let s ← trSs C a
    let t ← trSs C b
    some (testF x (.ite x s t))
  | .While c b [] _ => do
    let x ← trE C dep c
    let s ← trSs C b
    some (testF x (.whl x s))
  | .For tg it b [] _ => if !notSet it then none else do
    let t ← trT C 9 tg
    let i ← trE C dep it
    let s ← trSs C b
    some (withF i (.for_ t i s))
  | .Pass _ => some [.pass]
  | .Break _ => some [.brk]
  | .Continue _ => some [.cnt]
  | .Expr (.Constant (.str _) _ _) _ => some [.pass]
  | _ => none
def trSs (C : Ctx) : List Stmt → Option (List S)
  | [] => some []
  | s :: r => do let y ← trSs C r; some ((trS C s).getD [.bad] ++ y)
end

/-- a def: its names by slot, the parameters first -/
def namesOf (st : Stmt) : List Str := match st with
  | .FunctionDef _ a _ _ _ _ sc _ _ _ => a.args.map (·.arg) ++ (sc.names.filterMap fun (x, k) => match k with
      | .local => if (a.args.map (·.arg)).contains x then none else some x
      | .cell => if (a.args.map (·.arg)).contains x then none else some x
      | _ => none)
  | _ => []
end Pd

namespace Pd
open PySem PySem.Spec L2

def kD : Key → D
  | .inl i => .int i
  | .inr x => .str x

mutual
/-- v says d, by what stands still in G -/
inductive Rp (K : PySem.W.Frag) (G : Hp) : V → D → Prop
  | non : Rp K G .non .none
  | bl (b : Bool) : Rp K G (.bl b) (.bool b)
  | int (i : Int) : Rp K G (.int i) (.int i)
  | str (x : Str) : Rp K G (.str x) (.str x)
  | lst {a : Addr} {vs : List V} {ds : List D} : G a = some (.lst vs) → Rps K G vs ds → Rp K G (.ref a) (.list ds)
  | tup {a : Addr} {vs : List V} {ds : List D} : SqT K G a vs → Rps K G vs ds → Rp K G (.ref a) (.tuple ds)
  | dic {a : Addr} {ks : List (Key × V)} {kvs : List (D × D)} : G a = some (.dK ks) → Rpk K G ks kvs → Rp K G (.ref a) (.dict kvs)
inductive Rps (K : PySem.W.Frag) (G : Hp) : List V → List D → Prop
  | nil : Rps K G [] []
  | cons {v : V} {vs : List V} {d : D} {ds : List D} : Rp K G v d → Rps K G vs ds → Rps K G (v :: vs) (d :: ds)
inductive Rpk (K : PySem.W.Frag) (G : Hp) : List (Key × V) → List (D × D) → Prop
  | nil : Rpk K G [] []
  | cons {k : Key} {v : V} {ks : List (Key × V)} {d : D} {kvs : List (D × D)} : Rp K G v d → Rpk K G ks kvs → Rpk K G ((k, v) :: ks) ((kD k, d) :: kvs)
end

theorem Same.sqT {K : PySem.W.Frag} {H H' : Hp} {a : Addr} {xs : List V} (e : Same H H') (h : SqT K H a xs) : SqT K H' a xs := by
  rcases h with (h | ⟨o, h⟩) | h
  · exact .inl (.inl (e _ _ h))
  · exact .inl (.inr ⟨o, e _ _ h⟩)
  · exact .inr h

mutual
theorem Rp.mono {K : PySem.W.Frag} {G G' : Hp} (g : Same G G') : ∀ {v : V} {d : D}, Rp K G v d → Rp K G' v d
  | _, _, .non => .non
  | _, _, .bl b => .bl b
  | _, _, .int i => .int i
  | _, _, .str x => .str x
  | _, _, .lst h r => .lst (g _ _ h) (Rps.mono g r)
  | _, _, .tup h r => .tup (Same.sqT g h) (Rps.mono g r)
  | _, _, .dic h r => .dic (g _ _ h) (Rpk.mono g r)
theorem Rps.mono {K : PySem.W.Frag} {G G' : Hp} (g : Same G G') : ∀ {vs : List V} {ds : List D}, Rps K G vs ds → Rps K G' vs ds
  | _, _, .nil => .nil
  | _, _, .cons a b => .cons (Rp.mono g a) (Rps.mono g b)
theorem Rpk.mono {K : PySem.W.Frag} {G G' : Hp} (g : Same G G') : ∀ {vs : List (Key × V)} {ds : List (D × D)}, Rpk K G vs ds → Rpk K G' vs ds
  | _, _, .nil => .nil
  | _, _, .cons a b => .cons (Rp.mono g a) (Rpk.mono g b)
end
section
variable {K : PySem.W.Frag} {G : Hp}
theorem Rps.length : ∀ {vs : List V} {ds : List D}, Rps K G vs ds → vs.length = ds.length
  | _, _, .nil => rfl
  | _, _, .cons _ b => congrArg (· + 1) b.length
theorem Rpk.length : ∀ {vs : List (Key × V)} {ds : List (D × D)}, Rpk K G vs ds → vs.length = ds.length
  | _, _, .nil => rfl
  | _, _, .cons _ b => congrArg (· + 1) b.length
theorem Rps.get : ∀ {vs : List V} {ds : List D}, Rps K G vs ds → ∀ {i : Nat} {d : D}, ds[i]? = some d → ∃ v, vs[i]? = some v ∧ Rp K G v d
  | _, _, .nil, i, d, h => by simp at h
  | _, _, .cons a b, 0, d, h => by cases (show some _ = some d from h); exact ⟨_, rfl, a⟩
  | _, _, .cons a b, i + 1, d, h => by
    obtain ⟨v, h1, h2⟩ := b.get (i := i) (d := d) (by simpa using h)
    exact ⟨v, by simpa using h1, h2⟩
theorem Rps.getv : ∀ {vs : List V} {ds : List D}, Rps K G vs ds → ∀ {i : Nat} {v : V}, vs[i]? = some v → ∃ d, ds[i]? = some d ∧ Rp K G v d
  | _, _, .nil, i, d, h => by simp at h
  | _, _, .cons a b, 0, d, h => by cases (show some _ = some d from h); exact ⟨_, rfl, a⟩
  | _, _, .cons a b, i + 1, d, h => by
    obtain ⟨v, h1, h2⟩ := b.getv (i := i) (v := d) (by simpa using h)
    exact ⟨v, by simpa using h1, h2⟩
theorem Rps.append : ∀ {vs : List V} {ds : List D} {vs' : List V} {ds' : List D}, Rps K G vs ds → Rps K G vs' ds' → Rps K G (vs ++ vs') (ds ++ ds')
  | _, _, _, _, .nil, h => h
  | _, _, _, _, .cons a b, h => .cons a (b.append h)
theorem Rps.take : ∀ {vs : List V} {ds : List D} (n : Nat), Rps K G vs ds → Rps K G (vs.take n) (ds.take n)
  | _, _, 0, _ => .nil
  | _, _, _ + 1, .nil => .nil
  | _, _, n + 1, .cons a b => .cons a (b.take n)
theorem Rps.drop : ∀ {vs : List V} {ds : List D} (n : Nat), Rps K G vs ds → Rps K G (vs.drop n) (ds.drop n)
  | _, _, 0, h => h
  | _, _, _ + 1, .nil => .nil
  | _, _, n + 1, .cons _ b => b.drop n
theorem Rps.reverse {vs : List V} {ds : List D} (h : Rps K G vs ds) : Rps K G vs.reverse ds.reverse := by
  induction vs generalizing ds with
  | nil => cases h; exact .nil
  | cons v vs ih =>
    cases h with
    | cons a b =>
      rw [List.reverse_cons, List.reverse_cons]
      exact (ih b).append (.cons a .nil)
theorem Rps.set : ∀ {vs : List V} {ds : List D} (n : Nat) {v : V} {d : D}, Rps K G vs ds → Rp K G v d → Rps K G (vs.set n v) (ds.set n d)
  | _, _, _, _, _, .nil, _ => .nil
  | _, _, 0, _, _, .cons _ b, r => .cons r b
  | _, _, n + 1, _, _, .cons a b, r => .cons a (b.set n r)
theorem Rps.cut {vs : List V} {ds : List D} (h : Rps K G vs ds) (lo hi : Option Int) : Rps K G (cutV vs lo hi) (cut ds lo hi) := by
  unfold cutV Pd.cut
  rw [h.length]
  exact (h.drop _).take _
/-- as data of the layer -/
theorem Rp.dpOf (P : D → Bool) (Ps : List D → Bool) (pl : ∀ xs, P (.list xs) = true → Ps xs = true) (pt : ∀ xs, P (.tuple xs) = true → Ps xs = true) (pd : ∀ kvs, P (.dict kvs) = false) (pc : ∀ x xs, Ps (x :: xs) = true → P x = true ∧ Ps xs = true) :
    ∀ {d : D} {v : V}, Rp K G v d → P d = true → Dp K G v d := by
  intro d
  refine PyData.rec (motive_1 := fun d => ∀ {v : V}, Rp K G v d → P d = true → Dp K G v d) (motive_2 := fun ds => ∀ {vs : List V}, Rps K G vs ds → Ps ds = true → DpAll K G vs ds) (motive_3 := fun _ => True) (motive_4 := fun _ => True)
    ?_ ?_ ?_ ?_ ?_ ?_ ?_ ?_ ?_ ?_ ?_ ?_ d
  · intro v r _; cases r; exact .non
  · intro b v r _; cases r; exact .bl b
  · intro i v r _; cases r; exact .int i
  · intro x v r _; cases r; exact .str x
  · intro xs ih v r h; cases r with
    | lst a b => exact .lst (SqL.of a) (ih b (pl _ h))
  · intro xs ih v r h; cases r with
    | tup a b => exact .tup a (ih b (pt _ h))
  · intro kvs _ v r h; rw [pd] at h; cases h
  · intro vs r _; cases r; exact .nil
  · intro x xs ih1 ih2 vs r h
    cases r with
    | cons a b => exact .cons (ih1 a (pc _ _ h).1) (ih2 b (pc _ _ h).2)
  · trivial
  · intros; trivial
  · intros; trivial
theorem Rp.dp {d : D} {v : V} (r : Rp K G v d) (h : d.canLay0 = true) : Dp K G v d :=
  Rp.dpOf PyData.canLay0 PyData.canLayAll0 (fun xs h => by simpa [PyData.canLay0] using h) (fun xs h => by simpa [PyData.canLay0] using h) (fun _ => by simp [PyData.canLay0])
    (fun x xs h => by
      have h' : (x.canLay0 && PyData.canLayAll0 xs) = true := by simpa [PyData.canLayAll0] using h
      rw [Bool.and_eq_true] at h'
      exact h') r h
theorem Rp.dpA {d : D} {v : V} (r : Rp K G v d) (h : PySem.W.alike d d = true) : Dp K G v d :=
  Rp.dpOf (fun d => PySem.W.alike d d) (fun ds => PySem.W.alikeAll ds ds) (fun xs h => by simpa [PySem.W.alike] using h) (fun xs h => by simpa [PySem.W.alike] using h) (fun _ => by simp [PySem.W.alike])
    (fun x xs h => PySem.W.alike_all_cons h) r h
end

abbrev Wo := Option (Addr × Addr)
def BoxA (W : Wo) (b : Addr) : Prop := ∃ p, W = some p ∧ (b = p.1 ∨ b = p.2)
/-- the script's rest, the number in work, the seed -/
def BoxOk (W : Wo) (H : Hp) : Prop := ∀ p, W = some p → ∃ (cs : List Int) (x y : Int), p.1 ≠ p.2 ∧ H p.1 = some (.lst [.ref p.2, .int x, .int y]) ∧ H p.2 = some (.lst (cs.map V.int)) ∧ cs.length ≤ 63 ∧ 0 ≤ x ∧ 0 ≤ y ∧ y < 4294967296

/-- from (G, H) to (G', H'): G is what stands still, H what is tracked -/
structure Gr (W : Wo) (G H G' H' : Hp) : Prop where
  old : ∀ b o, H b = some o → ¬ BoxA W b → H' b = some o
  g : Same G G'
  le : Same G' H'
  sep : ∀ b, H b ≠ none → G b = none → G' b = none
  dom : ∀ b, H b ≠ none → H' b ≠ none
  box : BoxOk W H → BoxOk W H'
theorem Gr.refl {W : Wo} {G H : Hp} (le : Same G H) : Gr W G H G H := ⟨fun _ _ h _ => h, Same.refl G, le, fun _ _ h => h, fun _ h => h, fun h => h⟩
theorem Gr.trans {W : Wo} {G H G1 H1 G2 H2 : Hp} (a : Gr W G H G1 H1) (b : Gr W G1 H1 G2 H2) : Gr W G H G2 H2 :=
  ⟨fun c o h n => b.old c o (a.old c o h n) n, a.g.trans b.g, b.le, fun c h e => b.sep c (a.dom c h) (a.sep c h e), fun c h => b.dom c (a.dom c h), fun h => b.box (a.box h)⟩
/-- a new object, that stands still from now on -/
theorem Gr.new {W : Wo} {G H : Hp} {p : Addr} {o : HO} (le : Same G H) (hp : H p = none) : Gr W G H (upd G p o) (upd H p o) := by
  have gp : G p = none := by
    cases q : G p with
    | none => rfl
    | some u => rw [le _ _ q] at hp; cases hp
  refine ⟨fun b u h _ => ?_, fun b u h => ?_, fun b u h => ?_, fun b h e => ?_, fun b h => ?_, fun bo q hq => ?_⟩
  · rw [upd_ne (ne_of_none h hp)]; exact h
  · rw [upd_ne (ne_of_none h gp)]; exact h
  · by_cases hb : b = p
    · subst hb; rw [upd_same] at h ⊢; exact h
    · rw [upd_ne hb] at h ⊢; exact le _ _ h
  · have hb : b ≠ p := fun z => by subst z; exact h hp
    rw [upd_ne hb]; exact e
  · by_cases hb : b = p
    · subst hb; rw [upd_same]; simp
    · rw [upd_ne hb]; exact h
  · obtain ⟨cs, x, y, h1, h2, h3, h4⟩ := bo q hq
    exact ⟨cs, x, y, h1, by rw [upd_ne (ne_of_none h2 hp)]; exact h2, by rw [upd_ne (ne_of_none h3 hp)]; exact h3, h4⟩
/-- a new object that may still change -/
theorem Gr.newOwn {W : Wo} {G H : Hp} {p : Addr} {o : HO} (le : Same G H) (hp : H p = none) : Gr W G H G (upd H p o) := by
  refine ⟨fun b u h _ => ?_, Same.refl G, fun b u h => ?_, fun b h e => e, fun b h => ?_, fun bo q hq => ?_⟩
  · rw [upd_ne (ne_of_none h hp)]; exact h
  · rw [upd_ne (ne_of_none (le _ _ h) hp)]; exact le _ _ h
  · by_cases hb : b = p
    · subst hb; rw [upd_same]; simp
    · rw [upd_ne hb]; exact h
  · obtain ⟨cs, x, y, h1, h2, h3, h4⟩ := bo q hq
    exact ⟨cs, x, y, h1, by rw [upd_ne (ne_of_none h2 hp)]; exact h2, by rw [upd_ne (ne_of_none h3 hp)]; exact h3, h4⟩

/-- an operand: it stands still, or it is a list or dict of the def's own -/
inductive Rw (K : PySem.W.Frag) (W : Wo) (G H : Hp) : V → D → Prop
  | s {v : V} {d : D} : Rp K G v d → Rw K W G H v d
  | l {p : Addr} {vs : List V} {ds : List D} : H p = some (.lst vs) → ¬ BoxA W p → Rps K G vs ds → Rw K W G H (.ref p) (.list ds)
  | d {p : Addr} {ks : List (Key × V)} {kvs : List (D × D)} : H p = some (.dK ks) → ¬ BoxA W p → Rpk K G ks kvs → Rw K W G H (.ref p) (.dict kvs)
theorem Rw.mono {K : PySem.W.Frag} {W : Wo} {G H G' H' : Hp} {v : V} {d : D} (g : Gr W G H G' H') : Rw K W G H v d → Rw K W G' H' v d
  | .s r => .s (r.mono g.g)
  | .l h n r => .l (g.old _ _ h n) n (r.mono g.g)
  | .d h n r => .d (g.old _ _ h n) n (r.mono g.g)
/-- an own object's place: it stands still nowhere, it is newer than the def's entry -/
structure OwnAt (W : Wo) (H0 G : Hp) (p : Addr) : Prop where
  g : G p = none
  h0 : H0 p = none
  b : ¬ BoxA W p
inductive RB (K : PySem.W.Frag) (W : Wo) (H0 G H : Hp) : V → B → Prop
  | v {v : V} {d : D} : Rp K G v d → RB K W H0 G H v (.v d)
  | l {p : Addr} {vs : List V} {ds : List D} : H p = some (.lst vs) → OwnAt W H0 G p → Rps K G vs ds → RB K W H0 G H (.ref p) (.own (.list ds))
  | d {p : Addr} {ks : List (Key × V)} {kvs : List (D × D)} : H p = some (.dK ks) → OwnAt W H0 G p → Rpk K G ks kvs → RB K W H0 G H (.ref p) (.own (.dict kvs))
  | box {p : Addr × Addr} : W = some p → RB K W H0 G H (.ref p.1) .box
theorem RB.mono {K : PySem.W.Frag} {W : Wo} {H0 G H G' H' : Hp} {v : V} {b : B} (g : Gr W G H G' H') : RB K W H0 G H v b → RB K W H0 G' H' v b
  | .v r => .v (r.mono g.g)
  | .l h o r => .l (g.old _ _ h o.b) ⟨g.sep _ (by rw [h]; simp) o.g, o.h0, o.b⟩ (r.mono g.g)
  | .d h o r => .d (g.old _ _ h o.b) ⟨g.sep _ (by rw [h]; simp) o.g, o.h0, o.b⟩ (r.mono g.g)
  | .box e => .box e
structure SR (K : PySem.W.Frag) (W : Wo) (G0 H0 : Hp) (σ : St) (G H : Hp) (ρ : Env) : Prop where
  gr : Gr W G0 H0 G H
  box : BoxOk W H
  nob : ∀ b, BoxA W b → G b = none
  len : ρ.length = σ.length
  slot : ∀ (i : Nat) (b : B), ρ[i]? = some (some b) → ∃ v, σ[i]? = some (some v) ∧ RB K W H0 G H v b
  apart : ∀ (i j : Nat) (d d' : D) (v : V), i ≠ j → ρ[i]? = some (some (.own d)) → ρ[j]? = some (some (.own d')) → σ[i]? = some (some v) → σ[j]? = some (some v) → False
section
variable {K : PySem.W.Frag} {W : Wo} {G0 H0 G H G' H' : Hp} {σ : St} {ρ : Env}
theorem SR.le (s : SR K W G0 H0 σ G H ρ) : Same G H := s.gr.le
theorem SR.mono (s : SR K W G0 H0 σ G H ρ) (g : Gr W G H G' H') : SR K W G0 H0 σ G' H' ρ :=
  ⟨s.gr.trans g, g.box s.box, fun b hb => g.sep b (by
      obtain ⟨p, e, z⟩ := hb
      obtain ⟨cs, x, y, _, h1, h2, _⟩ := s.box p e
      rcases z with z | z
      · rw [z, h1]; simp
      · rw [z, h2]; simp) (s.nob b hb), s.len,
    fun i b h => let ⟨v, e, r⟩ := s.slot i b h; ⟨v, e, r.mono g⟩, s.apart⟩
/-- a slot is set to what stands still -/
theorem SR.set (s : SR K W G0 H0 σ G H ρ) {i : Nat} {v : V} {d : D} (r : Rp K G v d) : SR K W G0 H0 (σ.set i (some v)) G H (ρ.set i (some (.v d))) := by
  refine ⟨s.gr, s.box, s.nob, by rw [List.length_set, List.length_set]; exact s.len, fun j b h => ?_, fun j k d1 d2 u hn h1 h2 h3 h4 => ?_⟩
  · by_cases hj : i = j
    · subst hj
      have hl : i < ρ.length := by
        rw [← List.length_set (as := ρ) (i := i) (a := some (B.v d))]
        exact (List.getElem?_eq_some_iff.mp h).1
      rw [List.getElem?_set_self hl] at h
      cases h
      exact ⟨v, by rw [List.getElem?_set_self (by rw [← s.len]; exact hl)], .v r⟩
    · rw [List.getElem?_set_ne hj] at h
      obtain ⟨u, e, r'⟩ := s.slot j b h
      exact ⟨u, by rw [List.getElem?_set_ne hj]; exact e, r'⟩
  · have nj : ∀ j d', (ρ.set i (some (B.v d)))[j]? = some (some (.own d')) → i ≠ j ∧ ρ[j]? = some (some (.own d')) := fun j d' h => by
      by_cases hj : i = j
      · subst hj
        have hl : i < ρ.length := by
          rw [← List.length_set (as := ρ) (i := i) (a := some (B.v d))]
          exact (List.getElem?_eq_some_iff.mp h).1
        rw [List.getElem?_set_self hl] at h
        cases h
      · rw [List.getElem?_set_ne hj] at h
        exact ⟨hj, h⟩
    obtain ⟨n1, e1⟩ := nj _ _ h1
    obtain ⟨n2, e2⟩ := nj _ _ h2
    rw [List.getElem?_set_ne n1] at h3
    rw [List.getElem?_set_ne n2] at h4
    exact s.apart j k d1 d2 u hn e1 e2 h3 h4
/-- a slot is forgotten -/
theorem SR.drop1 (s : SR K W G0 H0 σ G H ρ) {i : Nat} : SR K W G0 H0 (σ.set i none) G H (ρ.set i none) := by
  have nj : ∀ j b, (ρ.set i none)[j]? = some (some b) → i ≠ j ∧ ρ[j]? = some (some b) := fun j b h => by
    by_cases hj : i = j
    · subst hj
      have hl : i < ρ.length := by
        rw [← List.length_set (as := ρ) (i := i) (a := none)]
        exact (List.getElem?_eq_some_iff.mp h).1
      rw [List.getElem?_set_self hl] at h
      cases h
    · rw [List.getElem?_set_ne hj] at h
      exact ⟨hj, h⟩
  refine ⟨s.gr, s.box, s.nob, by rw [List.length_set, List.length_set]; exact s.len, fun j b h => ?_, fun j k d1 d2 u hn h1 h2 h3 h4 => ?_⟩
  · obtain ⟨n, e⟩ := nj j b h
    obtain ⟨u, e', r'⟩ := s.slot j b e
    exact ⟨u, by rw [List.getElem?_set_ne n]; exact e', r'⟩
  · obtain ⟨n1, e1⟩ := nj _ _ h1
    obtain ⟨n2, e2⟩ := nj _ _ h2
    rw [List.getElem?_set_ne n1] at h3
    rw [List.getElem?_set_ne n2] at h4
    exact s.apart j k d1 d2 u hn e1 e2 h3 h4
theorem SR.wip (s : SR K W G0 H0 σ G H ρ) : ∀ vs : List Nat, SR K W G0 H0 (wipe σ vs) G H (Pd.wip ρ vs)
  | [] => s
  | v :: vs => (s.wip vs).drop1
end

def tE (K : PySem.W.Frag) (f : Env → Tree D) : TE := fun σ H Q => ∃ W G0 H0 G ρ, SR K W G0 H0 σ G H ρ ∧ (f ρ).All fun d => ∀ v G' H', Gr W G H G' H' → Rp K G' v d → Q v H'
def tW (K : PySem.W.Frag) (f : Env → Tree D) : TE := fun σ H Q => ∃ W G0 H0 G ρ, SR K W G0 H0 σ G H ρ ∧ (f ρ).All fun d => ∀ v G' H', Gr W G H G' H' → Rw K W G' H' v d → Q v H'
/-- a new list or dict, that does not stand still yet -/
def OwnV (K : PySem.W.Frag) (G H : Hp) (p : Addr) : D → Prop
  | .list ds => ∃ vs, H p = some (.lst vs) ∧ Rps K G vs ds
  | .dict kvs => ∃ ks, H p = some (.dK ks) ∧ Rpk K G ks kvs
  | _ => False
def tN (K : PySem.W.Frag) (f : Env → Tree D) : TE := fun σ H Q => ∃ W G0 H0 G ρ, SR K W G0 H0 σ G H ρ ∧ (f ρ).All fun d => ∀ p G' H', Gr W G H G' H' → H p = none → G' p = none → OwnV K G' H' p d → Q (.ref p) H'
def tT (K : PySem.W.Frag) (f : Env → Tree Bool) : TT := fun σ H Q => ∃ W G0 H0 G ρ, SR K W G0 H0 σ G H ρ ∧ (f ρ).All fun b => ∀ G' H', Gr W G H G' H' → Q b H'
/-- operands in a row -/
inductive Rws (K : PySem.W.Frag) (W : Wo) (G H : Hp) : List V → List D → Prop
  | nil : Rws K W G H [] []
  | cons {v : V} {vs : List V} {d : D} {ds : List D} : Rw K W G H v d → Rws K W G H vs ds → Rws K W G H (v :: vs) (d :: ds)
theorem Rws.mono {K : PySem.W.Frag} {W : Wo} {G H G' H' : Hp} (g : Gr W G H G' H') : ∀ {vs : List V} {ds : List D}, Rws K W G H vs ds → Rws K W G' H' vs ds
  | _, _, .nil => .nil
  | _, _, .cons a b => .cons (a.mono g) (b.mono g)
/-- what a def is given -/
inductive Ra (K : PySem.W.Frag) (W : Wo) (G : Hp) : V → B → Prop
  | v {v : V} {d : D} : Rp K G v d → Ra K W G v (.v d)
  | box {p : Addr × Addr} : W = some p → Ra K W G (.ref p.1) .box
theorem Ra.mono {K : PySem.W.Frag} {W : Wo} {G G' : Hp} {v : V} {b : B} (g : Same G G') : Ra K W G v b → Ra K W G' v b
  | .v r => .v (r.mono g)
  | .box e => .box e
inductive Ras (K : PySem.W.Frag) (W : Wo) (G : Hp) : List V → List B → Prop
  | nil : Ras K W G [] []
  | cons {v : V} {vs : List V} {b : B} {bs : List B} : Ra K W G v b → Ras K W G vs bs → Ras K W G (v :: vs) (b :: bs)
theorem Ras.mono {K : PySem.W.Frag} {W : Wo} {G G' : Hp} (g : Same G G') : ∀ {vs : List V} {bs : List B}, Ras K W G vs bs → Ras K W G' vs bs
  | _, _, .nil => .nil
  | _, _, .cons a b => .cons (a.mono g) (b.mono g)
theorem Ras.length {K : PySem.W.Frag} {W : Wo} {G : Hp} : ∀ {vs : List V} {bs : List B}, Ras K W G vs bs → vs.length = bs.length
  | _, _, .nil => rfl
  | _, _, .cons _ b => congrArg (· + 1) b.length
def tWs (K : PySem.W.Frag) (f : Env → Tree (List D)) : TA := fun σ H Q => ∃ W G0 H0 G ρ, SR K W G0 H0 σ G H ρ ∧ (f ρ).All fun ds => ∀ vs G' H', Gr W G H G' H' → Rws K W G' H' vs ds → Q vs H'
def tVs (K : PySem.W.Frag) (f : Env → Tree (List D)) : TA := fun σ H Q => ∃ W G0 H0 G ρ, SR K W G0 H0 σ G H ρ ∧ (f ρ).All fun ds => ∀ vs G' H', Gr W G H G' H' → Rps K G' vs ds → Q vs H'
def tBs (K : PySem.W.Frag) (f : Env → Tree (List B)) : TA := fun σ H Q => ∃ W G0 H0 G ρ, SR K W G0 H0 σ G H ρ ∧ (f ρ).All fun bs => ∀ vs G' H', Gr W G H G' H' → Ras K W G' vs bs → Q vs H'
/-- what an iterator yields -/
def JD (K : PySem.W.Frag) (W : Wo) (J : It) (G' : Hp) (xs : List D) : Prop := ∀ G2 H2, Same G' G2 → Same G2 H2 → ∀ i, (xs.length ≤ i → J.stop i H2) ∧
  ∀ x, xs[i]? = some x → J.go i H2 ∧ ∀ v H3, J.yld i H2 v H3 → ∃ G3, Gr W G2 H2 G3 H3 ∧ Rp K G3 v x
def tI (K : PySem.W.Frag) (f : Env → Tree (List D)) : TI := fun σ H R => ∃ W G0 H0 G ρ, SR K W G0 H0 σ G H ρ ∧ (f ρ).All fun xs => ∀ J G' H', Gr W G H G' H' → JD K W J G' xs → R J H'
/-- a def's promise -/
def spT (K : PySem.W.Frag) (T : List B → Tree D) : Sp := fun vs H Q _ => ∃ W G bs, Same G H ∧ BoxOk W H ∧ (∀ b, BoxA W b → G b = none) ∧ Ras K W G vs bs ∧ (T bs).All fun d => ∀ v G' H', Gr W G H G' H' → Rp K G' v d → Q v H'
end Pd

namespace Pd
open PySem PySem.Spec L2

theorem lim_eq : lim = sizeLine := by rw [sizeLine_eq]; rfl
theorem all_guard {β : Type} {b : Bool} {f : Unit → Tree β} {Q : β → Prop} (h : (guard b >>= f).All Q) : b = true ∧ (f ()).All Q := by
  cases b with
  | true => exact ⟨rfl, h⟩
  | false => exact False.elim h
theorem all_bind' {α β : Type} {t : Tree α} {f : α → Tree β} {Q : β → Prop} (h : (t >>= f).All Q) : t.All fun a => (f a).All Q := (Tree.all_bind t f Q).mp h

/-- what a rule wants at its end: the answer d, standing still -/
abbrev Wn (K : PySem.W.Frag) (W : Wo) (G H : Hp) (Q : VK) (d : D) : Prop := ∀ v G' H', Gr W G H G' H' → Rp K G' v d → Q v H'
section
variable {K : PySem.W.Frag} {W : Wo} {G H : Hp} {Q : VK}
theorem Wn.flat {v : V} {d : D} (le : Same G H) (h : Wn K W G H Q d) (r : Rp K G v d) : Q v H := h v G H (Gr.refl le) r
/-- a new tuple -/
theorem Wn.tup {vs : List V} {ds : List D} (le : Same G H) (h : Wn K W G H Q (.tuple ds)) (r : Rps K G vs ds) : ∀ p, H p = none → Q (.ref p) (upd H p (.tup vs)) := fun p hp => by
  have g := Gr.new (W := W) (o := .tup vs) le hp
  exact h _ _ _ g (.tup (.inl (.inl upd_same)) (r.mono g.g))
/-- a new list -/
theorem Wn.lst {vs : List V} {ds : List D} (le : Same G H) (h : Wn K W G H Q (.list ds)) (r : Rps K G vs ds) : ∀ p, H p = none → Q (.ref p) (upd H p (.lst vs)) := fun p hp => by
  have g := Gr.new (W := W) (o := .lst vs) le hp
  exact h _ _ _ g (.lst upd_same (r.mono g.g))
end

/-- two values that stand still, looked at by g -/
def rV2 (K : PySem.W.Frag) (g : D → D → Tree D) : R2 := fun x y H Q => ∃ W G dx dy, Same G H ∧ Rp K G x dx ∧ Rp K G y dy ∧ (g dx dy).All (Wn K W G H Q)
def rW2 (K : PySem.W.Frag) (g : D → D → Tree D) : R2 := fun x y H Q => ∃ W G dx dy, Same G H ∧ Rw K W G H x dx ∧ Rw K W G H y dy ∧ (g dx dy).All (Wn K W G H Q)
section
variable {X : Cx}
theorem op_addD : OpR X (binaryOp .Add) (rV2 X.K (dBin .Add)) := by
  intro pins s σ H x y v u Q I rx ry h
  obtain ⟨W, G, dx, dy, le, hx, hy, h⟩ := h
  cases hx <;> cases hy <;> try exact False.elim h
  case int.int i j => exact op_add pins s σ H _ _ v u Q I rx ry ⟨i, j, rfl, rfl, Wn.flat le h (.int _)⟩
  case str.str a b =>
    obtain ⟨hb, h⟩ := all_guard h
    exact op_add_str pins s σ H _ _ v u Q I rx ry ⟨a, b, rfl, rfl, by rw [← lim_eq]; exact of_decide_eq_true hb, Wn.flat le h (.str _)⟩
  case lst.lst a xs ds ha ra b ys es hb rb =>
    obtain ⟨hz, h⟩ := all_guard h
    exact op_cat pins s σ H _ _ v u Q I rx ry ⟨a, b, xs, ys, rfl, rfl, le _ _ ha, le _ _ hb, by rw [← lim_eq, ra.length, rb.length]; exact of_decide_eq_true hz, Wn.lst le h (ra.append rb)⟩
  case tup.tup a xs ds ha ra b ys es hb rb =>
    obtain ⟨hz, h⟩ := all_guard h
    refine op_catA pins s σ H _ _ v u Q I rx ry ⟨a, b, xs, ys, rfl, rfl, Same.sqT le ha, Same.sqT le hb, by rw [← lim_eq, ra.length, rb.length]; exact of_decide_eq_true hz, fun e => ?_, fun _ e => ?_, fun _ _ => Wn.tup le h (ra.append rb)⟩
    · subst e; cases ra; exact Wn.flat le h (.tup hb rb)
    · subst e; cases rb
      have e2 : ds ++ [] = ds := List.append_nil ds
      rw [e2] at h
      exact Wn.flat le h (.tup ha ra)
theorem op_subD : OpR X (binaryOp .Sub) (rV2 X.K (dBin .Sub)) := by
  intro pins s σ H x y v u Q I rx ry h
  obtain ⟨W, G, dx, dy, le, hx, hy, h⟩ := h
  cases hx <;> cases hy <;> try exact False.elim h
  case int.int i j => exact op_sub pins s σ H _ _ v u Q I rx ry ⟨i, j, rfl, rfl, Wn.flat le h (.int _)⟩
theorem small_of {i : Int} (h : small i = true) : -(2 ^ 64) < i ∧ i < 2 ^ 64 := by
  unfold small at h
  rw [Bool.and_eq_true] at h
  exact ⟨of_decide_eq_true h.1, of_decide_eq_true h.2⟩
theorem op_fdivD : OpR X (binaryOp .FloorDiv) (rV2 X.K (dBin .FloorDiv)) := by
  intro pins s σ H x y v u Q I rx ry h
  obtain ⟨W, G, dx, dy, le, hx, hy, h⟩ := h
  cases hx <;> cases hy <;> try exact False.elim h
  case int.int i j =>
    obtain ⟨hb, h⟩ := all_guard h
    rw [Bool.and_eq_true] at hb
    exact op_fdiv pins s σ H _ _ v u Q I rx ry ⟨i, j, rfl, rfl, ⟨of_decide_eq_true hb.1, of_decide_eq_true hb.2⟩, Wn.flat le h (.int _)⟩
theorem op_modD : OpR X (binaryOp .Mod) (rV2 X.K (dBin .Mod)) := by
  intro pins s σ H x y v u Q I rx ry h
  obtain ⟨W, G, dx, dy, le, hx, hy, h⟩ := h
  cases hx <;> cases hy <;> try exact False.elim h
  case int.int i j =>
    obtain ⟨hb, h⟩ := all_guard h
    exact op_mod pins s σ H _ _ v u Q I rx ry ⟨i, j, rfl, rfl, of_decide_eq_true hb, Wn.flat le h (.int _)⟩

theorem Rw.dp {K : PySem.W.Frag} {W : Wo} {G H : Hp} {v : V} {d : D} (le : Same G H) (r : Rw K W G H v d) (h : d.canLay0 = true) : Dp K H v d := by
  cases r with
  | s r => exact (r.mono le).dp h
  | l e n r => exact (Rp.lst e (r.mono le)).dp h
  | d e n r => simp [PyData.canLay0] at h
/-- a comparison's answer as a value -/
def dCmpV (op : CmpOp) (x y : D) : Tree D := do let k ← dCmp op x y; .ret (.bool k)
theorem Rw.non {K : PySem.W.Frag} {W : Wo} {G H : Hp} {v : V} {d : D} (r : Rw K W G H v d) : decide (v = .non) = isNon d := by
  cases r with
  | s r => cases r <;> first | rfl | (rw [decide_eq_false]; rfl; intro z; cases z)
  | l _ _ _ => rw [decide_eq_false]; rfl; intro z; cases z
  | d _ _ _ => rw [decide_eq_false]; rfl; intro z; cases z
section
variable {X : Cx} {k : Nat}
theorem shaped_lay {d : D} (h : SeqAt.shaped d = true) : d.canLay0 = true := SeqAt.canLay_of_shaped h
theorem op_eqAll (hr : Room k X.A) : OpR X (compareOp .Eq) (rW2 X.K (dCmpV .Eq)) := by
  intro pins s σ H x y v u Q I rx ry h
  obtain ⟨W, G, dx, dy, le, hx, hy, h⟩ := h
  have hu : X.A.units + 64 < cLine := by have := hr.un; omega
  have h1 : (dEq dx dy).All fun b => Q (.bl b) H := ((Tree.all_bind (dEq dx dy) (fun b => Tree.ret (PyData.bool b)) _).mp h).mono fun b hb => Wn.flat le hb (.bl b)
  have deep : (∀ b, (SeqAt.shaped dx && SeqAt.shaped dy) = true → b = PyData.eqv dx dy → Q (.bl b) H) → (SeqAt.shaped dx && SeqAt.shaped dy) = true → wpAny (model X.prog X.w) X.A (compareOp .Eq v u) (EP X pins σ Q) X.xe s := fun q hb => by
    have hb' := hb
    rw [Bool.and_eq_true] at hb'
    exact op_eqD hu pins s σ H x y v u Q I rx ry ⟨dx, dy, hx.dp le (shaped_lay hb'.1), hy.dp le (shaped_lay hb'.2), hb'.1, hb'.2, q _ hb rfl⟩
  have gen : (do guard (SeqAt.shaped dx && SeqAt.shaped dy); Tree.ret (PyData.eqv dx dy) : Tree Bool).All (fun b => Q (.bl b) H) → wpAny (model X.prog X.w) X.A (compareOp .Eq v u) (EP X pins σ Q) X.xe s := fun g => by
    obtain ⟨hb, g⟩ := all_guard g
    exact deep (fun b _ e => by subst e; exact g) hb
  cases dx <;> cases dy <;> first
    | exact gen h1
    | skip
  · rename_i a b
    have ea : x = .str a := by cases hx with | s r => cases r; rfl
    have eb : y = .str b := by cases hy with | s r => cases r; rfl
    subst ea eb
    have e : decide (V.str a = V.str b) = decide (a = b) := decide_eq_decide.mpr ⟨fun z => by cases z; rfl, fun z => by rw [z]⟩
    exact op_eq pins s σ H _ _ v u Q I rx ry ⟨rfl, by rw [e]; exact h1⟩
theorem op_neAll (hr : Room k X.A) : OpR X (compareOp .NotEq) (rW2 X.K (dCmpV .NotEq)) := by
  intro pins s σ H x y v u Q I rx ry h
  obtain ⟨W, G, dx, dy, le, hx, hy, h⟩ := h
  have hu : X.A.units + 64 < cLine := by have := hr.un; omega
  have h0 : (dEq dx dy).All fun b => (Tree.ret (PyData.bool (!b))).All (Wn X.K W G H Q) := (Tree.all_bind (dEq dx dy) (fun b => Tree.ret (PyData.bool (!b))) _).mp (by
    have e : dCmpV .NotEq dx dy = (dEq dx dy >>= fun b => Tree.ret (PyData.bool (!b))) := Tree.bind_assoc' (dEq dx dy) _ _
    rw [← e]; exact h)
  have h1 : (dEq dx dy).All fun b => Q (.bl (!b)) H := h0.mono fun b hb => Wn.flat le hb (.bl (!b))
  have gen : (do guard (SeqAt.shaped dx && SeqAt.shaped dy); Tree.ret (PyData.eqv dx dy) : Tree Bool).All (fun b => Q (.bl (!b)) H) → wpAny (model X.prog X.w) X.A (compareOp .NotEq v u) (EP X pins σ Q) X.xe s := fun g => by
    obtain ⟨hb, g⟩ := all_guard g
    rw [Bool.and_eq_true] at hb
    exact op_neD hu pins s σ H x y v u Q I rx ry ⟨dx, dy, hx.dp le (shaped_lay hb.1), hy.dp le (shaped_lay hb.2), hb.1, hb.2, g⟩
  cases dx <;> cases dy <;> first
    | exact gen h1
    | skip
  · rename_i a b
    have ea : x = .str a := by cases hx with | s r => cases r; rfl
    have eb : y = .str b := by cases hy with | s r => cases r; rfl
    subst ea eb
    have e : decide (V.str a = V.str b) = decide (a = b) := decide_eq_decide.mpr ⟨fun z => by cases z; rfl, fun z => by rw [z]⟩
    exact op_ne pins s σ H _ _ v u Q I rx ry ⟨rfl, by rw [e]; exact h1⟩
/-- a weak operand that is a number or text stands still -/
theorem Rw.int {K : PySem.W.Frag} {W : Wo} {G H : Hp} {v : V} {i : Int} (r : Rw K W G H v (.int i)) : v = .int i := by cases r with | s r => cases r; rfl
theorem Rw.str {K : PySem.W.Frag} {W : Wo} {G H : Hp} {v : V} {x : Str} (r : Rw K W G H v (.str x)) : v = .str x := by cases r with | s r => cases r; rfl
theorem Rw.bl {K : PySem.W.Frag} {W : Wo} {G H : Hp} {v : V} {b : Bool} (r : Rw K W G H v (.bool b)) : v = .bl b := by cases r with | s r => cases r; rfl
theorem Rw.tup {K : PySem.W.Frag} {W : Wo} {G H : Hp} {v : V} {ds : List D} (r : Rw K W G H v (.tuple ds)) : ∃ a vs, v = .ref a ∧ SqT K G a vs ∧ Rps K G vs ds := by cases r with | s r => cases r with | tup a b => exact ⟨_, _, rfl, a, b⟩
theorem Rw.lst {K : PySem.W.Frag} {W : Wo} {G H : Hp} {v : V} {ds : List D} (le : Same G H) (r : Rw K W G H v (.list ds)) : ∃ a vs, v = .ref a ∧ H a = some (.lst vs) ∧ Rps K G vs ds := by
  cases r with
  | s r => cases r with | lst a b => exact ⟨_, _, rfl, le _ _ a, b⟩
  | l a n b => exact ⟨_, _, rfl, a, b⟩
theorem Rw.dic {K : PySem.W.Frag} {W : Wo} {G H : Hp} {v : V} {kvs : List (D × D)} (le : Same G H) (r : Rw K W G H v (.dict kvs)) : ∃ a ks, v = .ref a ∧ H a = some (.dK ks) ∧ Rpk K G ks kvs := by
  cases r with
  | s r => cases r with | dic a b => exact ⟨_, _, rfl, le _ _ a, b⟩
  | d a n b => exact ⟨_, _, rfl, a, b⟩
theorem cmpV_ret {op : CmpOp} {x y : D} {b : Bool} {K : PySem.W.Frag} {W : Wo} {G H : Hp} {Q : VK} (le : Same G H) (h : (dCmpV op x y).All (Wn K W G H Q)) (e : dCmp op x y = .ret b) : Q (.bl b) H := by
  unfold dCmpV at h
  rw [e] at h
  exact Wn.flat le h (.bl b)
theorem op_ltAll (hr : Room k X.A) : OpR X (compareOp .Lt) (rW2 X.K (dCmpV .Lt)) := by
  intro pins s σ H x y v u Q I rx ry h
  obtain ⟨W, G, dx, dy, le, hx, hy, h⟩ := h
  have hu : X.A.units + 64 < cLine := by have := hr.un; omega
  cases dx <;> cases dy <;> try exact False.elim h
  · obtain rfl := hx.int; obtain rfl := hy.int
    exact op_lt pins s σ H _ _ v u Q I rx ry ⟨_, _, rfl, rfl, cmpV_ret le h rfl⟩
  · obtain rfl := hx.str; obtain rfl := hy.str
    exact op_lt_str pins s σ H _ _ v u Q I rx ry ⟨_, _, rfl, rfl, cmpV_ret le h rfl⟩
  · rename_i xs ys
    have h : ((guard (PySem.W.alike (.tuple xs) (.tuple ys) && SeqAt.shaped (.tuple xs) && SeqAt.shaped (.tuple ys)) >>= fun _ => Tree.ret (PySem.W.dataLt (.tuple xs) (.tuple ys))) >>= fun k => Tree.ret (PyData.bool k)).All (Wn X.K W G H Q) := h
    rw [Tree.bind_assoc'] at h
    obtain ⟨hb, h⟩ := all_guard h
    rw [Bool.and_eq_true, Bool.and_eq_true] at hb
    obtain ⟨as, r1⟩ := Dp.reads I _ _ _ (hx.dp le (shaped_lay hb.1.2)) rx
    obtain ⟨bs, r2⟩ := Dp.reads I _ _ _ (hy.dp le (shaped_lay hb.2)) ry
    have hd := SeqAt.depth_of_shaped hb.1.2
    have hm : min (PyData.tuple xs).depth (PyData.tuple ys).depth ≤ (PyData.tuple xs).depth := Nat.min_le_left _ _
    exact PySem.W.rcLt_alike _ _ X.A s v u as bs r1 r2 hb.1.1 (by intro z; cases z) (by omega) X.prog X.w X.xe _ ⟨.bl _, H, I, rfl, Wn.flat le h (.bl _)⟩
theorem op_gtAll : OpR X (compareOp .Gt) (rW2 X.K (dCmpV .Gt)) := by
  intro pins s σ H x y v u Q I rx ry h
  obtain ⟨W, G, dx, dy, le, hx, hy, h⟩ := h
  cases dx <;> cases dy <;> try exact False.elim h
  · obtain rfl := hx.int; obtain rfl := hy.int
    exact op_gt pins s σ H _ _ v u Q I rx ry ⟨_, _, rfl, rfl, cmpV_ret le h rfl⟩
  · obtain rfl := hx.str; obtain rfl := hy.str
    exact op_gt_str pins s σ H _ _ v u Q I rx ry ⟨_, _, rfl, rfl, cmpV_ret le h rfl⟩
theorem op_leAll : OpR X (compareOp .LtE) (rW2 X.K (dCmpV .LtE)) := by
  intro pins s σ H x y v u Q I rx ry h
  obtain ⟨W, G, dx, dy, le, hx, hy, h⟩ := h
  cases dx <;> cases dy <;> try exact False.elim h
  · obtain rfl := hx.int; obtain rfl := hy.int
    exact op_le pins s σ H _ _ v u Q I rx ry ⟨_, _, rfl, rfl, cmpV_ret le h rfl⟩
  · obtain rfl := hx.str; obtain rfl := hy.str
    exact op_le_str pins s σ H _ _ v u Q I rx ry ⟨_, _, rfl, rfl, cmpV_ret le h rfl⟩
theorem op_geAll : OpR X (compareOp .GtE) (rW2 X.K (dCmpV .GtE)) := by
  intro pins s σ H x y v u Q I rx ry h
  obtain ⟨W, G, dx, dy, le, hx, hy, h⟩ := h
  cases dx <;> cases dy <;> try exact False.elim h
  · obtain rfl := hx.int; obtain rfl := hy.int
    exact op_ge pins s σ H _ _ v u Q I rx ry ⟨_, _, rfl, rfl, cmpV_ret le h rfl⟩
  · obtain rfl := hx.str; obtain rfl := hy.str
    exact op_ge_str pins s σ H _ _ v u Q I rx ry ⟨_, _, rfl, rfl, cmpV_ret le h rfl⟩
theorem op_isAll : OpR X (compareOp .Is) (rW2 X.K (dCmpV .Is)) := by
  intro pins s σ H x y v u Q I rx ry h
  obtain ⟨W, G, dx, dy, le, hx, hy, h⟩ := h
  cases dy with
  | none =>
    have e : dCmp .Is dx .none = .ret (isNon dx) := by cases dx <;> rfl
    have ey : y = .non := by cases hy with | s r => cases r; rfl
    exact op_isN pins s σ H _ _ v u Q I rx ry ⟨ey, by rw [hx.non]; exact cmpV_ret le h e⟩
  | bool b =>
    cases dx <;> try exact False.elim h
    obtain rfl := hx.bl; obtain rfl := hy.bl
    exact op_isBl pins s σ H _ _ v u Q I rx ry ⟨_, _, rfl, rfl, cmpV_ret le h rfl⟩
  | _ => cases dx <;> exact False.elim h
theorem op_isNotAll : OpR X (compareOp .IsNot) (rW2 X.K (dCmpV .IsNot)) := by
  intro pins s σ H x y v u Q I rx ry h
  obtain ⟨W, G, dx, dy, le, hx, hy, h⟩ := h
  cases dy with
  | none =>
    have e : dCmp .IsNot dx .none = .ret (!isNon dx) := by cases dx <;> rfl
    have ey : y = .non := by cases hy with | s r => cases r; rfl
    exact op_notN pins s σ H _ _ v u Q I rx ry ⟨ey, by rw [hx.non]; exact cmpV_ret le h e⟩
  | bool b =>
    cases dx <;> try exact False.elim h
    obtain rfl := hx.bl; obtain rfl := hy.bl
    exact op_notBl pins s σ H _ _ v u Q I rx ry ⟨_, _, rfl, rfl, cmpV_ret le h rfl⟩
  | _ => cases dx <;> exact False.elim h
section
variable {K : PySem.W.Frag}
theorem kV_kD {G : Hp} {v : V} {d : D} (r : Rp K G v d) (h : isKey d = true) : ∃ kk : Key, v = kV kk ∧ d = kD kk := by
  cases r <;> first
    | exact ⟨.inl _, rfl, rfl⟩
    | exact ⟨.inr _, rfl, rfl⟩
    | (exact absurd h (by decide))
    | (exact absurd h (by simp [isKey, isKey0]))
theorem keyEq_kD (a b : Key) : keyEq (kD a) (kD b) = decide (a = b) := by
  cases a <;> cases b
  · exact decide_eq_decide.mpr ⟨fun e => by rw [e], fun e => by cases e; rfl⟩
  · exact (decide_eq_false (fun e => by cases e)).symm
  · exact (decide_eq_false (fun e => by cases e)).symm
  · exact decide_eq_decide.mpr ⟨fun e => by rw [e], fun e => by cases e; rfl⟩
theorem look_rel {G : Hp} {kk : Key} : ∀ {ks : List (Key × V)} {kvs : List (D × D)}, Rpk K G ks kvs → (valV ks kk = none ∧ lookD (kD kk) kvs = none) ∨ ∃ v d, valV ks kk = some v ∧ lookD (kD kk) kvs = some d ∧ Rp K G v d
  | _, _, .nil => .inl ⟨rfl, rfl⟩
  | _, _, .cons (k := k) (v := v) (ks := ks) (d := d) (kvs := kvs) a b => by
    by_cases e : k = kk
    · refine .inr ⟨v, d, valV_pos e, ?_, a⟩
      show (if keyEq (kD k) (kD kk) = true then some d else _) = _
      rw [keyEq_kD, if_pos (decide_eq_true e)]
    · have h2 : lookD (kD kk) ((kD k, d) :: kvs) = lookD (kD kk) kvs := by
        show (if keyEq (kD k) (kD kk) = true then some d else _) = _
        rw [keyEq_kD, if_neg (by rw [decide_eq_false e]; simp)]
      rw [valV_neg (p := (k, v)) e, h2]
      exact look_rel b
theorem look_isSome {G : Hp} {kk : Key} {ks : List (Key × V)} {kvs : List (D × D)} (r : Rpk K G ks kvs) : (valV ks kk).isSome = (lookD (kD kk) kvs).isSome := by
  rcases look_rel (kk := kk) r with ⟨a, b⟩ | ⟨v, d, a, b, _⟩ <;> rw [a, b] <;> rfl
theorem any_rel {G : Hp} {kk : Key} : ∀ {ks : List (Key × V)} {kvs : List (D × D)}, Rpk K G ks kvs → (ks.any fun p => decide (p.1 = kk)) = kvs.any fun p => keyEq p.1 (kD kk)
  | _, _, .nil => rfl
  | _, _, .cons (k := k) a b => by
    rw [List.any_cons, List.any_cons, any_rel b]
    show (decide (k = kk) || _) = (keyEq (kD k) (kD kk) || _)
    rw [keyEq_kD]
theorem map_rel {G : Hp} {kk : Key} {v : V} {d : D} (r : Rp K G v d) : ∀ {ks : List (Key × V)} {kvs : List (D × D)}, Rpk K G ks kvs →
    Rpk K G (ks.map fun p => if p.1 = kk then (p.1, v) else p) (kvs.map fun p => if keyEq p.1 (kD kk) = true then (p.1, d) else p)
  | _, _, .nil => .nil
  | _, _, .cons (k := k) a b => by
    rw [List.map_cons, List.map_cons]
    show Rpk K G ((if k = kk then (k, v) else (k, _)) :: _) ((if keyEq (kD k) (kD kk) = true then (kD k, d) else (kD k, _)) :: _)
    rw [keyEq_kD]
    by_cases e : k = kk
    · rw [if_pos e, if_pos (decide_eq_true e)]; exact .cons r (map_rel r b)
    · rw [if_neg e, if_neg (by rw [decide_eq_false e]; simp)]; exact .cons a (map_rel r b)
theorem Rpk.app {G : Hp} : ∀ {ks : List (Key × V)} {kvs : List (D × D)} {ks' : List (Key × V)} {kvs' : List (D × D)}, Rpk K G ks kvs → Rpk K G ks' kvs' → Rpk K G (ks ++ ks') (kvs ++ kvs')
  | _, _, _, _, .nil, h => h
  | _, _, _, _, .cons a b, h => .cons a (b.app h)
theorem put_rel {G : Hp} {kk : Key} {v : V} {d : D} (r : Rp K G v d) {ks : List (Key × V)} {kvs : List (D × D)} (q : Rpk K G ks kvs) : Rpk K G (putK ks kk v) (putD (kD kk) d kvs) := by
  unfold putK putD
  rw [any_rel q]
  by_cases e : (kvs.any fun p => keyEq p.1 (kD kk)) = true
  · rw [if_pos e, if_pos e]; exact map_rel r q
  · rw [if_neg e, if_neg e]; exact q.app (.cons r .nil)
theorem merge_rel {G : Hp} : ∀ {ks' : List (Key × V)} {more : List (D × D)} {ks : List (Key × V)} {kvs : List (D × D)}, Rpk K G ks' more → Rpk K G ks kvs → Rpk K G (mergeK ks ks') (putAll kvs more)
  | _, _, _, _, .nil, q => q
  | (k, v) :: ks', (_, d) :: more, ks, kvs, .cons a b, q => merge_rel (ks' := ks') (more := more) b (put_rel a q)

end
theorem cmpNot {x y : D} {K : PySem.W.Frag} {W : Wo} {G H : Hp} {Q : VK} (h : (dCmpV .NotIn x y).All (Wn K W G H Q)) : (dIn x y).All fun b => Wn K W G H Q (.bool (!b)) := by
  have e : dCmpV .NotIn x y = (dIn x y >>= fun b => Tree.ret (PyData.bool (!b))) := Tree.bind_assoc' (dIn x y) _ _
  rw [e] at h
  exact (Tree.all_bind _ _ _).mp h
theorem cmpIn {x y : D} {K : PySem.W.Frag} {W : Wo} {G H : Hp} {Q : VK} (h : (dCmpV .In x y).All (Wn K W G H Q)) : (dIn x y).All fun b => Wn K W G H Q (.bool b) := (Tree.all_bind _ _ _).mp h
theorem op_inAll (hr : Room k X.A) : OpR X (compareOp .In) (rW2 X.K (dCmpV .In)) := by
  intro pins s σ H x y v u Q I rx ry h
  obtain ⟨W, G, dx, dy, le, hx, hy, h⟩ := h
  have h := cmpIn h
  have hu : X.A.units + 65 < cLine := by have := hr.un; omega
  cases dy with
  | str b =>
    cases dx <;> try exact False.elim h
    obtain rfl := hx.str; obtain rfl := hy.str
    exact op_in_str pins s σ H _ _ v u Q I rx ry ⟨_, _, rfl, rfl, Wn.flat le h (.bl _)⟩
  | dict kvs =>
    have h' : (guard (isKey dx) >>= fun _ => Tree.ret (lookD dx kvs).isSome).All fun b => Wn X.K W G H Q (.bool b) := by cases dx <;> exact h
    obtain ⟨hk, h'⟩ := all_guard h'
    have hx' : Rp X.K G x dx := by
      cases hx with
      | s r => exact r
      | l _ _ _ => simp [isKey, isKey0] at hk
      | d _ _ _ => simp [isKey, isKey0] at hk
    obtain ⟨kk, rfl, rfl⟩ := kV_kD hx' hk
    obtain ⟨a, ks, rfl, ha, rk⟩ := hy.dic le
    cases ry
    refine d_in (by omega) I (.k ha) rx fun s' I' => ⟨.bl _, H, I', rfl, ?_⟩
    rw [look_isSome rk]
    exact Wn.flat le h' (.bl _)
  | list xs =>
    have h' : (guard (SeqAt.shaped dx && SeqAt.shaped (.list xs)) >>= fun _ => Tree.ret (xs.any fun z => PyData.eqv z dx)).All fun b => Wn X.K W G H Q (.bool b) := by cases dx <;> exact h
    obtain ⟨hb, h'⟩ := all_guard h'
    rw [Bool.and_eq_true] at hb
    exact op_inD hu pins s σ H x y v u Q I rx ry ⟨dx, xs, hx.dp le (shaped_lay hb.1), hy.dp le (shaped_lay hb.2), hb.1, hb.2, Wn.flat le h' (.bl _)⟩
  | tuple xs =>
    have h' : (guard (SeqAt.shaped dx && SeqAt.shaped (.tuple xs)) >>= fun _ => Tree.ret (xs.any fun z => PyData.eqv z dx)).All fun b => Wn X.K W G H Q (.bool b) := by cases dx <;> exact h
    obtain ⟨hb, h'⟩ := all_guard h'
    rw [Bool.and_eq_true] at hb
    obtain ⟨as, r1⟩ := Dp.reads I _ _ _ (hx.dp le (shaped_lay hb.1)) rx
    obtain ⟨bs, r2⟩ := Dp.reads I _ _ _ (hy.dp le (shaped_lay hb.2)) ry
    have hd := SeqAt.depth_of_shaped hb.1
    have hm : min (PyData.depthAll xs) dx.depth ≤ dx.depth := Nat.min_le_right _ _
    exact SeqAt.in_tuple_reads r2 r1 (by simpa [PyData.canLay0] using shaped_lay hb.2) (shaped_lay hb.1) (by omega) ⟨.bl _, H, I, rfl, Wn.flat le h' (.bl _)⟩
  | _ => cases dx <;> exact False.elim h
theorem op_notInAll (hr : Room k X.A) : OpR X (compareOp .NotIn) (rW2 X.K (dCmpV .NotIn)) := by
  intro pins s σ H x y v u Q I rx ry h
  obtain ⟨W, G, dx, dy, le, hx, hy, h⟩ := h
  have h := cmpNot h
  have hu : X.A.units + 65 < cLine := by have := hr.un; omega
  cases dy with
  | str b =>
    cases dx <;> try exact False.elim h
    obtain rfl := hx.str; obtain rfl := hy.str
    exact op_notin_str pins s σ H _ _ v u Q I rx ry ⟨_, _, rfl, rfl, Wn.flat le h (.bl _)⟩
  | dict kvs =>
    have h' : (guard (isKey dx) >>= fun _ => Tree.ret (lookD dx kvs).isSome).All fun b => Wn X.K W G H Q (.bool (!b)) := by cases dx <;> exact h
    obtain ⟨hk, h'⟩ := all_guard h'
    have hx' : Rp X.K G x dx := by
      cases hx with
      | s r => exact r
      | l _ _ _ => simp [isKey, isKey0] at hk
      | d _ _ _ => simp [isKey, isKey0] at hk
    obtain ⟨kk, rfl, rfl⟩ := kV_kD hx' hk
    obtain ⟨a, ks, rfl, ha, rk⟩ := hy.dic le
    cases ry
    refine d_notIn (by omega) I (.k ha) rx fun s' I' => ⟨.bl _, H, I', rfl, ?_⟩
    rw [look_isSome rk]
    exact Wn.flat le h' (.bl _)
  | list xs =>
    have h' : (guard (SeqAt.shaped dx && SeqAt.shaped (.list xs)) >>= fun _ => Tree.ret (xs.any fun z => PyData.eqv z dx)).All fun b => Wn X.K W G H Q (.bool (!b)) := by cases dx <;> exact h
    obtain ⟨hb, h'⟩ := all_guard h'
    rw [Bool.and_eq_true] at hb
    exact op_notInD hu pins s σ H x y v u Q I rx ry ⟨dx, xs, hx.dp le (shaped_lay hb.1), hy.dp le (shaped_lay hb.2), hb.1, hb.2, Wn.flat le h' (.bl _)⟩
  | tuple xs =>
    have h' : (guard (SeqAt.shaped dx && SeqAt.shaped (.tuple xs)) >>= fun _ => Tree.ret (xs.any fun z => PyData.eqv z dx)).All fun b => Wn X.K W G H Q (.bool (!b)) := by cases dx <;> exact h
    obtain ⟨hb, h'⟩ := all_guard h'
    rw [Bool.and_eq_true] at hb
    obtain ⟨as, r1⟩ := Dp.reads I _ _ _ (hx.dp le (shaped_lay hb.1)) rx
    obtain ⟨bs, r2⟩ := Dp.reads I _ _ _ (hy.dp le (shaped_lay hb.2)) ry
    have hd := SeqAt.depth_of_shaped hb.1
    have hm : min (PyData.depthAll xs) dx.depth ≤ dx.depth := Nat.min_le_right _ _
    exact SeqAt.notIn_tuple_reads r2 r1 (by simpa [PyData.canLay0] using shaped_lay hb.2) (shaped_lay hb.1) (by omega) ⟨.bl _, H, I, rfl, Wn.flat le h' (.bl _)⟩
  | _ => cases dx <;> exact False.elim h
/-- every comparison -/
theorem op_cmpAll (hr : Room k X.A) : ∀ op : CmpOp, OpR X (compareOp op) (rW2 X.K (dCmpV op))
  | .Eq => op_eqAll hr | .NotEq => op_neAll hr | .Lt => op_ltAll hr | .LtE => op_leAll | .Gt => op_gtAll | .GtE => op_geAll
  | .Is => op_isAll | .IsNot => op_isNotAll | .In => op_inAll hr | .NotIn => op_notInAll hr
theorem foldl_rep_str (c : Array Nat) : ∀ (n : Nat) (acc : Array Nat), (List.replicate n c).foldl (· ++ ·) acc = acc ++ (repL n c.toList).toArray
  | 0, acc => by simp [repL]
  | n + 1, acc => by
    rw [List.replicate_succ, List.foldl_cons, foldl_rep_str c n]
    have e : (repL (n + 1) c.toList) = c.toList ++ repL n c.toList := by simp [repL, List.replicate_succ]
    rw [e, Array.append_assoc]
    congr 1
    apply Array.toList_inj.mp
    simp
theorem len_repL {α : Type} (n : Nat) (xs : List α) : (repL n xs).length = n * xs.length := by
  induction n with
  | zero => simp [repL]
  | succ n ih =>
    have : repL (n + 1) xs = xs ++ repL n xs := by simp [repL, List.replicate_succ]
    rw [this, List.length_append, ih, Nat.succ_mul, Nat.add_comm]
theorem repL_one {α : Type} (xs : List α) : repL 1 xs = xs := by simp [repL]
theorem repL_nil {α : Type} (n : Nat) : repL n ([] : List α) = [] := by
  have := len_repL n ([] : List α)
  exact List.eq_nil_of_length_eq_zero (by simpa using this)
theorem op_mulD : OpR X (binaryOp .Mult) (rV2 X.K (dBin .Mult)) := by
  intro pins s σ H x y v u Q I rx ry h
  obtain ⟨W, G, dx, dy, le, hx, hy, h⟩ := h
  cases hx <;> cases hy <;> try exact False.elim h
  case int.int i j =>
    obtain ⟨hb, h⟩ := all_guard h
    refine op_mul pins s σ H _ _ v u Q I rx ry ⟨i, j, rfl, rfl, ?_, Wn.flat le h (.int _)⟩
    rw [Bool.or_eq_true] at hb
    exact hb.imp small_of small_of
  case str.int x j =>
    obtain ⟨hb, h⟩ := all_guard h
    rw [Bool.and_eq_true, Bool.and_eq_true] at hb
    have h1 := of_decide_eq_true hb.1.1
    have h2 := of_decide_eq_true hb.1.2
    have h3 := of_decide_eq_true hb.2
    obtain ⟨t, rfl⟩ := rx
    obtain ⟨t', rfl⟩ := ry
    have q := Wn.flat le h (.str _)
    have hl : lim = 16777216 := rfl
    refine PySem.P.mul_str (by rw [decide_eq_false (by omega), decide_eq_false (by omega)]; rfl) (fun n1 _ z => ?_) (fun _ _ => ?_) ?_
    · have hj : 0 < j := by omega
      have e : (j.toNat : Int) = j := by omega
      have h4 : (x.length : Int) * j ≤ 2 ^ 63 - 1 := by
        rw [← e, ← Int.natCast_mul]
        omega
      have h5 := (Int.le_ediv_iff_mul_le hj).mpr h4
      omega
    · unfold Builtin.Str.tooLong
      rw [← lim_eq]
      exact decide_eq_false (by omega)
    · by_cases n1 : j < 1
      · rw [if_pos n1]
        have e : j.toNat = 0 := by omega
        rw [e] at q
        exact ⟨by decide, ⟨.str _, H, I.tok _, ⟨_, rfl⟩, q⟩⟩
      · rw [if_neg n1]
        by_cases c : (j == 1 || x.length == 0) = true
        · rw [if_pos c]
          refine ⟨.str x, H, I, ⟨_, rfl⟩, ?_⟩
          have e : (⟨(repL j.toNat x.cps.toList).toArray⟩ : Str) = x := by
            rw [Bool.or_eq_true] at c
            rcases c with c | c
            · have : j.toNat = 1 := by have := eq_of_beq c; omega
              rw [this, repL_one]
            · have : x.cps.toList = [] := List.eq_nil_of_length_eq_zero (by have := eq_of_beq c; simpa [Str.length] using this)
              rw [this, repL_nil]
              cases x
              simp at this
              simp [this]
          rw [e] at q
          exact q
        · rw [if_neg c]
          rw [foldl_rep_str]
          refine ⟨?_, ⟨.str _, H, I.tok _, ⟨_, rfl⟩, ?_⟩⟩
          · show (#[] ++ (repL j.toNat x.cps.toList).toArray).size ≤ sizeLine
            have : x.cps.toList.length = x.length := by simp [Str.length]
            rw [Array.empty_append, List.size_toArray, len_repL, this, ← lim_eq, Nat.mul_comm]
            exact h3
          · simpa using q
theorem op_noBin {op : Operator} (h : ∀ x y, dBin op x y = .err) : OpR X (binaryOp op) (rV2 X.K (dBin op)) := by
  intro pins s σ H x y v u Q I rx ry q
  obtain ⟨W, G, dx, dy, le, hx, hy, q⟩ := q
  rw [h] at q
  exact False.elim q
/-- every operator -/
theorem op_binAll : ∀ op : Operator, OpR X (binaryOp op) (rV2 X.K (dBin op))
  | .Add => op_addD | .Sub => op_subD | .FloorDiv => op_fdivD | .Mod => op_modD | .Mult => op_mulD
  | .MatMult => op_noBin fun x y => by cases x <;> rfl
  | .Div => op_noBin fun x y => by cases x <;> rfl
  | .Pow => op_noBin fun x y => by cases x <;> rfl
  | .LShift => op_noBin fun x y => by cases x <;> rfl
  | .RShift => op_noBin fun x y => by cases x <;> rfl
  | .BitOr => op_noBin fun x y => by cases x <;> rfl
  | .BitXor => op_noBin fun x y => by cases x <;> rfl
  | .BitAnd => op_noBin fun x y => by cases x <;> rfl
theorem atI_rel {K : PySem.W.Frag} {G : Hp} {vs : List V} {ds : List D} (r : Rps K G vs ds) {i : Int} {d : D} (h : atI ds i = some d) : ∃ v, atI vs i = some v ∧ Rp K G v d := by
  unfold atI at h ⊢
  rw [r.length]
  cases e : ixN ds.length i with
  | none => rw [e] at h; cases h
  | some j =>
    rw [e] at h
    exact r.get h
theorem ix_all (hr : Room k X.A) : IxR X (rW2 X.K dIdx) := by
  intro value slice pins s σ H x y v u Q I rx ry h hs
  obtain ⟨W, G, dx, dy, le, hx, hy, h⟩ := h
  cases dx with
  | list xs =>
    cases dy <;> try exact False.elim h
    rename_i i
    obtain rfl := hy.int
    obtain ⟨a, vs, rfl, ha, rs⟩ := hx.lst le
    have h : (match atI xs i with | some d => Tree.ret d | none => Tree.err : Tree D).All (Wn X.K W G H Q) := h
    cases e : atI xs i with
    | none => rw [e] at h; exact False.elim h
    | some d =>
      rw [e] at h
      obtain ⟨w, hw, rw'⟩ := atI_rel rs e
      exact ix_list value slice pins s σ H _ _ v u Q I rx ry ⟨a, vs, i, w, rfl, rfl, SqL.of ha, hw, Wn.flat le h rw'⟩ hs
  | tuple xs =>
    cases dy <;> try exact False.elim h
    rename_i i
    obtain rfl := hy.int
    obtain ⟨a, vs, rfl, ha, rs⟩ := hx.tup
    have h : (match atI xs i with | some d => Tree.ret d | none => Tree.err : Tree D).All (Wn X.K W G H Q) := h
    cases e : atI xs i with
    | none => rw [e] at h; exact False.elim h
    | some d =>
      rw [e] at h
      obtain ⟨w, hw, rw'⟩ := atI_rel rs e
      exact ix_tup value slice pins s σ H _ _ v u Q I rx ry ⟨a, vs, i, w, rfl, rfl, Same.sqT le ha, hw, Wn.flat le h rw'⟩ hs
  | str z =>
    cases dy <;> try exact False.elim h
    rename_i i
    obtain rfl := hy.int
    obtain rfl := hx.str
    have h : (guard (decide (z.length ≤ lim)) >>= fun _ => (match atI z.cps.toList i with | some c => Tree.ret (.str ⟨#[c]⟩) | none => Tree.err : Tree D)).All (Wn X.K W G H Q) := h
    obtain ⟨hb, h⟩ := all_guard h
    cases e : atI z.cps.toList i with
    | none => rw [e] at h; exact False.elim h
    | some c =>
      rw [e] at h
      exact ix_str value slice pins s σ H _ _ v u Q I rx ry ⟨z, i, c, rfl, rfl, by rw [← lim_eq]; exact of_decide_eq_true hb, e, Wn.flat le h (.str _)⟩ hs
  | dict kvs =>
    have h' : (guard (isKey dy) >>= fun _ => (match lookD dy kvs with | some w => Tree.ret w | none => Tree.err : Tree D)).All (Wn X.K W G H Q) := by cases dy <;> exact h
    obtain ⟨hk, h'⟩ := all_guard h'
    have hy' : Rp X.K G y dy := by
      cases hy with
      | s r => exact r
      | l _ _ _ => simp [isKey, isKey0] at hk
      | d _ _ _ => simp [isKey, isKey0] at hk
    obtain ⟨kk, rfl, rfl⟩ := kV_kD hy' hk
    obtain ⟨a, ks, rfl, ha, rk⟩ := hx.dic le
    rcases look_rel (kk := kk) rk with ⟨_, e2⟩ | ⟨w, d, e1, e2, rw'⟩
    · rw [e2] at h'; exact False.elim h'
    · rw [e2] at h'
      cases rx
      have g : DGet H a (kV kk) (some w) := by rw [← e1]; exact .k ha
      have hu : X.A.units + 1 < cLine := by have := hr.un; omega
      exact PyProof.Rows.tail_any (dict_typeIs I g) PySem.F.slot_dict_getitem.lookup (d_getItem hu I g ry fun w' s' I' r' => ⟨w, H, I', r', Wn.flat le h' rw'⟩) hs
  | _ => cases dy <;> exact False.elim h
/-- x[lo:hi] by values -/
def rSlD (K : PySem.W.Frag) : V → Option Int → Option Int → Hp → VK → Prop := fun x lo hi H Q => ∃ W G dx, Same G H ∧ Rw K W G H x dx ∧ (dSlc dx lo hi).All (Wn K W G H Q)
theorem cut_whole {α : Type} (xs : List α) (lo hi : Option Int) (h : HT.sIx xs.length 0 lo = 0 ∧ HT.sIx xs.length xs.length hi = xs.length) : Pd.cut xs lo hi = xs := by
  unfold Pd.cut
  rw [h.1, h.2]
  simp
theorem sl_all : SlR X (rSlD X.K) := by
  intro pins s σ H x v vl vu lo hi sl Q I rx hs pl pu h
  obtain ⟨W, G, dx, le, hx, h⟩ := h
  cases dx with
  | str z =>
    obtain rfl := hx.str
    have h : (guard (decide (z.length ≤ lim)) >>= fun _ => (Tree.ret (.str ⟨(Pd.cut z.cps.toList lo hi).toArray⟩) : Tree D)).All (Wn X.K W G H Q) := h
    obtain ⟨hb, h⟩ := all_guard h
    have e : cutS z lo hi = ⟨(Pd.cut z.cps.toList lo hi).toArray⟩ := by
      unfold cutS Pd.cut
      rw [show z.cps.toList.length = z.length by simp [Str.length]]
    exact sl_str pins s σ H _ v vl vu lo hi sl Q I rx hs pl pu ⟨z, rfl, by rw [← lim_eq]; exact of_decide_eq_true hb, by rw [e]; exact Wn.flat le h (.str _)⟩
  | tuple xs =>
    obtain ⟨a, vs, rfl, ha, rs⟩ := hx.tup
    refine sl_tupA pins s σ H _ v vl vu lo hi sl Q I rx hs pl pu ⟨a, vs, rfl, Same.sqT le ha, fun e => ?_, fun _ => Wn.tup le h (rs.cut lo hi)⟩
    rw [rs.length] at e
    have h : Wn X.K W G H Q (.tuple (Pd.cut xs lo hi)) := h
    rw [cut_whole xs lo hi e] at h
    exact Wn.flat le h (.tup ha rs)
  | list xs =>
    obtain ⟨a, vs, rfl, ha, rs⟩ := hx.lst le
    exact sl_list pins s σ H _ v vl vu lo hi sl Q I rx hs pl pu ⟨a, vs, rfl, SqL.of ha, Wn.lst le h (rs.cut lo hi)⟩
  | _ => exact False.elim h
end
end
end Pd

namespace Pd
open PySem PySem.Spec L2

/-- a call's answer by its operand, operands -/
def rW1 (K : PySem.W.Frag) (g : D → Tree D) : List V → Hp → VK → Prop := fun xs H Q => ∃ W G d x, xs = [x] ∧ Same G H ∧ Rw K W G H x d ∧ (g d).All (Wn K W G H Q)
def rW22 (K : PySem.W.Frag) (g : D → D → Tree D) : List V → Hp → VK → Prop := fun xs H Q => ∃ W G d e x y, xs = [x, y] ∧ Same G H ∧ Rw K W G H x d ∧ Rw K W G H y e ∧ (g d e).All (Wn K W G H Q)
def rWs (K : PySem.W.Frag) (g : List D → Tree D) : List V → Hp → VK → Prop := fun xs H Q => ∃ W G ds, Same G H ∧ Rws K W G H xs ds ∧ (g ds).All (Wn K W G H Q)
section
variable {X : Cx} {k : Nat} {K : PySem.W.Frag} {W : Wo} {G H : Hp}
theorem Rws.one {xs : List V} {d : D} (r : Rws K W G H xs [d]) : ∃ x, xs = [x] ∧ Rw K W G H x d := by
  cases r with | cons a b => cases b; exact ⟨_, rfl, a⟩
theorem Rws.two {xs : List V} {d e : D} (r : Rws K W G H xs [d, e]) : ∃ x y, xs = [x, y] ∧ Rw K W G H x d ∧ Rw K W G H y e := by
  cases r with | cons a b => cases b with | cons b c => cases c; exact ⟨_, _, rfl, a, b⟩
theorem len_all : CallR X (.builtin "len") (rW1 X.K dLen) := by
  intro pins s σ H xs us Q I r h
  obtain ⟨W, G, d, x, rfl, le, rx, h⟩ := h
  cases d with
  | str z =>
    obtain rfl := rx.str
    obtain ⟨hb, h⟩ := all_guard h
    exact call_len pins s σ H _ us Q I r ⟨_, z.length, rfl, ⟨by rw [← lim_eq]; exact of_decide_eq_true hb, rfl⟩, Wn.flat le h (.int _)⟩
  | list ys =>
    obtain ⟨a, vs, rfl, ha, q⟩ := rx.lst le
    exact call_len pins s σ H _ us Q I r ⟨_, ys.length, rfl, .inl ⟨vs, SqL.of ha, q.length.symm⟩, Wn.flat le h (.int _)⟩
  | tuple ys =>
    obtain ⟨a, vs, rfl, ha, q⟩ := rx.tup
    exact call_len pins s σ H _ us Q I r ⟨_, ys.length, rfl, .inr ⟨vs, Same.sqT le ha, q.length.symm⟩, Wn.flat le h (.int _)⟩
  | dict kvs =>
    obtain ⟨a, ks, rfl, ha, q⟩ := rx.dic le
    exact call_lenD pins s σ H _ us Q I r ⟨a, ks, rfl, ha, by rw [q.length]; exact Wn.flat le h (.int _)⟩
  | _ => exact False.elim h
theorem tuple_all : CallR X (.type "tuple") (rW1 X.K dTuple) := by
  intro pins s σ H xs us Q I r h
  obtain ⟨W, G, d, x, rfl, le, rx, h⟩ := h
  cases d with
  | list ys =>
    obtain ⟨a, vs, rfl, ha, q⟩ := rx.lst le
    exact call_tuple_of pins s σ H _ us Q I r ⟨a, vs, rfl, .inl ⟨SqL.of ha, Wn.tup le h q⟩⟩
  | tuple ys =>
    obtain ⟨a, vs, rfl, ha, q⟩ := rx.tup
    exact call_tuple_of pins s σ H _ us Q I r ⟨a, vs, rfl, .inr ⟨Same.sqT le ha, Wn.flat le h (.tup ha q)⟩⟩
  | _ => exact False.elim h
theorem list_all : CallR X (.type "list") (rW1 X.K dList) := by
  intro pins s σ H xs us Q I r h
  obtain ⟨W, G, d, x, rfl, le, rx, h⟩ := h
  cases d with
  | list ys =>
    obtain ⟨a, vs, rfl, ha, q⟩ := rx.lst le
    exact call_list_of pins s σ H _ us Q I r ⟨a, vs, rfl, .inl (SqL.of ha), Wn.lst le h q⟩
  | tuple ys =>
    obtain ⟨a, vs, rfl, ha, q⟩ := rx.tup
    exact call_list_of pins s σ H _ us Q I r ⟨a, vs, rfl, .inr (Same.sqT le ha), Wn.lst le h q⟩
  | _ => exact False.elim h
theorem abs_all : CallR X (.builtin "abs") (rW1 X.K dAbs) := by
  intro pins s σ H xs us Q I r h
  obtain ⟨W, G, d, x, rfl, le, rx, h⟩ := h
  cases d with
  | int i => obtain rfl := rx.int; exact call_abs pins s σ H _ us Q I r ⟨i, rfl, Wn.flat le h (.int _)⟩
  | _ => exact False.elim h
theorem max2_all (hc : X.calm = true) : CallR X (.builtin "max") (rW22 X.K dMax2) := by
  intro pins s σ H xs us Q I r h
  obtain ⟨W, G, d, e, x, y, rfl, le, rx, ry, h⟩ := h
  cases d <;> cases e <;> try exact False.elim h
  rename_i i j
  obtain rfl := rx.int; obtain rfl := ry.int
  exact call_max2 hc pins s σ H _ us Q I r ⟨i, j, rfl, Wn.flat le h (.int _)⟩
theorem min2_all (hc : X.calm = true) : CallR X (.builtin "min") (rW22 X.K dMin2) := by
  intro pins s σ H xs us Q I r h
  obtain ⟨W, G, d, e, x, y, rfl, le, rx, ry, h⟩ := h
  cases d <;> cases e <;> try exact False.elim h
  rename_i i j
  obtain rfl := rx.int; obtain rfl := ry.int
  exact call_min2 hc pins s σ H _ us Q I r ⟨i, j, rfl, Wn.flat le h (.int _)⟩
theorem bools_rel : ∀ {ds : List D} {vs : List V} {P : List Bool → Prop}, Rps K G vs ds → (bools ds).All P → ∃ bs, vs = bs.map V.bl ∧ P bs
  | [], _, P, .nil, h => ⟨[], rfl, h⟩
  | d :: ds, _, P, .cons a b, h => by
    cases a <;> try exact False.elim h
    rename_i c
    have h' : (bools ds >>= fun xs => Tree.ret (c :: xs)).All P := h
    obtain ⟨bs, e, p⟩ := bools_rel b ((Tree.all_bind _ _ _).mp h')
    exact ⟨c :: bs, by rw [e]; rfl, p⟩
theorem ints_rel : ∀ {ds : List D} {vs : List V} {P : List Int → Prop}, Rps K G vs ds → (intsD ds).All P → ∃ bs, vs = bs.map V.int ∧ P bs
  | [], _, P, .nil, h => ⟨[], rfl, h⟩
  | d :: ds, _, P, .cons a b, h => by
    cases a <;> try exact False.elim h
    rename_i c
    have h' : (intsD ds >>= fun xs => Tree.ret (c :: xs)).All P := h
    obtain ⟨bs, e, p⟩ := ints_rel b ((Tree.all_bind _ _ _).mp h')
    exact ⟨c :: bs, by rw [e]; rfl, p⟩
theorem strs_rel : ∀ {ds : List D} {vs : List V} {P : List Str → Prop}, Rps K G vs ds → (strsD ds).All P → ∃ bs, vs = bs.map V.str ∧ P bs
  | [], _, P, .nil, h => ⟨[], rfl, h⟩
  | d :: ds, _, P, .cons a b, h => by
    cases a <;> try exact False.elim h
    rename_i c
    have h' : (strsD ds >>= fun xs => Tree.ret (c :: xs)).All P := h
    obtain ⟨bs, e, p⟩ := strs_rel b ((Tree.all_bind _ _ _).mp h')
    exact ⟨c :: bs, by rw [e]; rfl, p⟩
theorem all_all (hc : X.calm = true) : CallR X (.builtin "all") (rW1 X.K dAll) := by
  intro pins s σ H xs us Q I r h
  obtain ⟨W, G, d, x, rfl, le, rx, h⟩ := h
  cases d with
  | list ys =>
    obtain ⟨a, vs, rfl, ha, q⟩ := rx.lst le
    obtain ⟨bs, rfl, p⟩ := bools_rel q ((Tree.all_bind _ _ _).mp h)
    exact cr_all hc pins s σ H _ us Q I r ⟨a, bs, rfl, SqL.of ha, Wn.flat le p (.bl _)⟩
  | _ => exact False.elim h
theorem any_all (hc : X.calm = true) : CallR X (.builtin "any") (rW1 X.K dAny) := by
  intro pins s σ H xs us Q I r h
  obtain ⟨W, G, d, x, rfl, le, rx, h⟩ := h
  cases d with
  | list ys =>
    obtain ⟨a, vs, rfl, ha, q⟩ := rx.lst le
    obtain ⟨bs, rfl, p⟩ := bools_rel q ((Tree.all_bind _ _ _).mp h)
    exact cr_any hc pins s σ H _ us Q I r ⟨a, bs, rfl, SqL.of ha, Wn.flat le p (.bl _)⟩
  | _ => exact False.elim h
theorem sum_all (hc : X.calm = true) : CallR X (.builtin "sum") (rW1 X.K dSum) := by
  intro pins s σ H xs us Q I r h
  obtain ⟨W, G, d, x, rfl, le, rx, h⟩ := h
  cases d with
  | list ys =>
    obtain ⟨a, vs, rfl, ha, q⟩ := rx.lst le
    obtain ⟨bs, rfl, p⟩ := ints_rel q ((Tree.all_bind _ _ _).mp h)
    exact cr_sum hc pins s σ H _ us Q I r ⟨a, bs, rfl, SqL.of ha, Wn.flat le p (.int _)⟩
  | _ => exact False.elim h
theorem maxI_spec : ∀ (r : List Int) (x : Int), (r.foldl (fun a b => if b > a then b else a) x) ∈ x :: r ∧ ∀ y ∈ x :: r, y ≤ r.foldl (fun a b => if b > a then b else a) x
  | [], x => ⟨List.mem_cons_self, fun y hy => by cases hy with | head => exact Int.le_refl _ | tail _ h => cases h⟩
  | z :: r, x => by
    obtain ⟨h1, h2⟩ := maxI_spec r (if z > x then z else x)
    rw [List.foldl_cons]
    constructor
    · rcases List.mem_cons.mp h1 with e | e
      · rw [e]; split
        · exact List.mem_cons_of_mem _ List.mem_cons_self
        · exact List.mem_cons_self
      · exact List.mem_cons_of_mem _ (List.mem_cons_of_mem _ e)
    · intro y hy
      have h3 := h2 _ List.mem_cons_self
      have h4 : ∀ y ∈ r, _ := fun y hy => h2 y (List.mem_cons_of_mem _ hy)
      generalize r.foldl (fun a b => if b > a then b else a) (if z > x then z else x) = F at h3 h4 ⊢
      rcases List.mem_cons.mp hy with e | hy
      · subst e; split at h3 <;> omega
      · rcases List.mem_cons.mp hy with e | hy
        · subst e; split at h3 <;> omega
        · exact h4 y hy
theorem minI_spec : ∀ (r : List Int) (x : Int), (r.foldl (fun a b => if b < a then b else a) x) ∈ x :: r ∧ ∀ y ∈ x :: r, r.foldl (fun a b => if b < a then b else a) x ≤ y
  | [], x => ⟨List.mem_cons_self, fun y hy => by cases hy with | head => exact Int.le_refl _ | tail _ h => cases h⟩
  | z :: r, x => by
    obtain ⟨h1, h2⟩ := minI_spec r (if z < x then z else x)
    rw [List.foldl_cons]
    constructor
    · rcases List.mem_cons.mp h1 with e | e
      · rw [e]; split
        · exact List.mem_cons_of_mem _ List.mem_cons_self
        · exact List.mem_cons_self
      · exact List.mem_cons_of_mem _ (List.mem_cons_of_mem _ e)
    · intro y hy
      have h3 := h2 _ List.mem_cons_self
      have h4 : ∀ y ∈ r, _ := fun y hy => h2 y (List.mem_cons_of_mem _ hy)
      generalize r.foldl (fun a b => if b < a then b else a) (if z < x then z else x) = F at h3 h4 ⊢
      rcases List.mem_cons.mp hy with e | hy
      · subst e; split at h3 <;> omega
      · rcases List.mem_cons.mp hy with e | hy
        · subst e; split at h3 <;> omega
        · exact h4 y hy
theorem max1_all (hc : X.calm = true) : CallR X (.builtin "max") (rW1 X.K dMax1) := by
  intro pins s σ H xs us Q I r h
  obtain ⟨W, G, d, x, rfl, le, rx, h⟩ := h
  cases d with
  | list ys =>
    obtain ⟨a, vs, rfl, ha, q⟩ := rx.lst le
    obtain ⟨bs, rfl, p⟩ := ints_rel q ((Tree.all_bind _ _ _).mp h)
    cases bs with
    | nil => exact False.elim p
    | cons z bs =>
      refine cr_max hc pins s σ H _ us Q I r ⟨a, z :: bs, rfl, SqL.of ha, Nat.succ_pos _, fun m hm hle => ?_⟩
      obtain ⟨h1, h2⟩ := maxI_spec bs z
      have e : m = bs.foldl (fun a b => if b > a then b else a) z := Int.le_antisymm (h2 m hm) (hle _ h1)
      subst e
      exact Wn.flat le p (.int _)
  | _ => exact False.elim h
theorem min1_all (hc : X.calm = true) : CallR X (.builtin "min") (rW1 X.K dMin1) := by
  intro pins s σ H xs us Q I r h
  obtain ⟨W, G, d, x, rfl, le, rx, h⟩ := h
  cases d with
  | list ys =>
    obtain ⟨a, vs, rfl, ha, q⟩ := rx.lst le
    obtain ⟨bs, rfl, p⟩ := ints_rel q ((Tree.all_bind _ _ _).mp h)
    cases bs with
    | nil => exact False.elim p
    | cons z bs =>
      refine cr_min hc pins s σ H _ us Q I r ⟨a, z :: bs, rfl, SqL.of ha, Nat.succ_pos _, fun m hm hle => ?_⟩
      obtain ⟨h1, h2⟩ := minI_spec bs z
      have e : m = bs.foldl (fun a b => if b < a then b else a) z := Int.le_antisymm (hle _ h1) (h2 m hm)
      subst e
      exact Wn.flat le p (.int _)
  | _ => exact False.elim h
theorem int_all : CallR X (.type "int") (rW1 X.K dInt) := by
  intro pins s σ H xs us Q I r h
  obtain ⟨W, G, d, x, rfl, le, rx, h⟩ := h
  cases d with
  | int i => obtain rfl := rx.int; exact call_int1 pins s σ H _ us Q I r (.inl ⟨i, rfl, Wn.flat le h (.int _)⟩)
  | _ => exact False.elim h
theorem str_all : CallR X (.type "str") (rW1 X.K dStr) := by
  intro pins s σ H xs us Q I r h
  obtain ⟨W, G, d, x, rfl, le, rx, h⟩ := h
  cases d with
  | int i =>
    obtain rfl := rx.int
    obtain ⟨hb, h⟩ := all_guard h
    exact call_str_int pins s σ H _ us Q I r ⟨i, rfl, of_decide_eq_true hb, Wn.flat le h (.str _)⟩
  | _ => exact False.elim h
theorem pairOf_rel (le : Same G H) {d : D} {v : V} {P : D × D → Prop} (r : Rp K G v d) (h : (pairOf d).All P) : ∃ (a : Addr) (kk : Key) (w : V) (vd : D), v = .ref a ∧ SqT K H a [kV kk, w] ∧ Rp K G w vd ∧ P (kD kk, vd) := by
  cases r with
  | tup ha ra =>
    cases ra with
    | nil => exact False.elim h
    | cons rk rb =>
      cases rb with
      | nil => exact False.elim h
      | cons rv rc =>
        cases rc with
        | nil =>
          obtain ⟨hk, h⟩ := all_guard h
          obtain ⟨kk, rfl, rfl⟩ := kV_kD rk hk
          exact ⟨_, kk, _, _, rfl, Same.sqT le ha, rv, h⟩
        | cons _ _ => exact False.elim h
  | _ => exact False.elim h
theorem pairs_rel (le : Same G H) : ∀ {ds : List D} {vs : List V} {P : List (D × D) → Prop}, Rps K G vs ds → (pairs ds).All P →
    ∃ (ps : List Addr) (ks : List (Key × V)) (kvs : List (D × D)), vs = ps.map V.ref ∧ Paired (fun p kv => SqT K H p [kV kv.1, kv.2]) ps ks ∧ Rpk K G ks kvs ∧ P kvs
  | [], _, P, .nil, h => ⟨[], [], [], rfl, .nil, .nil, h⟩
  | d :: ds, _, P, .cons a b, h => by
    obtain ⟨ad, kk, w, vd, rfl, ha, rv, h⟩ := pairOf_rel le a ((Tree.all_bind (pairOf d) _ _).mp h)
    obtain ⟨ps, ks, kvs, e, pp, rr, p⟩ := pairs_rel le b ((Tree.all_bind (pairs ds) _ _).mp h)
    exact ⟨ad :: ps, (kk, w) :: ks, (kD kk, vd) :: kvs, by rw [e]; rfl, .cons ha pp, .cons rv rr, p⟩
theorem dict_all (hc : X.calm = true) : CallR X (.type "dict") (rW1 X.K dDict) := by
  intro pins s σ H xs us Q I r h
  obtain ⟨W, G, d, x, rfl, le, rx, h⟩ := h
  cases d with
  | list ys =>
    obtain ⟨a, vs, rfl, ha, q⟩ := rx.lst le
    obtain ⟨ps, ks, kvs, rfl, pp, rr, p⟩ := pairs_rel le q ((Tree.all_bind _ _ _).mp h)
    refine call_dictP hc pins s σ H _ us Q I r ⟨a, ps, ks, rfl, SqL.of ha, pp, fun p' hp => ?_⟩
    have g := Gr.new (W := W) (o := .dK (mergeK [] ks)) le hp
    exact p _ _ _ g (.dic upd_same ((merge_rel rr .nil).mono g.g))
  | _ => exact False.elim h
/-- the value that the sort hands around -/
def Sv (K : PySem.W.Frag) (G : Hp) (u : Value) (d : D) : Prop := ∃ x, RelV x u ∧ Rp K G x d
theorem each_sv : ∀ {vs : List V} {us : List Value} {ds : List D}, Vals vs us → Rps K G vs ds → PySem.W.EachIs (Sv K G) us ds
  | _, _, _, .nil, .nil => .nil
  | _, _, _, .cons r rs, .cons a b => .cons ⟨_, r, a⟩ (each_sv rs b)
theorem sv_each : ∀ {us : List Value} {ds : List D}, PySem.W.EachIs (Sv K G) us ds → ∃ vs, Vals vs us ∧ Rps K G vs ds
  | _, _, .nil => ⟨[], .nil, .nil⟩
  | _, _, .cons ⟨x, r, a⟩ t => by
    obtain ⟨vs, h1, h2⟩ := sv_each t
    exact ⟨x :: vs, .cons r h1, .cons a h2⟩
theorem each_reads {pins : List (Addr × Obj)} {σ : L2.St} {s : Shared} (I : L2.Inv X pins σ H s) (le : Same G H) : ∀ {us : List Value} {ds : List D}, PySem.W.EachIs (Sv X.K G) us ds → (∀ d ∈ ds, PySem.W.alike d d = true) → PySem.W.EachIs (fun v b => ∃ as, Reads s.heap v (id b) as) us ds
  | _, _, .nil, _ => .nil
  | _, _, .cons ⟨x, r, a⟩ t, h => .cons (Dp.reads I _ _ _ ((a.mono le).dpA (h _ List.mem_cons_self)) r) (each_reads I le t fun d hd => h d (List.mem_cons_of_mem _ hd))
theorem sortable_of {ds : List D} (h : sortable ds = true) : PySem.W.AllAlike ds ∧ (∀ d ∈ ds, d.depth ≤ 60) ∧ PySem.W.Sortable ds := by
  unfold sortable at h
  rw [Bool.and_eq_true, Bool.and_eq_true, List.all_eq_true, List.all_eq_true, Bool.or_eq_true, List.all_eq_true, List.all_eq_true] at h
  obtain ⟨⟨h1, h2⟩, h3⟩ := h
  refine ⟨fun d hd e he => ?_, fun d hd => of_decide_eq_true (h2 d hd), ?_⟩
  · have := h1 d hd
    rw [List.all_eq_true] at this
    exact this e he
  · rcases h3 with h3 | h3
    · refine .inl fun d hd => ?_
      have q := h3 d hd
      cases d with
      | tuple xs => cases xs with
        | nil => exact Bool.noConfusion q
        | cons x r => exact ⟨x, r, rfl⟩
      | _ => exact Bool.noConfusion q
    · refine .inr fun d hd => ?_
      have q := h3 d hd
      cases d with
      | none => exact Bool.noConfusion q
      | tuple xs => exact Bool.noConfusion q
      | _ => exact ⟨(fun z => nomatch z), (fun _ z => nomatch z)⟩
theorem id_map' (ds : List D) : ds.map id = ds := List.map_id ds
theorem sorted_list (hr : Room k X.A) {pins : List (Addr × Obj)} {s : Shared} {σ : L2.St} {H G : Hp} {W : Wo} {a : Addr} {vs : List V} {ds : List D} {Q : VK} (I : L2.Inv X pins σ H s) (le : Same G H) (ha : H a = some (.lst vs)) (rs : Rps X.K G vs ds) (hs : sortable ds = true) (hl : ds.length ≤ lim)
    (h : Wn X.K W G H Q (.list (ds.mergeSort (PySem.W.dataLe false id)))) : wpAny (model X.prog X.w) X.A (call (.builtin "sorted") [.ref a]) (EP X pins σ Q) X.xe s := by
  obtain ⟨its, rv, pl, hz⟩ := I.list (SqL.of ha)
  obtain ⟨h1, h2, h3⟩ := sortable_of hs
  have ev := each_sv rv rs
  have hu := hr.un
  refine PySem.W.sorted_data (enc := id) (bs := ds) pl.isList ev (each_reads I le ev fun d hd => h1 d hd d hd) (by rw [id_map']; exact h1) (by rw [id_map']; exact h3) (by rw [← lim_eq]; exact hl) (fun b hb => by have := h2 b hb; show X.A.units + 2 + b.depth < cLine; omega) fun out ho eo => ?_
  obtain ⟨vs', r1, r2⟩ := sv_each eo
  obtain ⟨c, hc⟩ := PyProof.Rows.sortedAll_at s.heap its out.toArray
  have hn : H (s.heap.objs.size + 1) = none := I.hok.fresh (Nat.le_succ _)
  refine ⟨.ref (s.heap.objs.size + 1), upd H (s.heap.objs.size + 1) (.lst vs'), I.laid (t' := s.toks) (fun b o e => PyProof.Rows.sortedAll_old e) (Nat.le_succ _) ⟨?_, out, c, r1, hc⟩, rfl, Wn.lst le h r2 _ hn⟩
  rw [r2.length, List.length_mergeSort, ← lim_eq]
  exact hl
theorem kD_reads {h : Heap} {kk : Key} {v : Value} (e : keyIs kk v = true) : ∃ as, Reads h v (kD kk) as ∧ ∀ a : Addr, a ∉ as := by
  rcases keyIs_shape e with ⟨i, t, rfl, rfl⟩ | ⟨z, t, rfl, rfl⟩
  · exact ⟨[], .int i t, fun a h => by cases h⟩
  · exact ⟨[], .str z t, fun a h => by cases h⟩
theorem kD_rel {kk : Key} {v : Value} (e : keyIs kk v = true) : Sv K G v (kD kk) := by
  rcases keyIs_shape e with ⟨i, t, rfl, rfl⟩ | ⟨z, t, rfl, rfl⟩
  · exact ⟨.int i, ⟨t, rfl⟩, .int i⟩
  · exact ⟨.str z, ⟨t, rfl⟩, .str z⟩
theorem Rpk.keys : ∀ {ks : List (Key × V)} {kvs : List (D × D)}, Rpk K G ks kvs → kvs.map (·.1) = ks.map fun p => kD p.1
  | _, _, .nil => rfl
  | _, _, .cons a b => by rw [List.map_cons, List.map_cons, b.keys]
theorem each_at {α β : Type} {R : α → β → Prop} : ∀ {us : List α} {ds : List β}, us.length = ds.length → (∀ (j : Nat) (v : α), us[j]? = some v → ∃ d, ds[j]? = some d ∧ R v d) → PySem.W.EachIs R us ds
  | [], [], _, _ => .nil
  | u :: us, d :: ds, hl, h => by
    obtain ⟨d', e1, e2⟩ := h 0 u rfl
    cases e1
    exact .cons e2 (each_at (by simpa using hl) fun j v e => by
      obtain ⟨d', a, b⟩ := h (j + 1) v (by simpa using e)
      exact ⟨d', by simpa using a, b⟩)
  | [], _ :: _, hl, _ => by simp at hl
  | _ :: _, [], hl, _ => by simp at hl
theorem sorted_dict (hr : Room k X.A) (hcalm : X.calm = true) {pins : List (Addr × Obj)} {s : Shared} {σ : L2.St} {H G : Hp} {W : Wo} {a : Addr} {ks : List (Key × V)} {kvs : List (D × D)} {Q : VK} (I : L2.Inv X pins σ H s) (le : Same G H) (ha : H a = some (.dK ks)) (rk : Rpk X.K G ks kvs)
    (hs : sortable (kvs.map (·.1)) = true) (h : Wn X.K W G H Q (.list ((kvs.map (·.1)).mergeSort (PySem.W.dataLe false id)))) : wpAny (model X.prog X.w) X.A (call (.builtin "sorted") [.ref a]) (EP X pins σ Q) X.xe s := by
  obtain ⟨h1, h2, h3⟩ := sortable_of hs
  obtain ⟨z, lo, vs, rel, dd⟩ := dk_rd I.hok (.inl ha)
  obtain ⟨ep, hat⟩ := dd.dictAt
  have hkeys : kvs.map (·.1) = vs.map fun p => kD p.1 := by
    have e := congrArg (List.map kD) rel.keys
    rw [List.map_map, List.map_map] at e
    rw [rk.keys]
    exact e
  have hl : vs.length = (kvs.map (·.1)).length := by rw [hkeys, List.length_map]
  have hz : vs.length ≤ sizeLine := by rw [← rel.length]; exact z
  have hu := hr.un
  refine Calls.call_function_entry PyProof.Rows.kind_sorted PyProof.Rows.plain_sorted PyProof.Rows.entry_sorted (PyProof.Rows.args_sorted1 _) ?_
  unfold Builtin.«sorted»
  refine wpAny_bind (m := checkCount "sorted" 1 1 _) (wpAny_pure ?_)
  refine wpAny_bind (PySem.W.kdu_collect (A := X.A.in1) (PySem.W.kdl_dict (knd := mixKind X.prog X.w) (kvs := vs) (ep := ep) lo) (I.ok.hd hcalm) hat hz fun h' tk acc hk hacc => ?_)
  have hal : acc.toList.length = (kvs.map (·.1)).length := by rw [Array.length_toList, hacc.1, hl]
  have hat' : ∀ (j : Nat) (v : Value), acc.toList[j]? = some v → ∃ kk : Key, (kvs.map (·.1))[j]? = some (kD kk) ∧ keyIs kk v = true := fun j v e => by
    obtain ⟨kk, x, e1, e2⟩ := hacc.2 j v (by rw [← Array.getElem?_toList]; exact e)
    refine ⟨kk, ?_, e2⟩
    rw [hkeys, List.getElem?_map, e1]
    rfl
  have ev : PySem.W.EachIs (Sv X.K G) acc.toList (kvs.map (·.1)) := each_at hal fun j v e => by
    obtain ⟨kk, e1, e2⟩ := hat' j v e
    exact ⟨_, e1, kD_rel e2⟩
  have I1 : L2.Inv X pins σ H { s with heap := h', toks := tk } := I.kept hk
  refine wpAny_bind (wpAny_newList ?_ (by rw [hal, ← hl]; exact hz))
  have hoL : (h'.push (PyProof.Rows.seqObj "list" acc.toList.toArray 0)).get? h'.objs.size = some (PyProof.Rows.seqObj "list" acc.toList.toArray 0) := Heap.get?_push_size _ rfl
  show wpAny _ _ _ _ _ { s with heap := h'.push (PyProof.Rows.seqObj "list" acc.toList.toArray 0), toks := tk }
  refine wpAny_bind (wpAny_holding (PySem.W.list_sort_data (s := { s with heap := h'.push (PyProof.Rows.seqObj "list" acc.toList.toArray 0), toks := tk }) (enc := id) (bs := kvs.map (·.1)) hoL ev (each_at hal fun j v e => by
      obtain ⟨kk, e1, e2⟩ := hat' j v e
      obtain ⟨as, r1, r2⟩ := kD_reads e2
      exact ⟨_, e1, as, r1, r2 _⟩) (by rw [id_map']; exact h1) (by rw [id_map']; exact h3) (by rw [← hl]; exact hz) (fun b hb => by have := h2 b hb; show X.A.units + 1 + 1 + b.depth < cLine; omega) fun out ho eo => ?_))
  obtain ⟨vs', r1, r2⟩ := sv_each eo
  obtain ⟨e', he'⟩ := PyProof.Rows.sortedHeap_at (vs := acc.toList) (out := out.toArray) hoL
  have hn : H h'.objs.size = none := I1.hok.fresh (Nat.le_refl _)
  refine wpAny_pure ⟨_, rfl, .ref h'.objs.size, upd H h'.objs.size (.lst vs'), I1.laid (t' := tk) (fun b u e => ?_) (Nat.le_refl _)
    (show ObjOk X.prog X.w _ _ _ (.lst vs') from ⟨?_, out, e', r1, he'⟩), rfl, Wn.lst le h r2 _ hn⟩
  · have hb : b < h'.objs.size := Heap.lt_size e
    rw [PyProof.Rows.sortedHeap_old (Nat.ne_of_lt hb) (by rw [PyProof.Rows.size_push']; exact Nat.lt_succ_of_lt hb)]
    exact Heap.get?_push_of_some _ e
  · rw [r2.length, List.length_mergeSort, ← hl]
    exact hz
theorem sorted_all (hr : Room k X.A) (hc : X.calm = true) : CallR X (.builtin "sorted") (rW1 X.K dSorted) := by
  intro pins s σ H xs us Q I r h
  obtain ⟨W, G, d, x, rfl, le, rx, h⟩ := h
  obtain ⟨u, rfl, ru⟩ := vals1 r
  cases d with
  | list ys =>
    obtain ⟨a, vs, rfl, ha, q⟩ := rx.lst le
    cases ru
    have h : ((guard (sortable ys && decide (ys.length ≤ lim)) >>= fun _ => Tree.ret (ys.mergeSort (PySem.W.dataLe false id))) >>= fun ys => Tree.ret (PyData.list ys)).All (Wn X.K W G H Q) := h
    rw [Tree.bind_assoc'] at h
    obtain ⟨hb, h⟩ := all_guard h
    rw [Bool.and_eq_true] at hb
    exact sorted_list hr I le ha q hb.1 (of_decide_eq_true hb.2) h
  | dict kvs =>
    obtain ⟨a, ks, rfl, ha, q⟩ := rx.dic le
    cases ru
    have h : ((guard (sortable (kvs.map (·.1)) && decide ((kvs.map (·.1)).length ≤ lim)) >>= fun _ => Tree.ret ((kvs.map (·.1)).mergeSort (PySem.W.dataLe false id))) >>= fun ys => Tree.ret (PyData.list ys)).All (Wn X.K W G H Q) := h
    rw [Tree.bind_assoc'] at h
    obtain ⟨hb, h⟩ := all_guard h
    rw [Bool.and_eq_true] at hb
    exact sorted_dict hr hc I le ha q hb.1 h
  | _ => exact False.elim h
def rM1 (K : PySem.W.Frag) (g : D → D → Tree D) : V → List V → Hp → VK → Prop := fun x xs H Q => ∃ W G d e y, xs = [y] ∧ Same G H ∧ Rw K W G H x d ∧ Rw K W G H y e ∧ (g d e).All (Wn K W G H Q)
theorem join_all : MtR X "str.join" (rM1 X.K dJoinM) := by
  intro pins s σ H x xs v us Q I rx rs h
  obtain ⟨W, G, d, e, y, rfl, le, hx, hy, h⟩ := h
  cases d with
  | str z =>
    obtain rfl := hx.str
    have core : ∀ (p : Addr) (vs : List V) (es : List D), y = .ref p → (SqL X.K H p vs ∨ SqT X.K H p vs) → Rps X.K G vs es → (dJoin z es).All (Wn X.K W G H Q) → wpAny (model X.prog X.w) X.A (call (.builtin "str.join") (v :: us)) (EP X pins σ Q) X.xe s := fun p vs es ey hp q h => by
      subst ey
      obtain ⟨bs, rfl, h⟩ := strs_rel q ((Tree.all_bind _ _ _).mp h)
      obtain ⟨hb, h⟩ := all_guard h
      exact mt_join pins s σ H _ _ v us Q I rx rs ⟨z, p, bs, rfl, rfl, hp, of_decide_eq_true hb, Wn.flat le h (.str _)⟩
    cases e with
    | list es => obtain ⟨p, vs, ey, ha, q⟩ := hy.lst le; exact core p vs es ey (.inl (SqL.of ha)) q h
    | tuple es => obtain ⟨p, vs, ey, ha, q⟩ := hy.tup; exact core p vs es ey (.inr (Same.sqT le ha)) q h
    | _ => exact False.elim h
  | _ => exact False.elim h
theorem count_all : MtR X "str.count" (rM1 X.K dCount) := by
  intro pins s σ H x xs v us Q I rx rs h
  obtain ⟨W, G, d, e, y, rfl, le, hx, hy, h⟩ := h
  cases d <;> cases e <;> try exact False.elim h
  obtain rfl := hx.str; obtain rfl := hy.str
  exact mt_count pins s σ H _ _ v us Q I rx rs ⟨_, _, rfl, rfl, Wn.flat le h (.int _)⟩
end
end Pd

namespace L2
open PySem PySem.Spec
section
variable {X : Cx}
theorem PE.imp {e : Expr} {t t' : TE} (h : PE X e t) (m : ∀ σ H Q, t' σ H Q → t σ H Q) : PE X e t' := ⟨fun pins s σ H Q I q => h.run pins s σ H Q I (m σ H Q q)⟩
theorem PT.imp {e : Expr} {t t' : TT} (h : PT X e t) (m : ∀ σ H Q, t' σ H Q → t σ H Q) : PT X e t' := ⟨fun pins s σ H Q I q => h.run pins s σ H Q I (m σ H Q q)⟩
theorem PW.imp {e : Expr} {t t' : TT} (h : PW X e t) (m : ∀ σ H Q, t' σ H Q → t σ H Q) : PW X e t' := ⟨fun wh pins s σ H Q I q => h.run wh pins s σ H Q I (m σ H Q q)⟩
theorem PA.imp {es : List Expr} {t t' : TA} (h : PA X es t) (m : ∀ σ H Q, t' σ H Q → t σ H Q) : PA X es t' := ⟨fun pos pins s σ H Q I q => h.run pos pins s σ H Q I (m σ H Q q)⟩
theorem PS.imp {e : Stmt} {t t' : TS} (h : PS X e t) (m : ∀ D σ H, t' D σ H → t D σ H) : PS X e t' := ⟨fun pins s σ H D I q => h.run pins s σ H D I (m D σ H q)⟩
theorem PSs.imp {e : List Stmt} {t t' : TS} (h : PSs X e t) (m : ∀ D σ H, t' D σ H → t D σ H) : PSs X e t' := ⟨fun pins s σ H D I q => h.run pins s σ H D I (m D σ H q)⟩
theorem PI.imp {tg e : Expr} {t t' : TI} (h : PI X tg e t) (m : ∀ σ H Q, t' σ H Q → t σ H Q) : PI X tg e t' := ⟨fun pins s σ H Q I q => h.run pins s σ H Q I (m σ H Q q)⟩
theorem PG.imp {e : Expr} {t t' : TG} (h : PG X e t) (m : ∀ v σ H Q, t' v σ H Q → t v σ H Q) : PG X e t' := ⟨fun pins s σ H v u Q I r q => h.run pins s σ H v u Q I r (m v σ H Q q)⟩
end
end L2
namespace Pd
open PySem PySem.Spec L2

/-- the context that the translation speaks of -/
structure Fits (C : Ctx) (k : Nat) (Φ : Phi) (X : Cx) : Prop where
  N : X.N = C.N
  nd : C.N.Nodup
  sc : X.env.scope = C.sc
  calm : X.calm = true
  room : Room k X.A
  blk : match C.blk with
    | none => ∀ x, X.fn x = true
    | some s => ∀ x, X.fn x = (s.names.lookup x == some .cell)
  cons : ∀ x d, C.cons.lookup x = some d → ∃ u v, X.mg x = some u ∧ RelV v u ∧ ∀ G, Rp X.K G v d
  bis : ∀ x, C.bis.contains x = true → X.mg x = none
  fns : ∀ x i, C.fns.lookup x = some i → ∃ f fd ps, X.mg x = some (.ref f) ∧ PySem.W.keepIn X.K (.ref f) = true ∧ Binds X.K fd ps [] ∧ FnOk X.prog X.w X.K X.mg X.base CX0 k f fd ps (spT X.K (Φ i))

section
variable {X : Cx}
/-- a value that stands still is an operand -/
theorem pe_weak {e : Expr} {f : Env → Tree D} (h : PE X e (tE X.K f)) : PE X e (tW X.K f) := h.imp fun σ H Q ⟨W, G0, H0, G, ρ, s, q⟩ => ⟨W, G0, H0, G, ρ, s, q.mono fun d hd v G' H' g r => hd v G' H' g (.s r)⟩
theorem tru_of {K : PySem.W.Frag} {W : Wo} {G H : Hp} {v : V} {d : D} {Q : Bool → Hp → Prop} (le : Same G H) (r : Rw K W G H v d) (h : (truth d).All fun b => Q b H) : ∃ k, TruV K v H k ∧ Q k H := by
  cases d with
  | none => cases r with | s r => cases r; exact ⟨false, rfl, h⟩
  | bool b => obtain rfl := r.bl; exact ⟨b, rfl, h⟩
  | int i => obtain rfl := r.int; exact ⟨_, rfl, h⟩
  | str x =>
    obtain rfl := r.str
    obtain ⟨hb, h⟩ := all_guard h
    exact ⟨_, ⟨by rw [← lim_eq]; exact of_decide_eq_true hb, rfl⟩, h⟩
  | list xs =>
    obtain ⟨a, vs, rfl, ha, q⟩ := r.lst le
    refine ⟨!xs.isEmpty, .inl ⟨vs, SqL.of ha, ?_⟩, h⟩
    cases q <;> rfl
  | tuple xs =>
    obtain ⟨a, vs, rfl, ha, q⟩ := r.tup
    refine ⟨!xs.isEmpty, .inr (.inl ⟨vs, Same.sqT le ha, ?_⟩), h⟩
    cases q <;> rfl
  | dict kvs =>
    obtain ⟨a, ks, rfl, ha, q⟩ := r.dic le
    refine ⟨!kvs.isEmpty, .inr (.inr ⟨ks, ha, ?_⟩), h⟩
    cases q <;> rfl
/-- the truth of an operand -/
theorem pt_tru {e : Expr} {f : Env → Tree D} (h : PE X e (tW X.K f)) (he : ∀ whole, isTrue e X.env whole = (do let v ← whole; standAt e.pos; holding [v] (truthy v))) : PT X e (tT X.K fun ρ => do let x ← f ρ; truth x) := by
  refine (pt_truth h he).imp fun σ H Q ⟨W, G0, H0, G, ρ, s, q⟩ => ⟨W, G0, H0, G, ρ, s, (all_bind' q).mono fun d hd v G' H' g r => ?_⟩
  exact tru_of (Q := Q) g.le r (hd.mono fun b hb => hb G' H' g)
theorem jd_of {K : PySem.W.Frag} {W : Wo} {J : It} {G' : Hp} {xs : List D} (h : ∀ G2 H2, Same G' G2 → Same G2 H2 → ∀ i, (xs.length ≤ i → J.stop i H2) ∧
    ∀ x, xs[i]? = some x → J.go i H2 ∧ ∀ v H3, J.yld i H2 v H3 → H3 = H2 ∧ Rp K G2 v x) : JD K W J G' xs := fun G2 H2 g le i =>
  ⟨(h G2 H2 g le i).1, fun x hx => ⟨((h G2 H2 g le i).2 x hx).1, fun v H3 y => by
    obtain ⟨rfl, r⟩ := ((h G2 H2 g le i).2 x hx).2 v H3 y
    exact ⟨G2, Gr.refl le, r⟩⟩⟩
theorem iter_ok {tg : Expr} {pins : List (Addr × Obj)} {σ : L2.St} {G H : Hp} {s : Shared} {v : V} {u : Value} {d : D} {W : Wo} {R : It → Hp → Prop} (I : L2.Inv X pins σ H s) (le : Same G H) (r : Rp X.K G v d) (ru : RelV v u)
    (h : (items d).All fun xs => ∀ J G' H', Gr W G H G' H' → JD X.K W J G' xs → R J H') : wpAny (model X.prog X.w) X.A (pyIter u) (PIE X pins σ tg R) X.xe s := by
  cases r with
  | lst ha rs =>
    cases ru
    obtain ⟨its, rv, p, hz⟩ := I.list (SqL.of (le _ _ ha))
    refine wpAny_pyIter_list p.isList ?_
    refine ⟨s.heap.objs.size, [s.heap.objs.size], _, _, H, rfl, I.kept (t' := s.toks) fun b o e => Heap.get?_push_of_some _ e, turn_list _ _, ⟨_, Heap.get?_push_size _ rfl, rfl, rfl⟩, fun b hb => ?_, h _ G H (Gr.refl le) (jd_of fun G2 H2 g l2 i => ?_)⟩
    · have e : b = s.heap.objs.size := by simpa using hb
      subst e
      exact I.fpOk (Nat.le_refl _) (I.hok.fresh (Nat.le_refl _))
    · have hq := SqL.of (K := X.K) (l2 _ _ (g _ _ ha))
      refine ⟨fun hi => ⟨_, hq, by rw [rs.length]; exact hi⟩, fun x hx => ?_⟩
      obtain ⟨w, hw, rw'⟩ := rs.get hx
      refine ⟨⟨_, w, hq, hw⟩, fun v H3 y => ⟨y.1, ?_⟩⟩
      have e := y.2 _ hq
      rw [hw] at e
      cases e
      exact rw'.mono g
  | tup ha rs =>
    cases ru
    obtain ⟨its, rv, p, hz⟩ := I.tuple (Same.sqT le ha)
    refine wpAny_pyIter_tuple (show s.heap.IsTuple _ its.toArray from p) ?_
    refine ⟨s.heap.objs.size, [s.heap.objs.size], _, _, H, rfl, I.kept (t' := s.toks) fun b o e => Heap.get?_push_of_some _ e, turn_tuple _ _, ⟨_, Heap.get?_push_size _ rfl, rfl, rfl⟩, fun b hb => ?_, h _ G H (Gr.refl le) (jd_of fun G2 H2 g l2 i => ?_)⟩
    · have e : b = s.heap.objs.size := by simpa using hb
      subst e
      exact I.fpOk (Nat.le_refl _) (I.hok.fresh (Nat.le_refl _))
    · have hq := Same.sqT l2 (Same.sqT g ha)
      refine ⟨fun hi => ⟨_, hq, by rw [rs.length]; exact hi⟩, fun x hx => ?_⟩
      obtain ⟨w, hw, rw'⟩ := rs.get hx
      refine ⟨⟨_, w, hq, hw⟩, fun v H3 y => ⟨y.1, ?_⟩⟩
      have e := y.2 _ hq
      rw [hw] at e
      cases e
      exact rw'.mono g
  | str x =>
    obtain ⟨t, rfl⟩ := ru
    obtain ⟨hb, h⟩ := all_guard h
    have jd : JD X.K W (Its x) G (x.cps.toList.map fun c => PyData.str ⟨#[c]⟩) := jd_of fun G2 H2 g l2 i => by
      refine ⟨fun hi => by
        have hi' : x.cps.size ≤ i := by simpa using hi
        exact hi', fun y hy => ?_⟩
      rw [List.getElem?_map] at hy
      cases e : x.cps.toList[i]? with
      | none => rw [e] at hy; cases hy
      | some c =>
        rw [e] at hy
        cases hy
        have e' : x.cps[i]? = some c := by rw [← Array.getElem?_toList]; exact e
        refine ⟨(Array.getElem?_eq_some_iff.mp e').1, fun v H3 y => ⟨y.1, ?_⟩⟩
        obtain ⟨c', h1, h2⟩ := y.2
        rw [e'] at h1
        cases h1
        rw [h2]
        exact .str _
    cases ha : x.cps.all (· < 128)
    · exact wpAny_pyIter_wide ha (pi_one (tk := s.toks) I _ (turn_str _ x t "str_iterator" (.inr rfl)) ⟨_, Heap.get?_push_size _ rfl, rfl, rfl⟩ (h _ G H (Gr.refl le) jd))
    · exact wpAny_pyIter_ascii ha (pi_one (tk := s.toks) I _ (turn_str _ x t "str_ascii_iterator" (.inl rfl)) ⟨_, Heap.get?_push_size _ rfl, rfl, rfl⟩ (h _ G H (Gr.refl le) jd))
  | dic _ _ => exact False.elim h
  | _ => exact False.elim h
theorem pi_val {tg e : Expr} {f : Env → Tree D} (h : PE X e (tE X.K f)) : PI X tg e (tI X.K fun ρ => do let x ← f ρ; items x) := by
  refine ⟨fun pins s σ H R I q => ?_⟩
  obtain ⟨W, G0, H0, G, ρ, sr, q⟩ := q
  refine thn (h.run pins s σ H (fun v H' => ∃ G' d, Gr W G H G' H' ∧ Rp X.K G' v d ∧ (items d).All fun xs => ∀ J G2 H2, Gr W G' H' G2 H2 → JD X.K W J G2 xs → R J H2) I ⟨W, G0, H0, G, ρ, sr, (all_bind' q).mono fun d hd v G' H' g r => ⟨G', d, g, r, hd.mono fun xs hx J G2 H2 g2 jd => hx J G2 H2 (g.trans g2) jd⟩⟩) fun u s1 ⟨v, H1, I1, ru, G', d, g, r, hd⟩ => ?_
  exact iter_ok I1 g.le r ru hd
end
end Pd

namespace Pd
open PySem PySem.Spec L2
section
variable {X : Cx} {C : Ctx} {k : Nat} {Φ : Phi}
theorem Fits.loc (F : Fits C k Φ X) {x : Str} (h : storeB C x = true) : Loc X.env.scope x ∧ (X.fn x = true ∨ X.env.scope.names.lookup x = some .local) := by
  unfold storeB at h
  rw [← F.sc] at h
  have hb := F.blk
  split at h
  · rename_i e; exact ⟨.inl e, .inr e⟩
  · rename_i e
    refine ⟨.inr e, .inl ?_⟩
    split at h
    · rename_i eb
      rw [eb] at hb
      exact hb x
    · rename_i s eb
      rw [eb] at hb
      rw [hb x]
      exact h
  · cases h
theorem Fits.vis (F : Fits C k Φ X) {x : Str} (h : visB C.sc x = true) : Vis X.env.scope x := by
  unfold visB at h
  rw [← F.sc] at h
  split at h
  · rename_i e; exact .inl e
  · rename_i e; exact .inr (.inl e)
  · rename_i e; exact .inr (.inr e)
  · cases h
theorem Fits.gl (F : Fits C k Φ X) {x : Str} (h : glB C.sc x = true) : Gl X x := by
  unfold glB at h
  rw [← F.sc] at h
  split at h
  · rename_i e; exact e
  · cases h
theorem Fits.ix (F : Fits C k Φ X) {x : Str} {i : Nat} (h : slotOf x C.N = some i) : X.N[i]? = some x := by rw [F.N]; exact slotOf_some h
theorem Fits.ndX (F : Fits C k Φ X) : X.N.Nodup := by rw [F.N]; exact F.nd

def gT (K : PySem.W.Frag) (t : T) : TG := fun v σ H Q => ∃ W G0 H0 G ρ d, SR K W G0 H0 σ G H ρ ∧ Rp K G v d ∧ (bindT t d ρ).All fun ρ' => ∀ σ', SR K W G0 H0 σ' G H ρ' → σ'.length = σ.length → (∀ i, i ∉ t.names → σ'[i]? = σ[i]?) → Q σ' H
def gTs (K : PySem.W.Frag) (ts : List T) : TGs := fun vs σ H Q => ∃ W G0 H0 G ρ ds, SR K W G0 H0 σ G H ρ ∧ Rps K G vs ds ∧ (bindTs ts ds ρ).All fun ρ' => ∀ σ', SR K W G0 H0 σ' G H ρ' → σ'.length = σ.length → (∀ i, i ∉ T.namesL ts → σ'[i]? = σ[i]?) → Q σ' H
theorem star_cons {env : PySem.Env} {e : Expr} {es : List Expr} (h : notStar e = true) : starEach (e :: es) env = (false, eval e env) :: starEach es env := by
  cases e <;> first | rfl | cases h
theorem asg_cons {env : PySem.Env} {e : Expr} {es : List Expr} (h : notStar e = true) : assignEach (e :: es) env = (false, assign e env) :: assignEach es env := by
  cases e <;> first | rfl | cases h
theorem each_ok {env : PySem.Env} : ∀ {es : List Expr}, es.all notStar = true → (assignEach es env).length = es.length ∧ (assignEach es env).findIdx? (·.1) = none
  | [], h => ⟨rfl, rfl⟩
  | e :: es, h => by
    rw [List.all_cons, Bool.and_eq_true] at h
    obtain ⟨a, b⟩ := each_ok (env := env) h.2
    rw [asg_cons h.1]
    refine ⟨by rw [List.length_cons, List.length_cons, a], ?_⟩
    rw [List.findIdx?_cons, b]
    rfl
theorem mapO_len {α β : Type} {f : α → Option β} : ∀ {xs : List α} {ys : List β}, mapO f xs = some ys → xs.length = ys.length
  | [], _, h => by rw [mapO_nil h]; rfl
  | x :: xs, _, h => by
    obtain ⟨y, ys', rfl, _, h'⟩ := mapO_cons h
    rw [List.length_cons, List.length_cons, mapO_len h']
theorem pg_all (F : Fits C k Φ X) : ∀ (n : Nat) {e : Expr} {t : T}, trT C n e = some t → PG X e (gT X.K t)
  | 0, _, _, h => by cases h
  | n + 1, e, t, h => by
    unfold trT at h
    split at h
    · rename_i x p
      split at h
      · rename_i hs
        obtain ⟨i, hi, rfl⟩ := Option.map_eq_some_iff.mp h
        obtain ⟨l1, l2⟩ := F.loc hs
        refine (pg_name F.ndX (F.ix hi) l1 l2).imp fun v σ H Q ⟨W, G0, H0, G, ρ, d, s, r, q⟩ => ?_
        have q : ∀ σ', SR X.K W G0 H0 σ' G H (ρ.set i (some (.v d))) → σ'.length = σ.length → (∀ j, j ∉ [i] → σ'[j]? = σ[j]?) → Q σ' H := q
        refine q _ (s.set r) (List.length_set ..) fun j hj => ?_
        rw [List.getElem?_set_ne]
        intro z
        exact hj (by rw [z]; exact List.mem_cons_self)
      · cases h
    · rename_i es kk p
      split at h
      · rename_i hn
        obtain ⟨ts, hts, rfl⟩ := Option.map_eq_some_iff.mp h
        obtain ⟨a, b⟩ := each_ok (env := X.env) hn
        have hs : ∀ {es : List Expr} {ts : List T}, es.all notStar = true → mapO (trT C n) es = some ts → PGs X es (gTs X.K ts) := by
          intro es
          induction es with
          | nil =>
            intro ts _ h
            rw [mapO_nil h]
            exact ⟨fun pins s σ H vs us Q I r ⟨W, G0, H0, G, ρ, ds, sr, rs, q⟩ => pgs_nil.run pins s σ H vs us Q I r (by
              cases rs with
              | nil => exact ⟨rfl, q σ sr rfl fun _ _ => rfl⟩
              | cons _ _ => exact False.elim q)⟩
          | cons e es ih =>
            intro ts hn h
            rw [List.all_cons, Bool.and_eq_true] at hn
            obtain ⟨t, ts', rfl, h1, h2⟩ := mapO_cons h
            have p := pgs_cons (pg_all F n h1) (ih hn.2 h2) (by rw [asg_cons hn.1]; rfl)
            refine ⟨fun pins s σ H vs us Q I r ⟨W, G0, H0, G, ρ, ds, sr, rs, q⟩ => p.run pins s σ H vs us Q I r ?_⟩
            cases rs with
            | nil => exact False.elim q
            | @cons v vs d ds a b =>
              have q : (bindT t d ρ >>= fun ρ' => bindTs ts' ds ρ').All _ := q
              refine ⟨v, vs, rfl, W, G0, H0, G, ρ, d, sr, a, (all_bind' q).mono fun ρ' hq σ' sr' hl he => ?_⟩
              refine ⟨W, G0, H0, G, ρ', ds, sr', b, hq.mono fun ρ2 hq σ2 sr2 hl2 he2 => hq σ2 sr2 (hl2.trans hl) fun i hi => ?_⟩
              have hi : i ∉ t.names ++ T.namesL ts' := hi
              rw [List.mem_append, not_or] at hi
              exact (he2 i hi.2).trans (he i hi.1)
        refine (pg_tup F.calm (hs hn hts) a b).imp fun v σ H Q ⟨W, G0, H0, G, ρ, d, s, r, q⟩ => ?_
        cases r with
        | tup ha rs =>
          obtain ⟨hl, q⟩ := all_guard q
          refine ⟨_, _, rfl, Same.sqT s.le ha, ?_, W, G0, H0, G, ρ, _, s, rs, q⟩
          rw [rs.length, mapO_len hts]
          exact of_decide_eq_true hl
        | _ => exact False.elim q
      · cases h
    · cases h
end
end Pd

namespace Pd
open PySem PySem.Spec L2

/-- an expression does what its small one says, in each place -/
structure Gd (Φ : Phi) (X : Cx) (e : Expr) (e' : E) : Prop where
  v : PE X e (tE X.K (ev Φ .v e'))
  w : PE X e (tW X.K (ev Φ .w e'))
  t : PT X e (tT X.K (evT Φ e'))
  i : ∀ tg, PI X tg e (tI X.K (evI Φ e'))
theorem post_t (t : Tree D) : (post .t t >>= asBool) = (t >>= truth) := by
  show ((t >>= fun x => truth x >>= fun k => Tree.ret (PyData.bool k)) >>= asBool) = _
  rw [Tree.bind_assoc']
  congr 1
  funext x
  rw [Tree.bind_assoc']
  exact Tree.bind_ret' _
theorem post_i (t : Tree D) : (post .i t >>= asLst) = (t >>= items) := by
  show ((t >>= fun x => items x >>= fun k => Tree.ret (PyData.list k)) >>= asLst) = _
  rw [Tree.bind_assoc']
  congr 1
  funext x
  rw [Tree.bind_assoc']
  exact Tree.bind_ret' _
section
variable {X : Cx} {C : Ctx} {k : Nat} {Φ : Phi}
abbrev PlainT (X : Cx) (e : Expr) : Prop := ∀ whole, isTrue e X.env whole = (do let v ← whole; standAt e.pos; holding [v] (truthy v))
theorem Gd.of {e : Expr} {e' : E} {f : Env → Tree D} (h : PE X e (tE X.K f)) (hv : ∀ ρ, ev Φ .v e' ρ = f ρ) (hw : ∀ ρ, ev Φ .w e' ρ = f ρ) (ht : ∀ ρ, ev Φ .t e' ρ = post .t (f ρ)) (hi : ∀ ρ, ev Φ .i e' ρ = post .i (f ρ)) (he : PlainT X e) : Gd Φ X e e' := by
  have e1 : ev Φ .v e' = f := funext hv
  have e2 : ev Φ .w e' = f := funext hw
  have e3 : evT Φ e' = fun ρ => f ρ >>= truth := funext fun ρ => by unfold evT; rw [ht, post_t]
  have e4 : evI Φ e' = fun ρ => f ρ >>= items := funext fun ρ => by unfold evI; rw [hi, post_i]
  exact ⟨by rw [e1]; exact h, by rw [e2]; exact pe_weak h, by rw [e3]; exact pt_tru (pe_weak h) he, fun tg => by rw [e4]; exact pi_val h⟩
/-- .. where the test goes its own way -/
theorem Gd.ofT {e : Expr} {e' : E} {f : Env → Tree D} (h : PE X e (tE X.K f)) (t : PT X e (tT X.K (evT Φ e'))) (hv : ∀ ρ, ev Φ .v e' ρ = f ρ) (hw : ∀ ρ, ev Φ .w e' ρ = f ρ) (hi : ∀ ρ, ev Φ .i e' ρ = post .i (f ρ)) : Gd Φ X e e' := by
  have e1 : ev Φ .v e' = f := funext hv
  have e2 : ev Φ .w e' = f := funext hw
  have e4 : evI Φ e' = fun ρ => f ρ >>= items := funext fun ρ => by unfold evI; rw [hi, post_i]
  exact ⟨by rw [e1]; exact h, by rw [e2]; exact pe_weak h, t, fun tg => by rw [e4]; exact pi_val h⟩

theorem ok_flat {e : Expr} {d : D} {v : V} (h : PE X e (tC v)) (r : ∀ G, Rp X.K G v d) : PE X e (tE X.K fun _ => .ret d) := h.imp fun σ H Q ⟨W, G0, H0, G, ρ, s, q⟩ => q v G H (Gr.refl s.le) (r G)
theorem gd_con {e : Expr} {d : D} (h : PE X e (tE X.K fun _ => .ret d)) (he : PlainT X e) : Gd Φ X e (.con d) := Gd.of h (fun _ => rfl) (fun _ => rfl) (fun _ => rfl) (fun _ => rfl) he
theorem ok_rd {i : Nat} {e : Expr} (h : PE X e (tVar i)) : PE X e (tE X.K fun ρ => rd ρ i) := h.imp fun σ H Q ⟨W, G0, H0, G, ρ, s, q⟩ => by
  have q : (rd ρ i).All _ := q
  unfold rd at q
  split at q
  · rename_i d e
    obtain ⟨v, hv, r⟩ := s.slot i _ e
    cases r with
    | v r => exact ⟨v, hv, q v G H (Gr.refl s.le) r⟩
  · exact False.elim q
theorem ok_rdW {i : Nat} {e : Expr} (h : PE X e (tVar i)) : PE X e (tW X.K fun ρ => rdW ρ i) := h.imp fun σ H Q ⟨W, G0, H0, G, ρ, s, q⟩ => by
  have q : (rdW ρ i).All _ := q
  unfold rdW at q
  split at q
  · rename_i d e
    obtain ⟨v, hv, r⟩ := s.slot i _ e
    cases r with
    | v r => exact ⟨v, hv, q v G H (Gr.refl s.le) (.s r)⟩
  · rename_i d e
    obtain ⟨v, hv, r⟩ := s.slot i _ e
    cases r with
    | l a o b => exact ⟨_, hv, q _ G H (Gr.refl s.le) (.l a o.b b)⟩
    | d a o b => exact ⟨_, hv, q _ G H (Gr.refl s.le) (.d a o.b b)⟩
  · exact False.elim q
theorem gd_var {i : Nat} {e : Expr} (h : PE X e (tVar i)) (he : PlainT X e) : Gd Φ X e (.var i) := by
  have e3 : evT Φ (.var i) = fun ρ => rdW ρ i >>= truth := funext fun ρ => post_t (rdW ρ i)
  have e4 : evI Φ (.var i) = fun ρ => rd ρ i >>= items := funext fun ρ => post_i (rd ρ i)
  exact ⟨ok_rd h, ok_rdW h, by rw [e3]; exact pt_tru (ok_rdW h) he, fun tg => by rw [e4]; exact pi_val (ok_rd h)⟩

theorem ok_bin {a b : Expr} {p : Pos} {op : Operator} {fa fb : Env → Tree D} {g : D → D → Tree D} (h : OpR X (binaryOp op) (rV2 X.K g)) (ha : PE X a (tE X.K fa)) (hb : PE X b (tE X.K fb)) : PE X (.BinOp a op b p) (tE X.K fun ρ => do let x ← fa ρ; let y ← fb ρ; g x y) :=
  (pe_op h ha hb).imp fun σ H Q ⟨W, G0, H0, G, ρ, s, q⟩ => ⟨W, G0, H0, G, ρ, s, (all_bind' q).mono fun dx hx v G1 H1 g1 r1 => ⟨W, G0, H0, G1, ρ, s.mono g1, (all_bind' hx).mono fun dy hy u G2 H2 g2 r2 =>
    ⟨W, G2, dx, dy, g2.le, r1.mono g2.g, r2, hy.mono fun d hd v G' H' g3 r3 => hd v G' H' ((g1.trans g2).trans g3) r3⟩⟩⟩
theorem ok_cmp {a b : Expr} {p : Pos} {op : CmpOp} {fa fb : Env → Tree D} {g : D → D → Tree D} (h : OpR X (compareOp op) (rW2 X.K g)) (ha : PE X a (tW X.K fa)) (hb : PE X b (tW X.K fb)) (hm : behindInMarks op b = false) : PE X (.Compare a [op] [b] p) (tE X.K fun ρ => do let x ← fa ρ; let y ← fb ρ; g x y) :=
  (pe_cmpR h ha hb hm).imp fun σ H Q ⟨W, G0, H0, G, ρ, s, q⟩ => ⟨W, G0, H0, G, ρ, s, (all_bind' q).mono fun dx hx v G1 H1 g1 r1 => ⟨W, G0, H0, G1, ρ, s.mono g1, (all_bind' hx).mono fun dy hy u G2 H2 g2 r2 =>
    ⟨W, G2, dx, dy, g2.le, r1.mono g2, r2, hy.mono fun d hd v G' H' g3 r3 => hd v G' H' ((g1.trans g2).trans g3) r3⟩⟩⟩
theorem nomk {b : Expr} (h : notSet b = true) (op : CmpOp) : behindInMarks op b = false := by
  cases b <;> first | rfl | cases h
theorem lastM {a b : Expr} {op op' : CmpOp} (h : notSet b = true) : lastMarks [op, op'] [a, b] = false := nomk h op'
/-- a op b op' c -/
theorem ok_cmp2 {a b c : Expr} {p : Pos} {op op' : CmpOp} {fa fb fc : Env → Tree D} (h : OpR X (compareOp op) (rW2 X.K (dCmpV op))) (h' : OpR X (compareOp op') (rW2 X.K (dCmpV op'))) (ha : PE X a (tW X.K fa)) (hb : PE X b (tW X.K fb)) (hc : PE X c (tW X.K fc)) (hm : notSet c = true) :
    PE X (.Compare a [op, op'] [b, c] p) (tE X.K fun ρ => do let x ← fa ρ; let y ← fb ρ; let k ← dCmp op x y; if k = true then (do let z ← fc ρ; let k' ← dCmp op' y z; .ret (.bool k')) else .ret (.bool false)) :=
  (pe_chain h h' ha hb hc (lastM hm)).imp fun σ H Q ⟨W, G0, H0, G, ρ, s, q⟩ => ⟨W, G0, H0, G, ρ, s, (all_bind' q).mono fun dx hx v G1 H1 g1 r1 => ⟨W, G0, H0, G1, ρ, s.mono g1, (all_bind' hx).mono fun dy hy u G2 H2 g2 r2 =>
    ⟨W, G2, dx, dy, g2.le, r1.mono g2, r2, by
      have hy := all_bind' hy
      unfold dCmpV
      refine (Tree.all_bind _ _ _).mpr (hy.mono fun k hk z G3 H3 g3 rz => ?_)
      have ez : z = .bl k := by cases rz; rfl
      refine ⟨k, ez, ?_⟩
      cases k with
      | false => exact hk _ G3 H3 ((g1.trans g2).trans g3) (.bl _)
      | true =>
        have hk : (fc ρ >>= fun z => dCmp op' dy z >>= fun k' => Tree.ret (PyData.bool k')).All _ := hk
        rw [if_pos rfl]
        exact ⟨W, G0, H0, G3, ρ, s.mono ((g1.trans g2).trans g3), (all_bind' hk).mono fun dz hz w G4 H4 g4 r4 => ⟨W, G4, dy, dz, g4.le, (r2.mono g3).mono g4, r4, by
          exact hz.mono fun d hd v5 G5 H5 g5 r5 => hd v5 G5 H5 ((((g1.trans g2).trans g3).trans g4).trans g5) r5⟩⟩⟩⟩⟩
theorem ok_neg {a : Expr} {p : Pos} {fa : Env → Tree D} (ha : PE X a (tE X.K fa)) : PE X (.UnaryOp .USub a p) (tE X.K fun ρ => do let x ← fa ρ; let i ← asInt x; .ret (.int (-i))) :=
  (pe_un un_neg ha).imp fun σ H Q ⟨W, G0, H0, G, ρ, s, q⟩ => ⟨W, G0, H0, G, ρ, s, (all_bind' q).mono fun d hd v G' H' g r => by
    cases r <;> try exact False.elim hd
    exact ⟨_, rfl, hd _ G' H' g (.int _)⟩⟩
theorem asBool_of {d : D} {K : PySem.W.Frag} {G : Hp} {v : V} {P : Bool → Prop} (r : Rp K G v d) (h : (asBool d).All P) : ∃ b, v = .bl b ∧ d = .bool b ∧ P b := by
  cases r <;> try exact False.elim h
  exact ⟨_, rfl, rfl, h⟩
theorem ok_and {a b : Expr} {rest : List Expr} {p : Pos} {fa fb : Env → Tree D} (ha : PE X a (tE X.K fa)) (hb : PE X (.BoolOp .And (b :: rest) p) (tE X.K fb)) : PE X (.BoolOp .And (a :: b :: rest) p) (tE X.K fun ρ => do let x ← fa ρ; let k ← asBool x; if k = true then fb ρ else .ret (.bool false)) :=
  (pe_and ha hb).imp fun σ H Q ⟨W, G0, H0, G, ρ, s, q⟩ => ⟨W, G0, H0, G, ρ, s, (all_bind' q).mono fun d hd v G' H' g r => by
    obtain ⟨k, rfl, rfl, hd⟩ := asBool_of r (all_bind' hd)
    refine ⟨k, rfl, ?_⟩
    cases k with
    | false => exact hd _ G' H' g (.bl _)
    | true =>
      have hd : (fb ρ).All _ := hd
      rw [if_pos rfl]
      exact ⟨W, G0, H0, G', ρ, s.mono g, hd.mono fun d2 h2 v2 G2 H2 g2 r2 => h2 v2 G2 H2 (g.trans g2) r2⟩⟩
theorem ok_or {a b : Expr} {rest : List Expr} {p : Pos} {fa fb : Env → Tree D} (ha : PE X a (tE X.K fa)) (hb : PE X (.BoolOp .Or (b :: rest) p) (tE X.K fb)) : PE X (.BoolOp .Or (a :: b :: rest) p) (tE X.K fun ρ => do let x ← fa ρ; let k ← asBool x; if k = true then .ret (.bool true) else fb ρ) :=
  (pe_or ha hb).imp fun σ H Q ⟨W, G0, H0, G, ρ, s, q⟩ => ⟨W, G0, H0, G, ρ, s, (all_bind' q).mono fun d hd v G' H' g r => by
    obtain ⟨k, rfl, rfl, hd⟩ := asBool_of r (all_bind' hd)
    refine ⟨k, rfl, ?_⟩
    cases k with
    | true => exact hd _ G' H' g (.bl _)
    | false =>
      have hd : (fb ρ).All _ := hd
      rw [if_neg (by decide)]
      exact ⟨W, G0, H0, G', ρ, s.mono g, hd.mono fun d2 h2 v2 G2 H2 g2 r2 => h2 v2 G2 H2 (g.trans g2) r2⟩⟩
theorem ok_not {a : Expr} {p : Pos} {fa : Env → Tree D} (ha : PE X a (tW X.K fa)) : PE X (.UnaryOp .Not a p) (tE X.K fun ρ => do let x ← fa ρ; let k ← truth x; .ret (.bool (!k))) :=
  (pe_notT ha).imp fun σ H Q ⟨W, G0, H0, G, ρ, s, q⟩ => ⟨W, G0, H0, G, ρ, s, (all_bind' q).mono fun d hd v G' H' g r =>
    tru_of (Q := fun k H' => Q (.bl (!k)) H') g.le r ((all_bind' hd).mono fun k hk => hk _ G' H' g (.bl _))⟩
theorem ok_ite {c a b : Expr} {p : Pos} {fc : Env → Tree Bool} {fa fb : Env → Tree D} (hc : PT X c (tT X.K fc)) (ha : PE X a (tE X.K fa)) (hb : PE X b (tE X.K fb)) : PE X (.IfExp c a b p) (tE X.K fun ρ => do let k ← fc ρ; if k = true then fa ρ else fb ρ) :=
  (pe_ifExp hc ha hb).imp fun σ H Q ⟨W, G0, H0, G, ρ, s, q⟩ => ⟨W, G0, H0, G, ρ, s, (all_bind' q).mono fun k hk G' H' g => by
    cases k with
    | true =>
      have hk : (fa ρ).All _ := hk
      rw [if_pos rfl]
      exact ⟨W, G0, H0, G', ρ, s.mono g, hk.mono fun d2 h2 v2 G2 H2 g2 r2 => h2 v2 G2 H2 (g.trans g2) r2⟩
    | false =>
      have hk : (fb ρ).All _ := hk
      rw [if_neg (by decide)]
      exact ⟨W, G0, H0, G', ρ, s.mono g, hk.mono fun d2 h2 v2 G2 H2 g2 r2 => h2 v2 G2 H2 (g.trans g2) r2⟩⟩
theorem okt_and {K : PySem.W.Frag} {fa fb : Env → Tree Bool} {σ : L2.St} {H : Hp} {Q : Bool → Hp → Prop} (h : tT K (fun ρ => do let k ← fa ρ; if k = true then fb ρ else .ret false) σ H Q) : tAnd (tT K fa) (tT K fb) σ H Q := by
  obtain ⟨W, G0, H0, G, ρ, s, q⟩ := h
  refine ⟨W, G0, H0, G, ρ, s, (all_bind' q).mono fun k hk G' H' g => ?_⟩
  cases k with
  | true =>
    have hk : (fb ρ).All _ := hk
    rw [if_pos rfl]
    exact ⟨W, G0, H0, G', ρ, s.mono g, hk.mono fun b hb G2 H2 g2 => hb G2 H2 (g.trans g2)⟩
  | false =>
    rw [if_neg (by decide)]
    exact hk G' H' g
theorem okt_or {K : PySem.W.Frag} {fa fb : Env → Tree Bool} {σ : L2.St} {H : Hp} {Q : Bool → Hp → Prop} (h : tT K (fun ρ => do let k ← fa ρ; if k = true then .ret true else fb ρ) σ H Q) : tOr (tT K fa) (tT K fb) σ H Q := by
  obtain ⟨W, G0, H0, G, ρ, s, q⟩ := h
  refine ⟨W, G0, H0, G, ρ, s, (all_bind' q).mono fun k hk G' H' g => ?_⟩
  cases k with
  | false =>
    have hk : (fb ρ).All _ := hk
    rw [if_neg (by decide)]
    exact ⟨W, G0, H0, G', ρ, s.mono g, hk.mono fun b hb G2 H2 g2 => hb G2 H2 (g.trans g2)⟩
  | true =>
    rw [if_pos rfl]
    exact hk G' H' g
theorem evT_and (a b : E) : evT Φ (.and a b) = (fun ρ => do let k ← evT Φ a ρ; if k = true then evT Φ b ρ else .ret false) := funext fun ρ => by
  show ((ev Φ .t a ρ >>= fun x => asBool x >>= fun k => if k = true then ev Φ .t b ρ else .ret (.bool false)) >>= asBool) = ((ev Φ .t a ρ >>= asBool) >>= fun k => if k = true then evT Φ b ρ else .ret false)
  rw [Tree.bind_assoc', Tree.bind_assoc']
  congr 1; funext x
  rw [Tree.bind_assoc']
  congr 1; funext k
  cases k <;> rfl
theorem evT_or (a b : E) : evT Φ (.or a b) = (fun ρ => do let k ← evT Φ a ρ; if k = true then .ret true else evT Φ b ρ) := funext fun ρ => by
  show ((ev Φ .t a ρ >>= fun x => asBool x >>= fun k => if k = true then .ret (.bool true) else ev Φ .t b ρ) >>= asBool) = ((ev Φ .t a ρ >>= asBool) >>= fun k => if k = true then .ret true else evT Φ b ρ)
  rw [Tree.bind_assoc', Tree.bind_assoc']
  congr 1; funext x
  rw [Tree.bind_assoc']
  congr 1; funext k
  cases k <;> rfl
theorem evT_not (a : E) : evT Φ (.not a) = (fun ρ => do let k ← evT Φ a ρ; .ret (!k)) := funext fun ρ => by
  show ((ev Φ .t a ρ >>= fun x => asBool x >>= fun k => .ret (.bool (!k))) >>= asBool) = ((ev Φ .t a ρ >>= asBool) >>= fun k => .ret (!k))
  rw [Tree.bind_assoc', Tree.bind_assoc']
  congr 1; funext x
  rw [Tree.bind_assoc']
  congr 1
theorem evT_ite (c a b : E) : evT Φ (.ite c a b) = (fun ρ => do let k ← evT Φ c ρ; if k = true then evT Φ a ρ else evT Φ b ρ) := funext fun ρ => by
  show ((ev Φ .t c ρ >>= fun x => asBool x >>= fun k => if k = true then ev Φ .t a ρ else ev Φ .t b ρ) >>= asBool) = ((ev Φ .t c ρ >>= asBool) >>= fun k => if k = true then evT Φ a ρ else evT Φ b ρ)
  rw [Tree.bind_assoc', Tree.bind_assoc']
  congr 1; funext x
  rw [Tree.bind_assoc']
  congr 1; funext k
  cases k <;> rfl
theorem pt_ite {c a b : Expr} {p : Pos} {fc fa fb : Env → Tree Bool} (hc : PT X c (tT X.K fc)) (ha : PT X a (tT X.K fa)) (hb : PT X b (tT X.K fb)) : PT X (.IfExp c a b p) (tT X.K fun ρ => do let k ← fc ρ; if k = true then fa ρ else fb ρ) := by
  refine ⟨fun pins s σ H Q I ⟨W, G0, H0, G, ρ, sr, q⟩ => ?_⟩
  have core := hc.run pins s σ H (fun k H' => ∃ G', Gr W G H G' H' ∧ (if k = true then fa ρ else fb ρ).All fun b => ∀ G2 H2, Gr W G H G2 H2 → Q b H2) I ⟨W, G0, H0, G, ρ, sr, (all_bind' q).mono fun k hk G' H' g => ⟨G', g, hk⟩⟩
  show wpAny _ _ (do if ← isTrue c X.env (eval c X.env) then isTrue a X.env (eval a X.env) else isTrue b X.env (eval b X.env)) _ _ s
  refine wpAny_bind (thn core fun k s1 ⟨H1, I1, G1, g, hk⟩ => ?_)
  cases k with
  | true =>
    rw [if_pos rfl] at hk ⊢
    exact ha.run pins s1 σ H1 Q I1 ⟨W, G0, H0, G1, ρ, sr.mono g, hk.mono fun b hb G2 H2 g2 => hb G2 H2 (g.trans g2)⟩
  | false =>
    rw [if_neg (by decide)] at hk ⊢
    exact hb.run pins s1 σ H1 Q I1 ⟨W, G0, H0, G1, ρ, sr.mono g, hk.mono fun b hb G2 H2 g2 => hb G2 H2 (g.trans g2)⟩
inductive GdL (Φ : Phi) (X : Cx) : List Expr → List E → Prop
  | nil : GdL Φ X [] []
  | cons {e : Expr} {e' : E} {es : List Expr} {es' : List E} : Gd Φ X e e' → GdL Φ X es es' → GdL Φ X (e :: es) (e' :: es')
theorem pa_vs {es : List Expr} {es' : List E} (t : GdL Φ X es es') : es.all notStar = true → PA X es (tVs X.K (evs Φ es')) := by
  induction t with
  | nil => exact fun _ => pa_nil.imp fun σ H Q ⟨W, G0, H0, G, ρ, s, q⟩ => (show ∀ vs G' H', Gr W G H G' H' → Rps X.K G' vs [] → Q vs H' from q) [] G H (Gr.refl s.le) .nil
  | @cons e e' es es' h t ih =>
    intro hn
    rw [List.all_cons, Bool.and_eq_true] at hn
    refine (pa_cons h.v (ih hn.2) (star_cons hn.1)).imp fun σ H Q ⟨W, G0, H0, G, ρ, s, q⟩ => ?_
    have q : (ev Φ .v e' ρ >>= fun x => evs Φ es' ρ >>= fun xs => Tree.ret (x :: xs)).All fun ds => ∀ vs G' H', Gr W G H G' H' → Rps X.K G' vs ds → Q vs H' := q
    exact ⟨W, G0, H0, G, ρ, s, (all_bind' q).mono fun d hd v G1 H1 g1 r1 => ⟨W, G0, H0, G1, ρ, s.mono g1, (all_bind' hd).mono fun ds hs vs G2 H2 g2 r2 => hs (v :: vs) G2 H2 (g1.trans g2) (.cons (r1.mono g2.g) r2)⟩⟩
theorem pa_ws {es : List Expr} {es' : List E} (t : GdL Φ X es es') : es.all notStar = true → PA X es (tWs X.K (evWs Φ es')) := by
  induction t with
  | nil => exact fun _ => pa_nil.imp fun σ H Q ⟨W, G0, H0, G, ρ, s, q⟩ => (show ∀ vs G' H', Gr W G H G' H' → Rws X.K W G' H' vs [] → Q vs H' from q) [] G H (Gr.refl s.le) .nil
  | @cons e e' es es' h t ih =>
    intro hn
    rw [List.all_cons, Bool.and_eq_true] at hn
    refine (pa_cons h.w (ih hn.2) (star_cons hn.1)).imp fun σ H Q ⟨W, G0, H0, G, ρ, s, q⟩ => ?_
    have q : (ev Φ .w e' ρ >>= fun x => evWs Φ es' ρ >>= fun xs => Tree.ret (x :: xs)).All fun ds => ∀ vs G' H', Gr W G H G' H' → Rws X.K W G' H' vs ds → Q vs H' := q
    exact ⟨W, G0, H0, G, ρ, s, (all_bind' q).mono fun d hd v G1 H1 g1 r1 => ⟨W, G0, H0, G1, ρ, s.mono g1, (all_bind' hd).mono fun ds hs vs G2 H2 g2 r2 => hs (v :: vs) G2 H2 (g1.trans g2) (.cons (r1.mono g2) r2)⟩⟩
def tB (K : PySem.W.Frag) (f : Env → Tree B) : TE := fun σ H Q => ∃ W G0 H0 G ρ, SR K W G0 H0 σ G H ρ ∧ (f ρ).All fun b => ∀ v G' H', Gr W G H G' H' → Ra K W G' v b → Q v H'
def evB (Φ : Phi) (e : E) (ρ : Env) : Tree B := match e with
  | .var i => rdB ρ i
  | e => do let x ← ev Φ .v e ρ; .ret (.v x)
/-- what is handed to a def -/
structure GdB (Φ : Phi) (X : Cx) (e : Expr) (e' : E) : Prop extends Gd Φ X e e' where
  b : PE X e (tB X.K (evB Φ e'))
  n : isNew e' = true → PE X e (tN X.K (ev Φ .v e'))
theorem gdB_of {e : Expr} {e' : E} (h : Gd Φ X e e') (hv : ∀ i, e' ≠ .var i) (hn : isNew e' = true → PE X e (tN X.K (ev Φ .v e')) := by intro h; cases h) : GdB Φ X e e' := by
  have e1 : evB Φ e' = fun ρ => ev Φ .v e' ρ >>= fun x => Tree.ret (B.v x) := by
    funext ρ
    cases e' <;> first | rfl | exact absurd rfl (hv _)
  exact ⟨h, by
    rw [e1]
    exact h.v.imp fun σ H Q ⟨W, G0, H0, G, ρ, s, q⟩ => ⟨W, G0, H0, G, ρ, s, (all_bind' q).mono fun d hd v G' H' g r => hd v G' H' g (.v r)⟩, hn⟩
theorem gdB_var {i : Nat} {e : Expr} (h : PE X e (tVar i)) (he : PlainT X e) : GdB Φ X e (.var i) := ⟨gd_var h he, h.imp fun σ H Q ⟨W, G0, H0, G, ρ, s, q⟩ => by
  have q : (rdB ρ i).All _ := q
  unfold rdB at q
  split at q
  · rename_i d e
    obtain ⟨v, hv, r⟩ := s.slot i _ e
    cases r with
    | v r => exact ⟨v, hv, q v G H (Gr.refl s.le) (.v r)⟩
  · rename_i e
    obtain ⟨v, hv, r⟩ := s.slot i _ e
    cases r with
    | box r => exact ⟨_, hv, q _ G H (Gr.refl s.le) (.box r)⟩
  · exact False.elim q, fun h => by cases h⟩
inductive GdBL (Φ : Phi) (X : Cx) : List Expr → List E → Prop
  | nil : GdBL Φ X [] []
  | cons {e : Expr} {e' : E} {es : List Expr} {es' : List E} : GdB Φ X e e' → GdBL Φ X es es' → GdBL Φ X (e :: es) (e' :: es')
theorem GdBL.l {es : List Expr} {es' : List E} (t : GdBL Φ X es es') : GdL Φ X es es' := by
  induction t with
  | nil => exact .nil
  | cons h _ ih => exact .cons h.toGd ih
theorem evBs_cons (e' : E) (es' : List E) (ρ : Env) : evBs Φ (e' :: es') ρ = (evB Φ e' ρ >>= fun x => evBs Φ es' ρ >>= fun xs => Tree.ret (x :: xs)) := by
  cases e' <;> rfl
theorem pa_bs {es : List Expr} {es' : List E} (t : GdBL Φ X es es') : es.all notStar = true → PA X es (tBs X.K (evBs Φ es')) := by
  induction t with
  | nil => exact fun _ => pa_nil.imp fun σ H Q ⟨W, G0, H0, G, ρ, s, q⟩ => (show ∀ vs G' H', Gr W G H G' H' → Ras X.K W G' vs [] → Q vs H' from q) [] G H (Gr.refl s.le) .nil
  | @cons e e' es es' h t ih =>
    intro hn
    rw [List.all_cons, Bool.and_eq_true] at hn
    refine (pa_cons h.b (ih hn.2) (star_cons hn.1)).imp fun σ H Q ⟨W, G0, H0, G, ρ, s, q⟩ => ?_
    rw [evBs_cons] at q
    exact ⟨W, G0, H0, G, ρ, s, (all_bind' q).mono fun d hd v G1 H1 g1 r1 => ⟨W, G0, H0, G1, ρ, s.mono g1, (all_bind' hd).mono fun ds hs vs G2 H2 g2 r2 => hs (v :: vs) G2 H2 (g1.trans g2) (.cons (r1.mono g2.g) r2)⟩⟩
theorem ok_tup {es : List Expr} {kk : Nat} {p : Pos} {f : Env → Tree (List D)} (h : PA X es (tVs X.K f)) : PE X (.Tuple es kk p) (tE X.K fun ρ => do let ds ← f ρ; guard (decide (ds.length ≤ lim)); .ret (.tuple ds)) :=
  (pe_tup h).imp fun σ H Q ⟨W, G0, H0, G, ρ, s, q⟩ => ⟨W, G0, H0, G, ρ, s, (all_bind' q).mono fun ds hd vs G' H' g r => by
    obtain ⟨hb, hd⟩ := all_guard hd
    refine ⟨by rw [r.length, ← lim_eq]; exact of_decide_eq_true hb, Wn.tup g.le (W := W) (ds := ds) (fun v G2 H2 g2 r2 => hd v G2 H2 (g.trans g2) r2) r⟩⟩
theorem ok_lst {es : List Expr} {p : Pos} {f : Env → Tree (List D)} (h : PA X es (tVs X.K f)) : PE X (.List es p) (tE X.K fun ρ => do let ds ← f ρ; guard (decide (ds.length ≤ lim)); .ret (.list ds)) :=
  (pe_lst h).imp fun σ H Q ⟨W, G0, H0, G, ρ, s, q⟩ => ⟨W, G0, H0, G, ρ, s, (all_bind' q).mono fun ds hd vs G' H' g r => by
    obtain ⟨hb, hd⟩ := all_guard hd
    refine ⟨by rw [r.length, ← lim_eq]; exact of_decide_eq_true hb, Wn.lst g.le (W := W) (ds := ds) (fun v G2 H2 g2 r2 => hd v G2 H2 (g.trans g2) r2) r⟩⟩
theorem ok_idx {a b : Expr} {p : Pos} {fa fb : Env → Tree D} (hr : Room k X.A) (ha : PE X a (tW X.K fa)) (hb : PE X b (tE X.K fb)) (hs : PlainIx b) : PE X (.Subscript a b p) (tE X.K fun ρ => do let x ← fa ρ; let y ← fb ρ; dIdx x y) :=
  (pe_ix (ix_all hr) ha hb hs).imp fun σ H Q ⟨W, G0, H0, G, ρ, s, q⟩ => ⟨W, G0, H0, G, ρ, s, (all_bind' q).mono fun dx hx v G1 H1 g1 r1 => ⟨W, G0, H0, G1, ρ, s.mono g1, (all_bind' hx).mono fun dy hy u G2 H2 g2 r2 =>
    ⟨W, G2, dx, dy, g2.le, r1.mono g2, .s r2, hy.mono fun d hd v G' H' g3 r3 => hd v G' H' ((g1.trans g2).trans g3) r3⟩⟩⟩
def tO (K : PySem.W.Frag) (f : Env → Tree (Option Int)) : TO := fun σ H Q => ∃ W G0 H0 G ρ, SR K W G0 H0 σ G H ρ ∧ (f ρ).All fun o => ∀ G' H', Gr W G H G' H' → Q o H'
theorem L2po_imp {e : Option Expr} {t t' : TO} (h : PO X e t) (m : ∀ σ H Q, t' σ H Q → t σ H Q) : PO X e t' := ⟨fun pins s σ H Q I q => h.run pins s σ H Q I (m σ H Q q)⟩
theorem po_no : PO X none (tO X.K (evO Φ none)) := L2po_imp po_none fun σ H Q ⟨W, G0, H0, G, ρ, s, q⟩ => (show ∀ G' H', Gr W G H G' H' → Q none H' from q) G H (Gr.refl s.le)
theorem po_yes {e : Expr} {e' : E} (h : Gd Φ X e e') : PO X (some e) (tO X.K (evO Φ (some e'))) := L2po_imp (po_some h.v) fun σ H Q ⟨W, G0, H0, G, ρ, s, q⟩ => by
  have q : (ev Φ .v e' ρ >>= fun x => asInt x >>= fun i => Tree.ret (some i)).All fun o => ∀ G' H', Gr W G H G' H' → Q o H' := q
  exact ⟨W, G0, H0, G, ρ, s, (all_bind' q).mono fun d hd v G' H' g r => by
    cases r <;> try exact False.elim hd
    exact ⟨_, rfl, hd G' H' g⟩⟩
theorem ok_slc {a : Expr} {lo hi : Option Expr} {p p2 : Pos} {fa : Env → Tree D} {fl fh : Env → Tree (Option Int)} (ha : PE X a (tW X.K fa)) (hl : PO X lo (tO X.K fl)) (hh : PO X hi (tO X.K fh)) :
    PE X (.Subscript a (.Slice lo hi none p2) p) (tE X.K fun ρ => do let x ← fa ρ; let l ← fl ρ; let h ← fh ρ; dSlc x l h) :=
  (pe_slice sl_all ha hl hh).imp fun σ H Q ⟨W, G0, H0, G, ρ, s, q⟩ => ⟨W, G0, H0, G, ρ, s, (all_bind' q).mono fun dx hx v G1 H1 g1 r1 => ⟨W, G0, H0, G1, ρ, s.mono g1, (all_bind' hx).mono fun l hl G2 H2 g2 =>
    ⟨W, G0, H0, G2, ρ, s.mono (g1.trans g2), (all_bind' hl).mono fun h hh G3 H3 g3 => ⟨W, G3, dx, g3.le, (r1.mono g2).mono g3, hh.mono fun d hd v G' H' g4 r4 => hd v G' H' (((g1.trans g2).trans g3).trans g4) r4⟩⟩⟩⟩
end
end Pd

namespace Pd
open PySem PySem.Spec L2
section
variable {X : Cx} {C : Ctx} {k : Nat} {Φ : Phi}
theorem no_star {env : PySem.Env} {pos : Pos} : ∀ {es : List Expr}, es.all notStar = true → (backTo pos (starEach es env)).any (·.1) = false
  | [], _ => rfl
  | e :: es, h => by
    rw [List.all_cons, Bool.and_eq_true] at h
    rw [star_cons h.1]
    show (false || (backTo pos (starEach es env)).any (·.1)) = false
    rw [no_star h.2]
    rfl
theorem nm_of {x : Str} (h : nm x = false) : (x == ("__debug__" : Str)) = false ∧ (x == ("__classdict__" : Str)) = false ∧ x ≠ ("__name__" : Str) := by
  unfold nm at h
  rw [Bool.or_eq_false_iff, Bool.or_eq_false_iff] at h
  exact ⟨h.1.1, h.1.2, fun e => by rw [e] at h; simp at h⟩
theorem ok_call (F : Fits C k Φ X) {f : Str} {i : Nat} {e : Expr} {es : List Expr} {p pos : Pos} {fs : Env → Tree (List B)} (hf : C.fns.lookup f = some i) (hg : glB C.sc f = true) (hn : nm f = false) (hs : (e :: es).all notStar = true) (ha : PA X (e :: es) (tBs X.K fs)) :
    PE X (.Call (.Name f p) (e :: es) [] pos) (tE X.K fun ρ => do let bs ← fs ρ; Φ i bs) := by
  obtain ⟨a, fd, ps, h1, h2, h3, h4⟩ := F.fns f i hf
  rw [List.all_cons, Bool.and_eq_true] at hs
  refine (pe_call h4 F.room (F.gl hg) h1 h2 h3 .nil pass0 ha (nm_of hn).1 (star_cons hs.1) (no_star hs.2)).imp fun σ H Q ⟨W, G0, H0, G, ρ, s, q⟩ => ⟨W, G0, H0, G, ρ, s, (all_bind' q).mono fun bs hb vs G' H' g r => ?_⟩
  show spT X.K (Φ i) (vs ++ []) H' Q E0
  rw [List.append_nil]
  exact ⟨W, G', bs, g.le, g.box s.box, (s.mono g).nob, r, hb.mono fun d hd v G2 H2 g2 r2 => hd v G2 H2 (g.trans g2) r2⟩
def biVal : Bi → Value
  | .len => .builtin "len" | .tuple => .type "tuple" | .list => .type "list" | .sorted => .builtin "sorted" | .abs => .builtin "abs" | .max => .builtin "max" | .min => .builtin "min"
  | .sum => .builtin "sum" | .all => .builtin "all" | .any => .builtin "any" | .int => .type "int" | .str => .type "str" | .dict => .type "dict" | .range => .type "range"
  | _ => .none
def CR0 (X : Cx) (b : Bi) : Prop := CallR X (biVal b) (rWs X.K (dBi b))
theorem cr1 {b : Bi} {g : D → Tree D} (h : CallR X (biVal b) (rW1 X.K g)) (e : ∀ d, dBi b [d] = g d) (e0 : dBi b [] = .err) (e2 : ∀ x y r, dBi b (x :: y :: r) = .err) : CR0 X b := by
  intro pins s σ H xs us Q I r ⟨W, G, ds, le, rs, q⟩
  match ds, rs, q with
  | [], _, q => rw [e0] at q; exact q.elim
  | [d], rs, q =>
    obtain ⟨x, ex, rx⟩ := rs.one
    rw [e] at q
    exact h pins s σ H xs us Q I r ⟨W, G, d, x, ex, le, rx, q⟩
  | _ :: _ :: _, _, q => rw [e2] at q; exact q.elim
theorem cr12 {b : Bi} {g : D → Tree D} {g2 : D → D → Tree D} (h : CallR X (biVal b) (rW1 X.K g)) (h2 : CallR X (biVal b) (rW22 X.K g2)) (e : ∀ d, dBi b [d] = g d) (ee : ∀ d d', dBi b [d, d'] = g2 d d') (e0 : dBi b [] = .err) (e3 : ∀ x y z r, dBi b (x :: y :: z :: r) = .err) : CR0 X b := by
  intro pins s σ H xs us Q I r ⟨W, G, ds, le, rs, q⟩
  match ds, rs, q with
  | [], _, q => rw [e0] at q; exact q.elim
  | [d], rs, q =>
    obtain ⟨x, ex, rx⟩ := rs.one
    rw [e] at q
    exact h pins s σ H xs us Q I r ⟨W, G, d, x, ex, le, rx, q⟩
  | [d, d'], rs, q =>
    obtain ⟨x, y, ex, rx, ry⟩ := rs.two
    rw [ee] at q
    exact h2 pins s σ H xs us Q I r ⟨W, G, d, d', x, y, ex, le, rx, ry, q⟩
  | _ :: _ :: _ :: _, _, q => rw [e3] at q; exact q.elim
theorem cr0 {b : Bi} (e : ∀ ds, dBi b ds = .err) : CR0 X b := by
  intro pins s σ H xs us Q I r ⟨W, G, ds, le, rs, q⟩
  rw [e] at q
  exact q.elim
theorem bi_call (hr : Room k X.A) (hc : X.calm = true) : ∀ b : Bi, CR0 X b
  | .len => cr1 len_all (fun _ => rfl) rfl (fun _ _ _ => rfl)
  | .tuple => cr1 tuple_all (fun _ => rfl) rfl (fun _ _ _ => rfl)
  | .list => cr1 list_all (fun _ => rfl) rfl (fun _ _ _ => rfl)
  | .sorted => cr1 (sorted_all hr hc) (fun _ => rfl) rfl (fun _ _ _ => rfl)
  | .abs => cr1 abs_all (fun _ => rfl) rfl (fun _ _ _ => rfl)
  | .max => cr12 (max1_all hc) (max2_all hc) (fun _ => rfl) (fun _ _ => rfl) rfl (fun _ _ _ _ => rfl)
  | .min => cr12 (min1_all hc) (min2_all hc) (fun _ => rfl) (fun _ _ => rfl) rfl (fun _ _ _ _ => rfl)
  | .sum => cr1 (sum_all hc) (fun _ => rfl) rfl (fun _ _ _ => rfl)
  | .all => cr1 (all_all hc) (fun _ => rfl) rfl (fun _ _ _ => rfl)
  | .any => cr1 (any_all hc) (fun _ => rfl) rfl (fun _ _ _ => rfl)
  | .int => cr1 int_all (fun _ => rfl) rfl (fun _ _ _ => rfl)
  | .str => cr1 str_all (fun _ => rfl) rfl (fun _ _ _ => rfl)
  | .dict => cr1 (dict_all hc) (fun _ => rfl) rfl (fun _ _ _ => rfl)
  | .range => cr0 fun _ => rfl
  | .set => cr0 fun _ => rfl
  | .enumerate => cr0 fun _ => rfl
  | .zip => cr0 fun _ => rfl
  | .isinst => cr0 fun _ => rfl
  | .sortedRev => cr0 fun _ => rfl
  | .bool => cr0 fun _ => rfl
/-- what is called by a built-in's name -/
inductive Callee : Value → Prop
  | b (id : String) : Callee (.builtin id)
  | t (n : String) : Callee (.type n)
theorem ok_bi (F : Fits C k Φ X) {f : Str} {u : Value} {r : List V → Hp → VK → Prop} {e : Expr} {es : List Expr} {p pos : Pos} {t : TA} (hu : Callee u) (hb : bootBuiltins f = some u) (hc : CallR X u r) (hm : C.bis.contains f = true) (hg : glB C.sc f = true) (hn : nm f = false) (hs : (e :: es).all notStar = true) (ha : PA X (e :: es) t) :
    PE X (.Call (.Name f p) (e :: es) [] pos) (tCB r t) := by
  rw [List.all_cons, Bool.and_eq_true] at hs
  cases hu with
  | b id => exact pe_callB hc (F.gl hg) (F.bis f hm) hb ha (nm_of hn).2.2 (nm_of hn).1 (star_cons hs.1) (no_star hs.2)
  | t n => exact pe_callTy hc (F.gl hg) (F.bis f hm) hb ha (nm_of hn).2.2 (nm_of hn).1 (star_cons hs.1) (no_star hs.2)
theorem tCB_ws {g : List D → Tree D} {fs : Env → Tree (List D)} {σ : L2.St} {H : Hp} {Q : VK} (h : tE X.K (fun ρ => do let ds ← fs ρ; g ds) σ H Q) : tCB (rWs X.K g) (tWs X.K fs) σ H Q := by
  obtain ⟨W, G0, H0, G, ρ, s, q⟩ := h
  exact ⟨W, G0, H0, G, ρ, s, (all_bind' q).mono fun ds hd vs G' H' g r => ⟨W, G', ds, g.le, r, hd.mono fun d hd v G2 H2 g2 r2 => hd v G2 H2 (g.trans g2) r2⟩⟩
theorem biOf_boot {f : Str} {b : Bi} (h : biOf f = some b) : bootBuiltins f = some (biVal b) ∧ Callee (biVal b) := by
  have m : (f, b) ∈ biTab := PySem.mem_of_lookup h
  unfold biTab at m
  simp only [List.mem_cons, List.not_mem_nil, or_false, Prod.mk.injEq] at m
  rcases m with ⟨rfl, rfl⟩ | ⟨rfl, rfl⟩ | ⟨rfl, rfl⟩ | ⟨rfl, rfl⟩ | ⟨rfl, rfl⟩ | ⟨rfl, rfl⟩ | ⟨rfl, rfl⟩ | ⟨rfl, rfl⟩ | ⟨rfl, rfl⟩ | ⟨rfl, rfl⟩ | ⟨rfl, rfl⟩ | ⟨rfl, rfl⟩ | ⟨rfl, rfl⟩ | ⟨rfl, rfl⟩
  · exact ⟨boot_len, by first | exact .b _ | exact .t _⟩
  · exact ⟨PyProof.Rows.boot_tuple, by first | exact .b _ | exact .t _⟩
  · exact ⟨PyProof.Rows.boot_list, by first | exact .b _ | exact .t _⟩
  · exact ⟨PyProof.Rows.boot_sorted, by first | exact .b _ | exact .t _⟩
  · exact ⟨PyProof.Rows.boot_abs, by first | exact .b _ | exact .t _⟩
  · exact ⟨PyProof.Rows.boot_max, by first | exact .b _ | exact .t _⟩
  · exact ⟨PyProof.Rows.boot_min, by first | exact .b _ | exact .t _⟩
  · exact ⟨PyProof.Rows.boot_sum, by first | exact .b _ | exact .t _⟩
  · exact ⟨PyProof.Rows.boot_all, by first | exact .b _ | exact .t _⟩
  · exact ⟨PyProof.Rows.boot_any, by first | exact .b _ | exact .t _⟩
  · exact ⟨PyProof.Rows.boot_int, by first | exact .b _ | exact .t _⟩
  · exact ⟨PyProof.Rows.boot_str, by first | exact .b _ | exact .t _⟩
  · exact ⟨PyProof.Rows.boot_dict, by first | exact .b _ | exact .t _⟩
  · exact ⟨PyProof.Rows.boot_range, by first | exact .b _ | exact .t _⟩
theorem ok_builtin (F : Fits C k Φ X) {f : Str} {b : Bi} {e : Expr} {es : List Expr} {p pos : Pos} {fs : Env → Tree (List D)} (hb : biOf f = some b) (hm : C.bis.contains f = true) (hg : glB C.sc f = true) (hn : nm f = false) (hs : (e :: es).all notStar = true) (ha : PA X (e :: es) (tWs X.K fs)) :
    PE X (.Call (.Name f p) (e :: es) [] pos) (tE X.K fun ρ => do let ds ← fs ρ; dBi b ds) := by
  obtain ⟨h1, h2⟩ := biOf_boot hb
  exact (ok_bi F h2 h1 (bi_call F.room F.calm b) hm hg hn hs ha).imp fun σ H Q h => tCB_ws h
theorem Rw.ty {K : PySem.W.Frag} {W : Wo} {G H : Hp} {v : V} {d : D} (le : Same G H) (r : Rw K W G H v d) : TyX K H v (.type (typeN d)) := by
  cases d with
  | none => cases r with | s r => cases r; exact .base .non
  | bool b => obtain rfl := r.bl; exact .base (.bl b)
  | int i => obtain rfl := r.int; exact .base (.int i)
  | str x => obtain rfl := r.str; exact .base (.str x)
  | list xs => obtain ⟨a, vs, rfl, ha, q⟩ := r.lst le; exact .base (.lst ha)
  | tuple xs =>
    obtain ⟨a, vs, rfl, ha, q⟩ := r.tup
    rcases Same.sqT le ha with (h | ⟨o, h⟩) | ⟨o, its, n, h, hc, _⟩
    · exact .base (.tup h)
    · exact .fTuple h
    · exact .kTuple h hc
  | dict kvs => obtain ⟨a, ks, rfl, ha, q⟩ := r.dic le; exact .base (.dK ha)
def isaN (n ty : String) : Bool := n == ty || (ty == "int" && n == "bool")
theorem typeN_all {p : String → Bool} (h : ["NoneType", "bool", "int", "str", "list", "tuple", "dict"].all p = true) (d : D) : p (typeN d) = true := by
  rw [List.all_eq_true] at h
  refine h _ ?_
  cases d <;> simp [typeN]
theorem isa_kit {ty : String} (h : ["NoneType", "bool", "int", "str", "list", "tuple", "dict"].all (fun n => kitB n ty == some (isaN n ty)) = true) (K : PySem.W.Frag) (d : D) : PySem.W.kitOne K (.type (typeN d)) (.type ty) = some (isa d ty) :=
  kit_ty (eq_of_beq (typeN_all h d))
theorem tyOf_of {t : Str} {ty : String} (h : tyOf t = some ty) : bootBuiltins t = some (.type ty) ∧ ∀ (K : PySem.W.Frag) (d : D), PySem.W.kitOne K (.type (typeN d)) (.type ty) = some (isa d ty) := by
  have m : (t, ty) ∈ tyTab := PySem.mem_of_lookup h
  unfold tyTab at m
  simp only [List.mem_cons, List.not_mem_nil, or_false, Prod.mk.injEq] at m
  rcases m with ⟨rfl, rfl⟩ | ⟨rfl, rfl⟩ | ⟨rfl, rfl⟩ | ⟨rfl, rfl⟩ | ⟨rfl, rfl⟩
  · exact ⟨PyProof.Rows.boot_tuple, isa_kit (by decide +kernel)⟩
  · exact ⟨PyProof.Rows.boot_list, isa_kit (by decide +kernel)⟩
  · exact ⟨by decide +kernel, isa_kit (by decide +kernel)⟩
  · exact ⟨PyProof.Rows.boot_int, isa_kit (by decide +kernel)⟩
  · exact ⟨PyProof.Rows.boot_str, isa_kit (by decide +kernel)⟩
theorem ok_isa (F : Fits C k Φ X) {t : Str} {ty : String} {a : Expr} {p pt pos : Pos} {fa : Env → Tree D} (hm : C.bis.contains "isinstance" = true) (hg : glB C.sc "isinstance" = true) (hmt : C.bis.contains t = true) (hgt : glB C.sc t = true) (hnt : nm t = false) (ht : tyOf t = some ty) (hs : notStar a = true) (ha : PE X a (tW X.K fa)) :
    PE X (.Call (.Name "isinstance" p) [a, .Name t pt] [] pos) (tE X.K fun ρ => do let x ← fa ρ; .ret (.bool (isa x ty))) := by
  obtain ⟨h1, h2⟩ := tyOf_of ht
  have hall : [a, Expr.Name t pt].all notStar = true := by rw [List.all_cons, hs]; rfl
  have pa : PA X [a, .Name t pt] (tCons (tW X.K fa) (tCons (tC (.ty ty)) tNil)) := pa_cons ha (pa_cons (pe_bltn (F.gl hgt) (F.bis t hmt) h1 rfl (nm_of hnt).2.2 (nm_of hnt).1) pa_nil) (star_cons hs)
  refine (ok_bi F (.b "isinstance") PyProof.Rows.boot_isinstance call_isi hm hg (by decide +kernel) hall pa).imp fun σ H Q ⟨W, G0, H0, G, ρ, s, q⟩ => ?_
  exact ⟨W, G0, H0, G, ρ, s, (all_bind' q).mono fun d hd v G' H' g r => ⟨v, .ty ty, _, _, _, rfl, .ty ty, r.ty g.le, h2 X.K d, hd _ G' H' g (.bl _)⟩⟩
theorem meOf_of {m : Str} {f : Me} (h : meOf m = some f) : (m = "join" ∧ f = .join) ∨ (m = "count" ∧ f = .count) := by
  have q : (m, f) ∈ meTab := PySem.mem_of_lookup h
  unfold meTab at q
  simp only [List.mem_cons, List.not_mem_nil, or_false, Prod.mk.injEq] at q
  exact q
/-- a method of a text, by its operands -/
def rM (K : PySem.W.Frag) (g : D → List D → Tree D) : V → List V → Hp → VK → Prop := fun x xs H Q => ∃ W G d ds, Same G H ∧ Rw K W G H x d ∧ Rws K W G H xs ds ∧ (g d ds).All (Wn K W G H Q)
theorem rm_one {id : String} {g : D → D → Tree D} {f : Me} (h : MtR X id (rM1 X.K g)) (e : ∀ d a, dMe f d [a] = g d a) (e0 : ∀ d, dMe f d [] = .err) (e2 : ∀ d x y r, dMe f d (x :: y :: r) = .err) : MtR X id (rM X.K (dMe f)) := by
  intro pins s σ H x xs v us Q I rx rs ⟨W, G, d, ds, le, rd, rds, q⟩
  match ds, rds, q with
  | [], _, q => rw [e0] at q; exact q.elim
  | [a], rds, q =>
    obtain ⟨y, ey, ry⟩ := rds.one
    rw [e] at q
    exact h pins s σ H x xs v us Q I rx rs ⟨W, G, d, a, y, ey, le, rd, ry, q⟩
  | _ :: _ :: _, _, q => rw [e2] at q; exact q.elim
theorem tBM_of {f : Me} {fo : Env → Tree D} {fs : Env → Tree (List D)} {σ : L2.St} {H : Hp} {Q : VK} (hty : ∀ d, meOk f d = true → ∃ x, d = .str x) (h : tE X.K (fun ρ => do let x ← fo ρ; guard (meOk f x); let ds ← fs ρ; dMe f x ds) σ H Q) : tBM X.K "str" (rM X.K (dMe f)) (tW X.K fo) (tWs X.K fs) σ H Q := by
  obtain ⟨W, G0, H0, G, ρ, s, q⟩ := h
  refine ⟨W, G0, H0, G, ρ, s, (all_bind' q).mono fun d hd v G1 H1 g1 r1 => ?_⟩
  obtain ⟨hb, hd⟩ := all_guard hd
  obtain ⟨x, rfl⟩ := hty d hb
  have ev := r1.str
  refine ⟨by rw [ev]; rfl, W, G0, H0, G1, ρ, s.mono g1, (all_bind' hd).mono fun ds hs vs G2 H2 g2 r2 => ⟨W, G2, _, ds, g2.le, r1.mono g2, r2, hs.mono fun d2 h2 v2 G3 H3 g3 r3 => h2 v2 G3 H3 ((g1.trans g2).trans g3) r3⟩⟩
theorem ok_me {m : Str} {f : Me} {o e : Expr} {es : List Expr} {apos pos : Pos} {fo : Env → Tree D} {fs : Env → Tree (List D)} (hm : meOf m = some f) (hb : attributeBase o m X.env (eval o X.env) = eval o X.env) (hl : (apos.endLine == pos.line) = true) (hlen : es.length < 20) (hs : (e :: es).all notStar = true)
    (ho : PE X o (tW X.K fo)) (ha : PA X (e :: es) (tWs X.K fs)) : PE X (.Call (.Attribute o m apos) (e :: es) [] pos) (tE X.K fun ρ => do let x ← fo ρ; guard (meOk f x); let ds ← fs ρ; dMe f x ds) := by
  have hs' := hs
  rw [List.all_cons, Bool.and_eq_true] at hs
  have hfew : ((backTo pos (starEach (e :: es) X.env)).all (fun x => !x.1) && (backToKw pos (keywordEach [] X.env)).all (fun x => x.1.isSome) && decide ((e :: es).length + ([] : List Keyword).length + (if ([] : List Keyword).isEmpty then 0 else 1) < 30)) = true := by
    have h1 : (backTo pos (starEach (e :: es) X.env)).all (fun x => !x.1) = true := by
      have := no_star (env := X.env) (pos := pos) hs'
      rw [List.any_eq_false] at this
      rw [List.all_eq_true]
      intro x hx
      simpa using this x hx
    rw [h1]
    show (true && true && decide ((e :: es).length + 0 + 0 < 30)) = true
    rw [decide_eq_true]
    · rfl
    · rw [List.length_cons]; omega
  rcases meOf_of hm with ⟨rfl, rfl⟩ | ⟨rfl, rfl⟩
  · exact (pe_bm PySem.F.plainAttrs_str PySem.F.slot_str_join PySem.F.type_str_join (rm_one (f := .join) join_all (fun _ _ => rfl) (fun _ => rfl) (fun _ _ _ _ => rfl)) ho ha hb hfew hl (star_cons hs.1) (no_star hs.2)).imp fun σ H Q h => tBM_of (fun d hd => by cases d <;> first | exact ⟨_, rfl⟩ | exact Bool.noConfusion hd) h
  · exact (pe_bm PySem.F.plainAttrs_str PySem.F.slot_str_count PySem.F.type_str_count (rm_one (f := .count) count_all (fun _ _ => rfl) (fun _ => rfl) (fun _ _ _ _ => rfl)) ho ha hb hfew hl (star_cons hs.1) (no_star hs.2)).imp fun σ H Q h => tBM_of (fun d hd => by cases d <;> first | exact ⟨_, rfl⟩ | exact Bool.noConfusion hd) h
end
end Pd

namespace Pd
open PySem PySem.Spec L2
section
variable {W : Wo} {G H G' H' : Hp}
theorem Gr.put (g : Gr W G H G' H') (bo : BoxOk W H) {D : Addr} {o : HO} (hD : H D = none) (hG : G' D = none) : Gr W G H G' (upd H' D o) := by
  refine ⟨fun b u h n => ?_, g.g, fun b u h => ?_, g.sep, fun b h => ?_, fun bo' q hq => ?_⟩
  · rw [upd_ne (ne_of_none h hD)]; exact g.old b u h n
  · rw [upd_ne (ne_of_none h hG)]; exact g.le _ _ h
  · by_cases hb : b = D
    · subst hb; rw [upd_same]; simp
    · rw [upd_ne hb]; exact g.dom b h
  · obtain ⟨cs, x, y, h1, h2, h3, h4⟩ := bo q hq
    obtain ⟨cs', x', y', h1', h2', h3', h4'⟩ := g.box bo' q hq
    exact ⟨cs', x', y', h1', by rw [upd_ne (ne_of_none h2 hD)]; exact h2', by rw [upd_ne (ne_of_none h3 hD)]; exact h3', h4'⟩
theorem same_upd {D : Addr} {o : HO} (hG : G D = none) : Same G (upd G D o) := fun b u h => by rw [upd_ne (ne_of_none h hG)]; exact h
theorem Gr.fix (g : Gr W G H G' H') {D : Addr} {o : HO} (hD : H D = none) (hG : G' D = none) (hH : H' D = some o) : Gr W G H (upd G' D o) H' := by
  refine ⟨g.old, fun b u h => ?_, fun b u h => ?_, fun b h e => ?_, g.dom, g.box⟩
  · rw [upd_ne (ne_of_none (g.g _ _ h) hG)]; exact g.g _ _ h
  · by_cases hb : b = D
    · subst hb; rw [upd_same] at h; rw [← h]; exact hH
    · rw [upd_ne hb] at h; exact g.le _ _ h
  · have hb : b ≠ D := fun z => by subst z; exact h hD
    rw [upd_ne hb]; exact g.sep b h e
theorem same_none (le : Same G H) {D : Addr} (h : H D = none) : G D = none := by
  cases q : G D with
  | none => rfl
  | some u => rw [le _ _ q] at h; cases h
theorem not_box (bo : BoxOk W H) {D : Addr} (h : H D = none) : ¬ BoxA W D := by
  rintro ⟨p, e, z⟩
  obtain ⟨cs, x, y, _, h1, h2, _⟩ := bo p e
  rcases z with z | z
  · rw [z, h1] at h; cases h
  · rw [z, h2] at h; cases h
theorem wipe_get {σ : L2.St} {vs : List Nat} {i : Nat} (h : i ∈ vs) (hl : i < σ.length) : (wipe σ vs)[i]? = some none := by
  induction vs with
  | nil => cases h
  | cons v vs ih =>
    unfold wipe
    by_cases hv : v = i
    · subst hv
      rw [List.getElem?_set_self (by rw [wipe_length]; exact hl)]
    · rw [List.getElem?_set_ne hv]
      rcases List.mem_cons.mp h with e | e
      · exact absurd e.symm hv
      · exact ih e
theorem wipe_eq {σ σ2 : L2.St} {vs : List Nat} {ns : List Nat} (hn : ∀ i ∈ ns, i ∈ vs) (hl : σ2.length = (wipe σ vs).length) (he : ∀ i, i ∉ ns → σ2[i]? = (wipe σ vs)[i]?) : wipe σ2 vs = wipe σ vs := by
  refine List.ext_getElem? fun i => ?_
  by_cases h : i ∈ vs
  · rw [wipe_length] at hl
    by_cases hi : i < σ.length
    · rw [wipe_get h hi, wipe_get h (by rw [hl]; exact hi)]
    · rw [List.getElem?_eq_none (by rw [wipe_length]; omega), List.getElem?_eq_none (by rw [wipe_length]; omega)]
  · rw [wipe_out h, he i fun z => h (hn i z)]
end
def del (D : Addr) (H : Hp) : Hp := fun b => if b = D then none else H b
theorem del_same {D : Addr} {H : Hp} : del D H D = none := if_pos rfl
theorem del_ne {D b : Addr} {H : Hp} (h : b ≠ D) : del D H b = H b := if_neg h
def only (D : Addr) (H : Hp) : Hp := fun b => if b = D then H b else none
section
variable {W : Wo} {G H G' H' : Hp} {D : Addr}
theorem boxA_ne {p : Addr × Addr} (e : W = some p) (nb : ¬ BoxA W D) : p.1 ≠ D ∧ p.2 ≠ D := ⟨fun z => nb ⟨p, e, .inl z.symm⟩, fun z => nb ⟨p, e, .inr z.symm⟩⟩
theorem BoxOk.del (bo : BoxOk W H) (nb : ¬ BoxA W D) : BoxOk W (del D H) := fun p e => by
  obtain ⟨cs, x, y, h1, h2, h3, h4⟩ := bo p e
  obtain ⟨n1, n2⟩ := boxA_ne e nb
  exact ⟨cs, x, y, h1, by rw [del_ne n1]; exact h2, by rw [del_ne n2]; exact h3, h4⟩
theorem BoxOk.undel (bo : BoxOk W (Pd.del D H)) (nb : ¬ BoxA W D) : BoxOk W H := fun p e => by
  obtain ⟨cs, x, y, h1, h2, h3, h4⟩ := bo p e
  obtain ⟨n1, n2⟩ := boxA_ne e nb
  rw [del_ne n1] at h2
  rw [del_ne n2] at h3
  exact ⟨cs, x, y, h1, h2, h3, h4⟩
theorem Gr.del (g : Gr W G H G' H') (hD : H D = none) (hG : G' D = none) (nb : ¬ BoxA W D) : Gr W G H G' (Pd.del D H') := by
  have ne : ∀ {b}, H b ≠ none → b ≠ D := fun h z => by subst z; exact h hD
  refine ⟨fun b u h n => ?_, g.g, fun b u h => ?_, g.sep, fun b h => ?_, fun bo => (g.box bo).del nb⟩
  · rw [del_ne (ne (by rw [h]; simp))]; exact g.old b u h n
  · rw [del_ne (ne_of_none h hG)]; exact g.le _ _ h
  · rw [del_ne (ne h)]; exact g.dom b h
theorem Gr.undel (le : Same G H) (hG : G D = none) (nb : ¬ BoxA W D) : Gr W G (Pd.del D H) G H := by
  have ne : ∀ {b}, Pd.del D H b ≠ none → b ≠ D ∧ H b ≠ none := fun {b} h => by
    by_cases z : b = D
    · subst z; exact absurd del_same h
    · rw [del_ne z] at h; exact ⟨z, h⟩
  refine ⟨fun b u h n => ?_, Same.refl G, le, fun b h e => e, fun b h => (ne h).2, fun bo => bo.undel nb⟩
  obtain ⟨n1, _⟩ := ne (b := b) (by rw [h]; simp)
  rw [del_ne n1] at h
  exact h
theorem gr_only {o : HO} (le : Same G H) (bo : BoxOk W H) (eG : G D = none) (eH : H D = some o) : Gr W (fun _ => none) (only D H) G H := by
  have on : ∀ {b}, only D H b ≠ none → b = D := fun {b} h => by
    by_cases z : b = D
    · exact z
    · exact absurd (if_neg z) h
  refine ⟨fun b u h _ => ?_, fun b u h => (by cases h), le, fun b h _ => ?_, fun b h => ?_, fun _ => bo⟩
  · have z := on (b := b) (by rw [h]; simp)
    subst z
    rw [← h]
    exact (if_pos rfl).symm
  · rw [on h]; exact eG
  · rw [on h, eH]; simp
variable {K : PySem.W.Frag} {G0 H0 G1 H1 : Hp} {σ : L2.St} {ρ : Env}
theorem SR.rebase {o : HO} (s : SR K W G0 H0 σ G1 H1 ρ) (hD : H1 D = none) (g : Gr W G1 H1 G H) (eG : G D = none) (eH : H D = some o) : SR K W (fun _ => none) (only D H) σ G H ρ := by
  have s' := s.mono g
  refine ⟨gr_only s'.le s'.box eG eH, s'.box, s'.nob, s'.len, fun i b h => ?_, s'.apart⟩
  obtain ⟨v, e, r⟩ := s.slot i b h
  refine ⟨v, e, ?_⟩
  have r' := r.mono g
  cases r with
  | v q => exact .v (q.mono g.g)
  | l h2 oa q => exact .l (g.old _ _ h2 oa.b) ⟨g.sep _ (by rw [h2]; simp) oa.g, if_neg (ne_of_none h2 hD), oa.b⟩ (q.mono g.g)
  | d h2 oa q => exact .d (g.old _ _ h2 oa.b) ⟨g.sep _ (by rw [h2]; simp) oa.g, if_neg (ne_of_none h2 hD), oa.b⟩ (q.mono g.g)
  | box z => exact .box z
theorem SR.over {o o' : HO} (s : SR K W (fun _ => none) (only D H0) σ G H ρ) (h0 : H0 D = some o) (nb : ¬ BoxA W D) (g : Gr W G (Pd.del D H) G' H') (eG : G' D = none) (eH : H' D = some o') : SR K W (fun _ => none) (only D H') σ G' H' ρ := by
  have bo := g.box (s.box.del nb)
  have nD : ∀ {p : Addr}, only D H0 p = none → p ≠ D := fun {p} h z => by
    subst z
    unfold only at h
    rw [if_pos rfl, h0] at h
    cases h
  refine ⟨gr_only g.le bo eG eH, bo, fun b hb => g.sep b ?_ (s.nob b hb), s.len, fun i b h => ?_, s.apart⟩
  · obtain ⟨p, e, z⟩ := hb
    obtain ⟨cs, x, y, _, h1, h2, _⟩ := s.box p e
    obtain ⟨n1, n2⟩ := boxA_ne e nb
    rcases z with z | z
    · rw [z, del_ne n1, h1]; simp
    · rw [z, del_ne n2, h2]; simp
  · obtain ⟨v, e, r⟩ := s.slot i b h
    refine ⟨v, e, ?_⟩
    cases r with
    | v r => exact .v (r.mono g.g)
    | l h' oa r' =>
      have ne := nD oa.h0
      have h2 := (del_ne (H := H) ne).trans h'
      exact .l (g.old _ _ h2 oa.b) ⟨g.sep _ (by rw [h2]; simp) oa.g, if_neg ne, oa.b⟩ (r'.mono g.g)
    | d h' oa r' =>
      have ne := nD oa.h0
      have h2 := (del_ne (H := H) ne).trans h'
      exact .d (g.old _ _ h2 oa.b) ⟨g.sep _ (by rw [h2]; simp) oa.g, if_neg ne, oa.b⟩ (r'.mono g.g)
    | box z => exact .box z
end
section
variable {K : PySem.W.Frag}
theorem tN_of {f : Env → Tree D} {σ : L2.St} {H : Hp} {Q : VK} (h : tE K f σ H Q) : tN K f σ H Q := by
  obtain ⟨W, G0, H0, G, ρ, s, q⟩ := h
  refine ⟨W, G0, H0, G, ρ, s, q.mono fun d hd p G' H' g h1 h2 o => ?_⟩
  cases d with
  | list ds =>
    obtain ⟨vs, h3, r⟩ := o
    exact hd _ _ _ (g.fix h1 h2 h3) (.lst (upd_same ..) (r.mono (same_upd h2)))
  | dict kvs =>
    obtain ⟨ks, h3, r⟩ := o
    exact hd _ _ _ (g.fix h1 h2 h3) (.dic (upd_same ..) (r.mono (same_upd h2)))
  | _ => exact False.elim o
theorem dom_none {W : Wo} {G H G' H' : Hp} (g : Gr W G H G' H') {D : Addr} (h : H' D = none) : H D = none := by
  cases q : H D with
  | none => rfl
  | some u => exact absurd h (g.dom D (by rw [q]; simp))
theorem tLc_of {it : Env → Tree (List D)} {t : T} {vs : List Nat} {tt : Env → Tree Bool} {el : Env → Tree D} (hn : ∀ i ∈ t.names, i ∈ vs) {σ : L2.St} {H : Hp} {Q : VK}
    (h : tN K (fun ρ => do let xs ← it ρ; guard (decide (xs.length ≤ lim)); let ys ← lcD (fun x => do let ρ' ← bindT t x (wip ρ vs); let k ← tt ρ'; if k then let y ← el ρ'; .ret (some y) else .ret none) xs; .ret (.list ys)) σ H Q) :
    tLc (tI K it) (gT K t) (tT K tt) (tE K el) vs σ H Q := by
  obtain ⟨W, G0, H0, G, ρ, s, q⟩ := h
  refine ⟨W, G0, H0, G, ρ, s, (all_bind' q).mono fun xs hx J G1 H1 g1 jd D hD => ?_⟩
  obtain ⟨hb, hx⟩ := all_guard hx
  have hb : xs.length ≤ sizeLine := by rw [← lim_eq]; exact of_decide_eq_true hb
  have hx := all_bind' hx
  have s1 := s.mono g1
  have hG := same_none g1.le hD
  have nb := not_box s1.box hD
  refine ⟨fun i m Hi => m = xs.length - i ∧ i ≤ xs.length ∧ ∃ Gi acc ys, Gr W G1 H1 Gi Hi ∧ Gi D = none ∧ Hi D = some (.lst acc) ∧ acc.length ≤ i ∧ Rps K Gi acc ys ∧
    (lcD (fun x => do let ρ' ← bindT t x (Pd.wip ρ vs); let k ← tt ρ'; if k then let y ← el ρ'; .ret (some y) else .ret none) (xs.drop i)).All fun zs => ∀ p G' H', Gr W G H G' H' → H p = none → G' p = none → OwnV K G' H' p (.list (ys ++ zs)) → Q (.ref p) H',
    ⟨_, rfl, Nat.zero_le _, G1, [], [], (Gr.refl g1.le).put s1.box hD hG, hG, upd_same .., Nat.le_refl _, .nil, hx⟩, ?_⟩
  rintro i m Hi ⟨rfl, hi, Gi, acc, ys, gi, eG, eH, hl, ra, hx⟩
  by_cases hlt : i < xs.length
  · obtain ⟨go, yl⟩ := (jd Gi Hi gi.g gi.le i).2 xs[i] (by simp [hlt])
    refine .inr ⟨go, fun H' => i < xs.length ∧ ∃ Gi acc ys, Gr W G1 H1 Gi H' ∧ Gi D = none ∧ H' D = some (.lst acc) ∧ acc.length ≤ i + 1 ∧ Rps K Gi acc ys ∧
      (lcD (fun x => do let ρ' ← bindT t x (Pd.wip ρ vs); let k ← tt ρ'; if k then let y ← el ρ'; .ret (some y) else .ret none) (xs.drop (i + 1))).All fun zs => ∀ p G' H', Gr W G H G' H' → H p = none → G' p = none → OwnV K G' H' p (.list (ys ++ zs)) → Q (.ref p) H',
      fun H' p' => ⟨xs.length - (i + 1), by omega, rfl, p'⟩, fun x H' y => ?_⟩
    obtain ⟨G3, g3, r3⟩ := yl x H' y
    rw [List.drop_eq_getElem_cons hlt] at hx
    have hx := all_bind' (all_bind' hx)
    have g13 := gi.trans g3
    refine ⟨W, G0, H0, G3, Pd.wip ρ vs, xs[i], (s1.mono g13).wip vs, r3, hx.mono fun ρ2 hx σ2 sr2 hl2 he2 => ⟨wipe_eq hn hl2 he2, ?_⟩⟩
    refine ⟨W, G0, H0, G3, ρ2, sr2, (all_bind' hx).mono fun b hx G4 H4 g4 => ?_⟩
    have g14 := g13.trans g4
    have gi4 := g3.trans g4
    cases b with
    | false => exact ⟨hlt, G4, acc, ys, g14, gi4.sep D (by rw [eH]; simp) eG, gi4.old _ _ eH nb, by omega, ra.mono gi4.g, hx⟩
    | true =>
      have hx := all_bind' hx
      refine ⟨W, G0, H0, G4, ρ2, sr2.mono g4, hx.mono fun d hx y G5 H5 g5 r5 => ?_⟩
      have gi5 := gi4.trans g5
      have eG5 := gi5.sep D (by rw [eH]; simp) eG
      refine ⟨acc, gi5.old _ _ eH nb, by omega, hlt, G5, acc ++ [y], ys ++ [d], (gi.trans gi5).put s1.box hD eG5, eG5, upd_same .., by rw [List.length_append]; simp; omega, (ra.mono gi5.g).append (.cons r5 .nil), (all_bind' hx).mono fun zs hz p G' H' g z1 z2 r => hz p G' H' g z1 z2 ?_⟩
      rw [List.append_assoc] at r
      exact r
  · have e : i = xs.length := by omega
    subst e
    rw [List.drop_length] at hx
    refine .inl ⟨((jd Gi Hi gi.g gi.le _).1 (Nat.le_refl _)), hx D Gi Hi (g1.trans gi) (dom_none g1 hD) eG ?_⟩
    rw [List.append_nil]
    exact ⟨acc, eH, ra⟩
theorem tDc_of {it : Env → Tree (List D)} {t : T} {vs : List Nat} {tt : Env → Tree Bool} {kf el : Env → Tree D} (hn : ∀ i ∈ t.names, i ∈ vs) {σ : L2.St} {H : Hp} {Q : VK}
    (h : tN K (fun ρ => do let xs ← it ρ; guard (decide (xs.length ≤ lim)); let ps ← lcD (fun x => do let ρ' ← bindT t x (wip ρ vs); let b ← tt ρ'; if b then let kd ← kf ρ'; let vd ← el ρ'; guard (isKey kd); .ret (some (kd, vd)) else .ret none) xs; .ret (.dict (putAll [] ps))) σ H Q) :
    tDc (tI K it) (gT K t) (tT K tt) (tE K kf) (tE K el) vs σ H Q := by
  obtain ⟨W, G0, H0, G, ρ, s, q⟩ := h
  refine ⟨W, G0, H0, G, ρ, s, (all_bind' q).mono fun xs hx J G1 H1 g1 jd D hD => ?_⟩
  obtain ⟨hb, hx⟩ := all_guard hx
  have hb : xs.length ≤ sizeLine := by rw [← lim_eq]; exact of_decide_eq_true hb
  have hx := all_bind' hx
  have s1 := s.mono g1
  have hG := same_none g1.le hD
  have nb := not_box s1.box hD
  refine ⟨fun i m Hi => m = xs.length - i ∧ i ≤ xs.length ∧ ∃ Gi acc ys, Gr W G1 H1 Gi Hi ∧ Gi D = none ∧ Hi D = some (.dK acc) ∧ acc.length ≤ i ∧ Rpk K Gi acc ys ∧
    (lcD (fun x => do let ρ' ← bindT t x (Pd.wip ρ vs); let b ← tt ρ'; if b then let kd ← kf ρ'; let vd ← el ρ'; guard (isKey kd); .ret (some (kd, vd)) else .ret none) (xs.drop i)).All fun zs => ∀ p G' H', Gr W G H G' H' → H p = none → G' p = none → OwnV K G' H' p (.dict (putAll ys zs)) → Q (.ref p) H',
    ⟨_, rfl, Nat.zero_le _, G1, [], [], (Gr.refl g1.le).put s1.box hD hG, hG, upd_same .., Nat.le_refl _, .nil, hx⟩, ?_⟩
  rintro i m Hi ⟨rfl, hi, Gi, acc, ys, gi, eG, eH, hl, ra, hx⟩
  by_cases hlt : i < xs.length
  · obtain ⟨go, yl⟩ := (jd Gi Hi gi.g gi.le i).2 xs[i] (by simp [hlt])
    refine .inr ⟨go, fun H' => i < xs.length ∧ ∃ Gi acc ys, Gr W G1 H1 Gi H' ∧ Gi D = none ∧ H' D = some (.dK acc) ∧ acc.length ≤ i + 1 ∧ Rpk K Gi acc ys ∧
      (lcD (fun x => do let ρ' ← bindT t x (Pd.wip ρ vs); let b ← tt ρ'; if b then let kd ← kf ρ'; let vd ← el ρ'; guard (isKey kd); .ret (some (kd, vd)) else .ret none) (xs.drop (i + 1))).All fun zs => ∀ p G' H', Gr W G H G' H' → H p = none → G' p = none → OwnV K G' H' p (.dict (putAll ys zs)) → Q (.ref p) H',
      fun H' p' => ⟨xs.length - (i + 1), by omega, rfl, p'⟩, fun x H' y => ?_⟩
    obtain ⟨G3, g3, r3⟩ := yl x H' y
    rw [List.drop_eq_getElem_cons hlt] at hx
    have hx := all_bind' (all_bind' hx)
    have g13 := gi.trans g3
    refine ⟨W, G0, H0, G3, Pd.wip ρ vs, xs[i], (s1.mono g13).wip vs, r3, hx.mono fun ρ2 hx σ2 sr2 hl2 he2 => ⟨wipe_eq hn hl2 he2, ?_⟩⟩
    refine ⟨W, G0, H0, G3, ρ2, sr2, (all_bind' hx).mono fun b hx G4 H4 g4 => ?_⟩
    have g14 := g13.trans g4
    have gi4 := g3.trans g4
    cases b with
    | false => exact ⟨hlt, G4, acc, ys, g14, gi4.sep D (by rw [eH]; simp) eG, gi4.old _ _ eH nb, by omega, ra.mono gi4.g, hx⟩
    | true =>
      have hx := all_bind' hx
      refine ⟨W, G0, H0, G4, ρ2, sr2.mono g4, hx.mono fun kd hx ky G5 H5 g5 r5 => ?_⟩
      have hx := all_bind' hx
      refine ⟨W, G0, H0, G5, ρ2, (sr2.mono g4).mono g5, hx.mono fun d hx y G6 H6 g6 r6 => ?_⟩
      obtain ⟨hk, hx⟩ := all_guard hx
      obtain ⟨kk, rfl, rfl⟩ := kV_kD r5 hk
      have gi6 := (gi4.trans g5).trans g6
      have eG6 := gi6.sep D (by rw [eH]; simp) eG
      have hlp := length_putK acc kk y
      refine ⟨acc, kk, rfl, gi6.old _ _ eH nb, by omega, hlt, G6, putK acc kk y, putD (kD kk) d ys, (gi.trans gi6).put s1.box hD eG6, eG6, upd_same .., by omega, put_rel r6 (ra.mono gi6.g), (all_bind' hx).mono fun zs hz p G' H' g z1 z2 r => hz p G' H' g z1 z2 r⟩
  · have e : i = xs.length := by omega
    subst e
    rw [List.drop_length] at hx
    exact .inl ⟨((jd Gi Hi gi.g gi.le _).1 (Nat.le_refl _)), hx D Gi Hi (g1.trans gi) (dom_none g1 hD) eG ⟨acc, eH, ra⟩⟩
theorem tLc2_of {it it1 : Env → Tree (List D)} {t t1 : T} {vs vs1 : List Nat} {tt tt1 : Env → Tree Bool} {el : Env → Tree D} (hn : ∀ i ∈ t.names, i ∈ vs) (hn1 : ∀ i ∈ t1.names, i ∈ vs1) {σ : L2.St} {H : Hp} {Q : VK}
    (h : tN K (fun ρ => do
      let xs ← it ρ
      guard (decide (xs.length ≤ 4096))
      let ys ← lcD2 (fun x => do
        let ρ' ← bindT t x (wip ρ vs)
        let k ← tt ρ'
        if k then
          let xs1 ← it1 ρ'
          guard (decide (xs1.length ≤ 4096))
          lcD (fun x1 => do
            let ρ2 ← bindT t1 x1 (wip ρ' vs1)
            let k1 ← tt1 ρ2
            if k1 then let y ← el ρ2; .ret (some y) else .ret none) xs1
        else .ret []) xs
      .ret (.list ys)) σ H Q) :
    tLc2 (tI K it) (gT K t) (tT K tt) (tI K it1) (gT K t1) (tT K tt1) (tE K el) vs vs1 σ H Q := by
  obtain ⟨W, G0, H0, G, ρ, s, q⟩ := h
  refine ⟨W, G0, H0, G, ρ, s, (all_bind' q).mono fun xs hx J G1 H1 g1 jd D hD => ?_⟩
  obtain ⟨hb, hx⟩ := all_guard hx
  have hb : xs.length ≤ 4096 := of_decide_eq_true hb
  have hx := all_bind' hx
  have s1 := s.mono g1
  have hG := same_none g1.le hD
  have nb := not_box s1.box hD
  generalize hf : (fun x => do
        let ρ' ← bindT t x (Pd.wip ρ vs)
        let k ← tt ρ'
        if k = true then
          let xs1 ← it1 ρ'
          guard (decide (xs1.length ≤ 4096))
          lcD (fun x1 => do
            let ρ2 ← bindT t1 x1 (Pd.wip ρ' vs1)
            let k1 ← tt1 ρ2
            if k1 = true then let y ← el ρ2; Tree.ret (some y) else Tree.ret none) xs1
        else Tree.ret []) = f at hx
  refine ⟨fun i m Hi => m = xs.length - i ∧ i ≤ xs.length ∧ ∃ Gi acc ys, Gr W G1 H1 Gi Hi ∧ Gi D = none ∧ Hi D = some (.lst acc) ∧ acc.length ≤ i * 4096 ∧ Rps K Gi acc ys ∧
    (lcD2 f (xs.drop i)).All fun zs => ∀ p G' H', Gr W G H G' H' → H p = none → G' p = none → OwnV K G' H' p (.list (ys ++ zs)) → Q (.ref p) H',
    ⟨_, rfl, Nat.zero_le _, G1, [], [], (Gr.refl g1.le).put s1.box hD hG, hG, upd_same .., Nat.zero_le _, .nil, hx⟩, ?_⟩
  rintro i m Hi ⟨rfl, hi, Gi, acc, ys, gi, eG, eH, hl, ra, hx⟩
  by_cases hlt : i < xs.length
  · obtain ⟨go, yl⟩ := (jd Gi Hi gi.g gi.le i).2 xs[i] (by simp [hlt])
    refine .inr ⟨go, fun H' => i < xs.length ∧ ∃ Gi acc ys, Gr W G1 H1 Gi H' ∧ Gi D = none ∧ H' D = some (.lst acc) ∧ acc.length ≤ (i + 1) * 4096 ∧ Rps K Gi acc ys ∧
      (lcD2 f (xs.drop (i + 1))).All fun zs => ∀ p G' H', Gr W G H G' H' → H p = none → G' p = none → OwnV K G' H' p (.list (ys ++ zs)) → Q (.ref p) H',
      fun H' p' => ⟨xs.length - (i + 1), by omega, rfl, p'⟩, fun x H' y => ?_⟩
    obtain ⟨G3, g3, r3⟩ := yl x H' y
    rw [List.drop_eq_getElem_cons hlt] at hx
    have hx : (f xs[i] >>= fun zs => lcD2 f (xs.drop (i + 1)) >>= fun ws => Tree.ret (zs ++ ws)).All _ := hx
    have hx := all_bind' hx
    rw [← hf] at hx
    have hx := all_bind' hx
    rw [hf] at hx
    have g13 := gi.trans g3
    have eG3 := g3.sep D (by rw [eH]; simp) eG
    have eH3 := g3.old _ _ eH nb
    refine ⟨W, _, _, G3, Pd.wip ρ vs, xs[i], (s1.rebase hD g13 eG3 eH3).wip vs, r3, hx.mono fun ρ2 hx σ2 sr2 hl2 he2 => ⟨wipe_eq hn hl2 he2, ?_⟩⟩
    refine ⟨W, _, _, G3, ρ2, sr2, (all_bind' hx).mono fun b hx G4 H4 g4 => ?_⟩
    have g14 := g13.trans g4
    have gi4 := g3.trans g4
    cases b with
    | false => exact ⟨hlt, G4, acc, ys, g14, gi4.sep D (by rw [eH]; simp) eG, gi4.old _ _ eH nb, by omega, ra.mono gi4.g, (all_bind' hx).mono fun zs h => h⟩
    | true =>
      have hx := all_bind' hx
      refine ⟨W, _, _, G4, ρ2, sr2.mono g4, hx.mono fun xs1 hx J1 G5 H5 g5 jd1 => ?_⟩
      obtain ⟨hb1, hx⟩ := all_guard hx
      have hb1 : xs1.length ≤ 4096 := of_decide_eq_true hb1
      have g15 := g14.trans g5
      have sr5 := (sr2.mono g4).mono g5
      have gi5 := gi4.trans g5
      have eG5 := gi5.sep D (by rw [eH]; simp) eG
      have eH5 := gi5.old _ _ eH nb
      have g1d := g15.del hD eG5 nb
      generalize hf1 : (fun x1 => do
            let ρ3 ← bindT t1 x1 (Pd.wip ρ2 vs1)
            let k1 ← tt1 ρ3
            if k1 = true then let y ← el ρ3; Tree.ret (some y) else Tree.ret none) = f1 at hx
      refine ⟨fun j m Hj => m = xs1.length - j ∧ j ≤ xs1.length ∧ ∃ Gj acc ys, Gr W G5 (del D H5) Gj Hj ∧ Gj D = none ∧ Hj D = some (.lst acc) ∧ acc.length ≤ i * 4096 + j ∧ Rps K Gj acc ys ∧
        (lcD f1 (xs1.drop j)).All fun zs => (lcD2 f (xs.drop (i + 1))).All fun ws => ∀ p G' H', Gr W G H G' H' → H p = none → G' p = none → OwnV K G' H' p (.list (ys ++ (zs ++ ws))) → Q (.ref p) H',
        ⟨_, rfl, Nat.zero_le _, G5, acc, ys, Gr.undel g5.le eG5 nb, eG5, eH5, by omega, ra.mono gi5.g, hx.mono fun zs h => (all_bind' h).mono fun ws h => h⟩, ?_⟩
      rintro j m Hj ⟨rfl, hj, Gj, acc, ys, gj, eGj, eHj, hl, ra, hx⟩
      have g1j := g1d.trans gj
      by_cases hlj : j < xs1.length
      · obtain ⟨go, yl⟩ := (jd1 Gj Hj gj.g gj.le j).2 xs1[j] (by simp [hlj])
        refine .inr ⟨go, fun H' => j < xs1.length ∧ ∃ Gj acc ys, Gr W G5 (del D H5) Gj H' ∧ Gj D = none ∧ H' D = some (.lst acc) ∧ acc.length ≤ i * 4096 + (j + 1) ∧ Rps K Gj acc ys ∧
          (lcD f1 (xs1.drop (j + 1))).All fun zs => (lcD2 f (xs.drop (i + 1))).All fun ws => ∀ p G' H', Gr W G H G' H' → H p = none → G' p = none → OwnV K G' H' p (.list (ys ++ (zs ++ ws))) → Q (.ref p) H',
          fun H' p' => ⟨xs1.length - (j + 1), by omega, rfl, p'⟩, fun x H' y => ?_⟩
        obtain ⟨G6, g6, r6⟩ := yl x H' y
        rw [List.drop_eq_getElem_cons hlj] at hx
        have hx := all_bind' hx
        rw [← hf1] at hx
        have hx := all_bind' hx
        rw [hf1] at hx
        have gj6 := gj.trans g6
        have eG6 := g6.sep D (by rw [eHj]; simp) eGj
        have eH6 := g6.old _ _ eHj nb
        refine ⟨W, _, _, G6, Pd.wip ρ2 vs1, xs1[j], (SR.over sr5 eH3 nb gj6 eG6 eH6).wip vs1, r6, hx.mono fun ρ3 hx σ3 sr3 hl3 he3 => ⟨wipe_eq hn1 hl3 he3, ?_⟩⟩
        refine ⟨W, _, _, G6, ρ3, sr3, (all_bind' hx).mono fun b hx G7 H7 g7 => ?_⟩
        have gj7 := g6.trans g7
        cases b with
        | false => exact ⟨hlj, G7, acc, ys, gj6.trans g7, gj7.sep D (by rw [eHj]; simp) eGj, gj7.old _ _ eHj nb, by omega, ra.mono gj7.g, hx⟩
        | true =>
          have hx := all_bind' hx
          refine ⟨W, _, _, G7, ρ3, sr3.mono g7, hx.mono fun d hx y G8 H8 g8 r8 => ?_⟩
          have gj8 := gj7.trans g8
          have eG8 := gj8.sep D (by rw [eHj]; simp) eGj
          have sz : sizeLine = 16777216 := lim_eq.symm
          refine ⟨acc, gj8.old _ _ eHj nb, by omega, hlj, G8, acc ++ [y], ys ++ [d], (gj.trans gj8).put (sr5.box.del nb) del_same eG8, eG8, upd_same .., by rw [List.length_append]; simp; omega, (ra.mono gj8.g).append (.cons r8 .nil), (all_bind' hx).mono fun zs hz => Tree.All.mono (show (lcD2 f (xs.drop (i + 1))).All (fun ws => ∀ p G' H', Gr W G H G' H' → H p = none → G' p = none → OwnV K G' H' p (.list (ys ++ ((d :: zs) ++ ws))) → Q (.ref p) H') from hz) fun ws hw p G' H' g z1 z2 r => hw p G' H' g z1 z2 ?_⟩
          rw [List.append_assoc] at r
          exact r
      · have e : j = xs1.length := by omega
        subst e
        rw [List.drop_length] at hx
        exact .inl ⟨(jd1 Gj Hj gj.g gj.le _).1 (Nat.le_refl _), hlt, Gj, acc, ys, g1j, eGj, eHj, by omega, ra, hx⟩
  · have e : i = xs.length := by omega
    subst e
    rw [List.drop_length] at hx
    refine .inl ⟨((jd Gi Hi gi.g gi.le _).1 (Nat.le_refl _)), hx D Gi Hi (g1.trans gi) (dom_none g1 hD) eG ?_⟩
    rw [List.append_nil]
    exact ⟨acc, eH, ra⟩
end
end Pd

namespace Pd
open PySem PySem.Spec PyProof.Rows L2
theorem adjust_rev (n : Nat) : Builtin.Slice.sliceAdjust none none (-1) (n : Int) = ((n : Int) - 1, -1) := by
  unfold Builtin.Slice.sliceAdjust
  simp
theorem places_rev (n : Nat) : Builtin.Slice.slicePlaces ((n : Int) - 1) (-1) (-1) = n := by
  unfold Builtin.Slice.slicePlaces
  simp
  try omega
theorem range_rev (n : Nat) : (List.range n).map (fun k => n - 1 - k) = (List.range n).reverse := by
  apply List.ext_getElem
  · simp
  · intro i h1 h2
    simp
theorem fm_congr {α β : Type} {f g : α → Option β} : ∀ {l : List α}, (∀ x ∈ l, f x = g x) → l.filterMap f = l.filterMap g
  | [], _ => rfl
  | x :: l, h => by
    rw [List.filterMap_cons, List.filterMap_cons, h x List.mem_cons_self, fm_congr fun y hy => h y (List.mem_cons_of_mem _ hy)]
theorem pick_rev (xs : Array Value) : ((List.range xs.size).filterMap fun (m : Nat) => xs[(((xs.size : Int) - 1) + (m : Int) * -1).toNat]?).toArray = xs.toList.reverse.toArray := by
  congr 1
  have e : ((List.range xs.size).filterMap fun (m : Nat) => xs[(((xs.size : Int) - 1) + (m : Int) * -1).toNat]?) = ((List.range xs.size).map fun k => xs.size - 1 - k).filterMap (xs[·]?) := by
    rw [List.filterMap_map]
    refine fm_congr fun m hm => ?_
    have hm := List.mem_range.mp hm
    have : (((xs.size : Int) - 1) + (m : Int) * -1).toNat = xs.size - 1 - m := by omega
    rw [this]
    rfl
  rw [e, range_rev, List.filterMap_reverse, PySem.W.krv_all]
section
variable {prog : Program} {w : World} {A : Around} {E : Value → Shared → Prop} {s : Shared}
theorem sliceApplied_rev {sl : Addr} {vs : Value} {n : Nat} {Q : Int × Int × Nat → Shared → Prop} (hs : s.heap.IsSliceOf sl .none .none vs) (ps : IsPart vs (some (-1)))
    (h : Q ((n : Int) - 1, -1, n) s) : wpAny (model prog w) A (Builtin.Slice.sliceApplied (.ref sl) (pure (n : Int))) Q E s := by
  obtain ⟨os, hos, hcs, hds⟩ := id hs
  unfold Builtin.Slice.sliceApplied Builtin.Slice.sliceFields
  refine wpAny_bind (wpAny_bind (wpAny_field hos hds (x := .none) rfl (wpAny_bind (wpAny_field hos hds (x := .none) rfl (wpAny_bind (wpAny_field hos hds (x := vs) rfl (wpAny_pure ?_)))))))
  refine wpAny_bind (HT.slicePart_ ps ?_)
  show wpAny _ _ (if ((-1 : Int) == 0) = true then _ else _) _ _ s
  rw [if_neg (by decide)]
  refine wpAny_bind (HT.slicePart_ .none (wpAny_bind (HT.slicePart_ .none (wpAny_bind (wpAny_pure ?_)))))
  show wpAny _ _ (match Builtin.Slice.sliceAdjust none none (-1) (n : Int) with | (lo, hi) => pure (lo, (-1 : Int), Builtin.Slice.slicePlaces lo hi (-1))) _ _ s
  rw [adjust_rev]
  show wpAny _ _ (pure ((n : Int) - 1, (-1 : Int), Builtin.Slice.slicePlaces ((n : Int) - 1) (-1) (-1))) _ _ s
  rw [places_rev]
  exact wpAny_pure h
theorem getItem_tuple_rev {t sl : Addr} {items : Array Value} {vs : Value} {Q : Value → Shared → Prop} (ht : IsTup s.heap t items) (hs : s.heap.IsSliceOf sl .none .none vs) (ps : IsPart vs (some (-1)))
    (h : Q (.ref s.heap.objs.size) { s with heap := s.heap.push { cls := .type "tuple", data := .seq items.toList.reverse.toArray } }) (hsz : items.size ≤ sizeLine) : wpAny (model prog w) A (getItem (.ref t) (.ref sl)) Q E s := by
  have hz : sizeOk (.seq items.toList.reverse.toArray) := by
    show items.toList.reverse.toArray.size ≤ sizeLine
    rw [List.size_toArray, List.length_reverse, Array.length_toList]
    exact hsz
  obtain ⟨os, hos, hcs, hds⟩ := id hs
  have hTs : s.TypeIs (.ref sl) "slice" := ⟨os, hos, hcs⟩
  unfold getItem
  try with_reducible refine wpAny_holding ?_
  first | refine wpAny_bind (wpAny_pure ?_) | skip
  refine wpAny_bind (wpAny_sequenceKey ht.typeIs (by decide) ?_)
  refine wpAny_bind (wpAny_callSpecial?_slot (name := Str.ofString "__getitem__") ht.typeIs PyProof.Rows.slot_tuple_getitem
    (wpAny_call_entry PyProof.Rows.slot_tuple_getitem ht.typeIs entry_tuple_getitem ?_ (args_tuple_getitem _ _)))
  show wpAny _ _ (Builtin.Tuple.tupleItemsOf (.ref t) >>= _) _ _ s
  refine wpAny_bind (tupleItemsOf_ ht ?_)
  refine wpAny_bind (wpAny_typeOf hTs ?_)
  rw [if_pos (by decide)]
  refine wpAny_bind (sliceApplied_rev hs ps ?_)
  have hno : ¬ (((((items.size : Int) - 1) == 0 && (-1 : Int) == 1 && items.size == items.size)) = true) := by
    intro q
    rw [Bool.and_eq_true, Bool.and_eq_true] at q
    exact absurd q.1.2 (by decide)
  show wpAny _ _ (if (((items.size : Int) - 1) == 0 && (-1 : Int) == 1 && items.size == items.size) = true then _ else _) _ _ s
  rw [if_neg hno, pick_rev]
  first
    | exact wpAny_bind (m := Builtin.Tuple.tupleExact _) (wpAny_newObj_type (wpAny_pure ⟨_, rfl, wpAny_pure h⟩) hz)
    | exact wpAny_bind (m := Builtin.Tuple.tupleExact _) (wpAny_newObj_type (wpAny_bind (wpAny_pure (wpAny_pure ⟨_, rfl, wpAny_pure h⟩))) hz)
    | exact wpAny_bind (wpAny_bind (m := Builtin.Tuple.tupleExact _) (wpAny_newObj_type (wpAny_pure (wpAny_pure ⟨_, rfl, wpAny_pure h⟩)) hz))
    | exact wpAny_bind (wpAny_bind (m := Builtin.Tuple.tupleExact _) (wpAny_newObj_type (wpAny_pure ⟨_, rfl, wpAny_pure h⟩) hz))
end
theorem strIx_rev (n : Nat) : Builtin.Str.strSliceIndices none none (-1) n = (List.range n).reverse := by
  unfold Builtin.Str.strSliceIndices
  show sliceRange ((n : Int) - 1) (-1) (-1) = _
  rw [PySem.W.krv_sliceRange, range_rev]
theorem str_rev (x : Str) : (((List.range x.length).reverse.filterMap (x.cps[·]?)).toArray : Array _) = x.cps.toList.reverse.toArray := by
  rw [List.filterMap_reverse]
  have e : (List.range x.length).filterMap (x.cps[·]?) = x.cps.toList := PySem.W.krv_all x.cps
  rw [e]
section
variable {X : Cx}
theorem ok_rev {a : Expr} {k : Nat} {p1 p2 p3 pos : Pos} {fa : Env → Tree D} (ha : PE X a (tW X.K fa)) : PE X (.Subscript a (.Slice none none (some (.UnaryOp .USub (.Constant (.int 1) k p1) p2)) p3) pos) (tE X.K fun ρ => do let x ← fa ρ; dRev x) := by
  refine ⟨fun pins s σ H Q I h => ?_⟩
  obtain ⟨W, G0, H0, G, ρ, sr, q⟩ := h
  refine Subscript_ (thn (ha.run pins s σ H (fun v H' => ∃ G' d, Gr W G H G' H' ∧ Rw X.K W G' H' v d ∧ (dRev d).All (Wn X.K W G' H' Q)) I ⟨W, G0, H0, G, ρ, sr, (all_bind' q).mono fun d hd v G' H' g r => ⟨G', d, g, r, hd.mono fun d2 h2 v2 G2 H2 g2 r2 => h2 v2 G2 H2 (g.trans g2) r2⟩⟩) fun v s1 ⟨x, H1, I1, r1, G1, d, g, rx, hd⟩ => ?_)
  have hst : PO X (some (.UnaryOp .USub (.Constant (.int 1) k p1) p2)) (tPart (tUn (rU fun i => .int (-i)) (tC (.int 1)))) := po_some (pe_un un_neg pe_int)
  refine wpAny_Slice (thn (po_none.run pins s1 σ H1 (fun o H2 => o = none ∧ H2 = H1) I1 ⟨rfl, rfl⟩) fun vl s2 ⟨l, H2, I2, pl, el, e2⟩ => ?_)
  subst el e2
  refine thn (po_none.run pins s2 σ H2 (fun o H3 => o = none ∧ H3 = H2) I2 ⟨rfl, rfl⟩) fun vu s3 ⟨u, H3, I3, pu, eu, e3⟩ => ?_
  subst eu e3
  refine thn (hst.run pins s3 σ H3 (fun o H4 => o = some (-1) ∧ H4 = H3) I3 ⟨1, rfl, -1, rfl, rfl, rfl⟩) fun vs s4 ⟨o, H4, I4, ps, eo, e4⟩ => ?_
  subst eo e4
  cases pl
  cases pu
  have I5 : Inv X pins σ H4 { s4 with heap := s4.heap.push { cls := .type "slice", data := .fields #[.none, .none, vs] } } := I4.kept (t' := s4.toks) fun b ob q => Heap.get?_push_of_some _ q
  cases d with
  | str z =>
    obtain rfl := rx.str
    obtain ⟨t, rfl⟩ := r1
    obtain ⟨hb, hd⟩ := all_guard (show (guard (decide (z.length ≤ lim)) >>= fun _ => (Tree.ret (.str ⟨z.cps.toList.reverse.toArray⟩) : Tree D)).All _ from hd)
    have hb : z.length ≤ sizeLine := by rw [← lim_eq]; exact of_decide_eq_true hb
    refine tail_any (T := "str") (ops := [.str z t, .ref s4.heap.objs.size]) (typeIs_str _ _ _) (F.slot_str_getitem.lookup) ?_ (by with_unfolding_all rfl)
    obtain ⟨st, rfl, e⟩ : ∃ st : Option (Int × Tok), vs = partValue st ∧ st.map (·.1) = some (-1) := by
      obtain ⟨l, h1, h2⟩ := IsPart.raw ps
      exact ⟨l, h1, h2⟩
    refine wpAny_getItem_str_slice (l := none) (u := none) (st := st) ⟨_, Heap.get?_push_size _ rfl, rfl, rfl⟩ (by rw [e]; decide) ?_
    have e2 : slicePicked z none none st = (List.range z.length).reverse := by
      unfold slicePicked
      rw [e]
      exact strIx_rev _
    unfold sliceMade
    rw [e2, e]
    rw [if_neg (by simp)]
    rw [str_rev]
    exact ⟨by show (z.cps.toList.reverse.toArray).size ≤ sizeLine; simpa [Str.length] using hb, .str _, H4, I5.tok _, ⟨_, rfl⟩, Wn.flat g.le hd (.str _)⟩
  | tuple xs =>
    obtain ⟨ad, ws, rfl, hx, rs⟩ := rx.tup
    cases r1
    obtain ⟨its, r, ht, hz⟩ := I5.tuple (Same.sqT g.le hx)
    have hlen := r.length
    refine tail_any (T := "tuple") (ops := [.ref ad, .ref s4.heap.objs.size]) ht.typeIs (PyProof.Rows.slot_tuple_getitem.lookup) ?_ (by with_unfolding_all rfl)
    refine getItem_tuple_rev ht (Heap.IsSliceOf.new _ .none .none vs) ps ?_ (by rw [List.size_toArray]; omega)
    have hd : Wn X.K W G1 H4 Q (.tuple xs.reverse) := hd
    refine ⟨.ref _, _, I5.laid (t' := s4.toks) (o := .tup ws.reverse) (fun b ob q => Heap.get?_push_of_some _ q) (Nat.le_refl _) ?_, rfl, Wn.tup g.le hd rs.reverse _ (I5.hok.fresh (Nat.le_refl _))⟩
    exact ⟨by rw [List.length_reverse]; exact hz, _, r.reverse, ⟨_, Heap.get?_push_size _ rfl, rfl, _, rfl⟩⟩
  | list xs =>
    obtain ⟨ad, ws, rfl, hx, rs⟩ := rx.lst g.le
    cases r1
    obtain ⟨its, r, ht, hz⟩ := I5.list (SqL.of hx)
    have hlen := r.length
    refine tail_any (T := "list") (ops := [.ref ad, .ref s4.heap.objs.size]) ht.isList.typeIs (PySem.slot_list_getitem.lookup) ?_ (by with_unfolding_all rfl)
    refine wpAny_getItem_list_slice ht.isList (Heap.IsSliceOf.new _ .none .none vs) .none .none ps (by decide) ?_ (by rw [List.size_toArray]; omega)
    rw [PySem.W.krv_pick]
    have hd : Wn X.K W G1 H4 Q (.list xs.reverse) := hd
    refine ⟨.ref _, _, I5.laid (t' := s4.toks) (o := .lst ws.reverse) (fun b ob q => Heap.get?_push_of_some _ q) (Nat.le_refl _) ?_, rfl, Wn.lst g.le hd rs.reverse _ (I5.hok.fresh (Nat.le_refl _))⟩
    exact ⟨by rw [List.length_reverse]; exact hz, _, 0, r.reverse, Heap.get?_push_size _ rfl⟩
  | _ => exact False.elim hd
end
end Pd

namespace Pd
open PySem PySem.Spec L2
theorem bindO {α β : Type} {o : Option α} {f : α → Option β} {y : β} (h : (o >>= f) = some y) : ∃ x, o = some x ∧ f x = some y := by
  cases o with
  | none => cases h
  | some x => exact ⟨x, rfl, h⟩
theorem guardO {α : Type} {b : Bool} {o : Option α} {y : α} (h : (if b = true then none else o) = some y) : b = false ∧ o = some y := by
  cases b with
  | true => cases h
  | false => exact ⟨rfl, h⟩
theorem guardY {α : Type} {b : Bool} {o : Option α} {y : α} (h : (if b = true then o else none) = some y) : b = true ∧ o = some y := by
  cases b with
  | false => cases h
  | true => exact ⟨rfl, h⟩
theorem notSet_fold {e : Expr} (h : notSet e = true) (env : PySem.Env) (x : Value) : foldedSetIterable e env x = pure x := by
  cases e <;> first | rfl | cases h
section
variable {X : Cx} {C : Ctx} {k : Nat} {Φ : Phi}
theorem okt_cmp {a b : Expr} {p : Pos} {op : CmpOp} {fa fb : Env → Tree D} (h : OpR X (compareOp op) (rW2 X.K (dCmpV op))) (ha : PE X a (tW X.K fa)) (hb : PE X b (tW X.K fb)) (hm : behindInMarks op b = false) : PT X (.Compare a [op] [b] p) (tT X.K fun ρ => do let x ← fa ρ; let y ← fb ρ; dCmp op x y) :=
  (pt_cmpR h ha hb hm).imp fun σ H Q ⟨W, G0, H0, G, ρ, s, q⟩ => ⟨W, G0, H0, G, ρ, s, (all_bind' q).mono fun dx hx v G1 H1 g1 r1 => ⟨W, G0, H0, G1, ρ, s.mono g1, (all_bind' hx).mono fun dy hy u G2 H2 g2 r2 =>
    ⟨W, G2, dx, dy, g2.le, r1.mono g2, r2, (Tree.all_bind _ _ _).mpr (hy.mono fun k hk z G3 H3 g3 rz => ⟨k, by cases rz; rfl, hk G3 H3 ((g1.trans g2).trans g3)⟩)⟩⟩⟩
theorem okt_cmp2 {a b c : Expr} {p : Pos} {op op' : CmpOp} {fa fb fc : Env → Tree D} (h : OpR X (compareOp op) (rW2 X.K (dCmpV op))) (h' : OpR X (compareOp op') (rW2 X.K (dCmpV op'))) (ha : PE X a (tW X.K fa)) (hb : PE X b (tW X.K fb)) (hc : PE X c (tW X.K fc)) (hm : notSet c = true) :
    PT X (.Compare a [op, op'] [b, c] p) (tT X.K fun ρ => do let x ← fa ρ; let y ← fb ρ; let k ← dCmp op x y; if k = true then (do let z ← fc ρ; dCmp op' y z) else .ret false) :=
  (pt_chain h h' ha hb hc (lastM hm)).imp fun σ H Q ⟨W, G0, H0, G, ρ, s, q⟩ => ⟨W, G0, H0, G, ρ, s, (all_bind' q).mono fun dx hx v G1 H1 g1 r1 => ⟨W, G0, H0, G1, ρ, s.mono g1, (all_bind' hx).mono fun dy hy u G2 H2 g2 r2 =>
    ⟨W, G2, dx, dy, g2.le, r1.mono g2, r2, by
      have hy := all_bind' hy
      unfold dCmpV
      refine (Tree.all_bind _ _ _).mpr (hy.mono fun k hk z G3 H3 g3 rz => ?_)
      have ez : z = .bl k := by cases rz; rfl
      refine ⟨k, ez, ?_⟩
      cases k with
      | false => exact ⟨false, rfl, hk G3 H3 ((g1.trans g2).trans g3)⟩
      | true =>
        have hk : (fc ρ >>= fun z => dCmp op' dy z).All _ := hk
        rw [if_pos rfl]
        exact ⟨W, G0, H0, G3, ρ, s.mono ((g1.trans g2).trans g3), (all_bind' hk).mono fun dz hz w G4 H4 g4 r4 => ⟨W, G4, dy, dz, g4.le, (r2.mono g3).mono g4, r4, (Tree.all_bind _ _ _).mpr (hz.mono fun k' hk' v5 G5 H5 g5 r5 => ⟨k', by cases r5; rfl, hk' G5 H5 ((((g1.trans g2).trans g3).trans g4).trans g5)⟩)⟩⟩⟩⟩⟩
theorem evT_cmp (op : CmpOp) (a b : E) : evT Φ (.cmp op a b) = (fun ρ => do let x ← ev Φ .w a ρ; let y ← ev Φ .w b ρ; dCmp op x y) := funext fun ρ => by
  show (post .t (ev Φ .w a ρ >>= fun x => ev Φ .w b ρ >>= fun y => dCmp op x y >>= fun k => .ret (.bool k)) >>= asBool) = _
  rw [post_t, Tree.bind_assoc']
  congr 1; funext x
  rw [Tree.bind_assoc']
  congr 1; funext y
  rw [Tree.bind_assoc']
  exact Tree.bind_ret' _
theorem evT_cmp2 (op op' : CmpOp) (a b c : E) : evT Φ (.cmp2 op op' a b c) = (fun ρ => do let x ← ev Φ .w a ρ; let y ← ev Φ .w b ρ; let k ← dCmp op x y; if k = true then (do let z ← ev Φ .w c ρ; dCmp op' y z) else .ret false) := funext fun ρ => by
  show (post .t (ev Φ .w a ρ >>= fun x => ev Φ .w b ρ >>= fun y => dCmp op x y >>= fun k => if k = true then (ev Φ .w c ρ >>= fun z => dCmp op' y z >>= fun k' => .ret (.bool k')) else .ret (.bool false)) >>= asBool) = _
  rw [post_t, Tree.bind_assoc']
  congr 1; funext x
  rw [Tree.bind_assoc']
  congr 1; funext y
  rw [Tree.bind_assoc']
  congr 1; funext k
  cases k with
  | false => rfl
  | true =>
    show ((ev Φ .w c ρ >>= fun z => dCmp op' y z >>= fun k' => .ret (.bool k')) >>= truth) = (ev Φ .w c ρ >>= fun z => dCmp op' y z)
    rw [Tree.bind_assoc']
    congr 1; funext z
    rw [Tree.bind_assoc']
    exact Tree.bind_ret' _
theorem Fits.blkX (F : Fits C k Φ X) {scope : Scope} (s : Shared) (H : Hp) (CC : Addr) (cl : List (Str × Addr)) (fp : List Addr) : Fits { C with sc := relS scope C.sc, blk := some scope } k Φ (X.blk s H scope (compEnvC scope cl CC X.env) fp) :=
  ⟨F.N, F.nd, by show relS scope X.env.scope = _; rw [F.sc], F.calm, F.room, fun _ => rfl, F.cons, F.bis, F.fns⟩
theorem blk_ok (F : Fits C k Φ X) {scope : Scope} {own : List (Str × Nat)} (h : blkC C.N C.sc scope own = true) : BlkOk X.N X.env.scope scope own := by
  rw [F.N, F.sc]; exact blkOk_by h
theorem ifs_one {c : Expr} {c' : E} (h : PT X c (tT X.K (evT Φ c'))) : PTs X [c] (tT X.K (evIfs Φ [c'])) := by
  refine pts_one (h.imp fun σ H Q ⟨W, G0, H0, G, ρ, s, q⟩ => ⟨W, G0, H0, G, ρ, s, ?_⟩)
  have q : (ev Φ .t c' ρ >>= fun x => asBool x >>= fun k => if k = true then Tree.ret true else Tree.ret false).All _ := q
  refine (Tree.all_bind _ _ _).mpr ((all_bind' q).mono fun x hx => (all_bind' hx).mono fun k hk => ?_)
  cases k <;> exact hk
theorem ifs_no : PTs X [] (tT X.K (evIfs Φ [])) := ⟨fun pins s σ H Q I ⟨W, G0, H0, G, ρ, sr, q⟩ => pts_nil.run pins s σ H Q I ((show ∀ G' H', Gr W G H G' H' → Q true H' from q) G H (Gr.refl sr.le))⟩
theorem ev_lc {t : T} {vs : List Nat} {it el : E} {ifs : List E} (ρ : Env) : ev Φ .v (.lc t vs it ifs el) ρ = (do
    let xs ← evI Φ it ρ
    guard (decide (xs.length ≤ lim))
    let ys ← lcD (fun x => do let ρ' ← bindT t x (wip ρ vs); let k ← evIfs Φ ifs ρ'; if k then let y ← ev Φ .v el ρ'; .ret (some y) else .ret none) xs
    .ret (.list ys)) := (Tree.bind_assoc' (ev Φ .i it ρ) asLst _).symm
theorem ev_dc {t : T} {vs : List Nat} {it kx vx : E} {ifs : List E} (ρ : Env) : ev Φ .v (.dc t vs it ifs kx vx) ρ = (do
    let xs ← evI Φ it ρ
    guard (decide (xs.length ≤ lim))
    let ps ← lcD (fun x => do let ρ' ← bindT t x (wip ρ vs); let b ← evIfs Φ ifs ρ'; if b then let kd ← ev Φ .v kx ρ'; let vd ← ev Φ .v vx ρ'; guard (isKey kd); .ret (some (kd, vd)) else .ret none) xs
    .ret (.dict (putAll [] ps))) := (Tree.bind_assoc' (ev Φ .i it ρ) asLst _).symm
theorem ev_lc2 {t t1 : T} {vs vs1 : List Nat} {it it1 el : E} {ifs ifs1 : List E} (ρ : Env) : ev Φ .v (.lc2 t vs it ifs t1 vs1 it1 ifs1 el) ρ = (do
      let xs ← evI Φ it ρ
      guard (decide (xs.length ≤ 4096))
      let ys ← lcD2 (fun x => do
        let ρ' ← bindT t x (wip ρ vs)
        let k ← evIfs Φ ifs ρ'
        if k then
          let xs1 ← evI Φ it1 ρ'
          guard (decide (xs1.length ≤ 4096))
          lcD (fun x1 => do
            let ρ2 ← bindT t1 x1 (wip ρ' vs1)
            let k1 ← evIfs Φ ifs1 ρ2
            if k1 then let y ← ev Φ .v el ρ2; .ret (some y) else .ret none) xs1
        else .ret []) xs
      .ret (.list ys)) := by
  refine (Tree.bind_assoc' (ev Φ .i it ρ) asLst _).symm.trans ?_
  show (evI Φ it ρ >>= _) = (evI Φ it ρ >>= _)
  congr 1; funext xs
  congr 1; funext u
  congr 2; funext x
  congr 1; funext ρ'
  congr 1; funext k
  cases k with
  | false => rfl
  | true => exact (Tree.bind_assoc' (ev Φ .i it1 ρ') asLst _).symm
theorem jd_range {K : PySem.W.Frag} {W : Wo} {G : Hp} {lo : Int} {n : Nat} : JD K W (Itr lo n) G (rng lo n) := jd_of fun G2 H2 _ _ i => by
  have hl : (rng lo n).length = n := by unfold rng; rw [List.length_map, List.length_range]
  refine ⟨fun hi => by rw [hl] at hi; exact hi, fun x hx => ?_⟩
  have hi : i < n := by rw [← hl]; exact (List.getElem?_eq_some_iff.mp hx).1
  unfold rng at hx
  rw [List.getElem?_map, List.getElem?_range hi] at hx
  cases hx
  exact ⟨hi, fun v H3 y => by
    obtain ⟨e, y⟩ := y
    exact ⟨e, by rw [y]; exact .int _⟩⟩
theorem pi_rng1 (F : Fits C k Φ X) {tg a : Expr} {a' : E} {p pos : Pos} (hm : C.bis.contains "range" = true) (hg : glB C.sc "range" = true) (hs : [a].all notStar = true) (h : GdL Φ X [a] [a']) :
    PI X tg (.Call (.Name "range" p) [a] [] pos) (tI X.K (evI Φ (.bi .range [a']))) := by
  have hs' := hs
  rw [List.all_cons, Bool.and_eq_true] at hs'
  refine (pi_range1 (F.gl hg) (F.bis _ hm) (pa_vs h hs) (star_cons hs'.1)).imp fun σ H R ⟨W, G0, H0, G, ρ, s, q⟩ => ⟨W, G0, H0, G, ρ, s, ?_⟩
  have q : ((ev Φ .v a' ρ >>= fun x => asInt x >>= fun n => guard (near62 n) >>= fun _ => Tree.ret (PyData.list (rng 0 n.toNat))) >>= asLst).All fun xs => ∀ J G' H', Gr W G H G' H' → JD X.K W J G' xs → R J H' := q
  show (ev Φ .v a' ρ >>= fun x => Tree.ret [] >>= fun xs => Tree.ret (x :: xs)).All _
  refine (Tree.all_bind _ _ _).mpr ((all_bind' (all_bind' q)).mono fun d hd vs G' H' g r => ?_)
  obtain ⟨v, rfl, rv⟩ : ∃ v, vs = [v] ∧ Rp X.K G' v d := by
    cases r with
    | cons a b => cases b; exact ⟨_, rfl, a⟩
  cases rv <;> try exact False.elim hd
  obtain ⟨hb, hd⟩ := all_guard (show (guard (near62 _) >>= fun _ => Tree.ret (PyData.list (rng 0 _))).All _ from hd)
  simp only [near62, Bool.and_eq_true, decide_eq_true_eq] at hb
  exact ⟨_, rfl, hb.1, hb.2, hd _ G' H' g jd_range⟩
theorem pi_rng2 (F : Fits C k Φ X) {tg a b : Expr} {a' b' : E} {p pos : Pos} (hm : C.bis.contains "range" = true) (hg : glB C.sc "range" = true) (hs : [a, b].all notStar = true) (h : GdL Φ X [a, b] [a', b']) :
    PI X tg (.Call (.Name "range" p) [a, b] [] pos) (tI X.K (evI Φ (.bi .range [a', b']))) := by
  have hs' := hs
  simp only [List.all_cons, Bool.and_eq_true] at hs'
  refine (pi_range2 (F.gl hg) (F.bis _ hm) (pa_vs h hs) (by rw [star_cons hs'.1, star_cons hs'.2.1]; rfl) (star_cons hs'.2.1)).imp fun σ H R ⟨W, G0, H0, G, ρ, s, q⟩ => ⟨W, G0, H0, G, ρ, s, ?_⟩
  have q : ((ev Φ .v a' ρ >>= fun x => ev Φ .v b' ρ >>= fun y => asInt x >>= fun m => asInt y >>= fun n => guard (near62 m && near62 n) >>= fun _ => Tree.ret (PyData.list (rng m (n - m).toNat))) >>= asLst).All fun xs => ∀ J G' H', Gr W G H G' H' → JD X.K W J G' xs → R J H' := q
  show (ev Φ .v a' ρ >>= fun x => (ev Φ .v b' ρ >>= fun y => Tree.ret [] >>= fun xs => Tree.ret (y :: xs)) >>= fun xs => Tree.ret (x :: xs)).All _
  refine (Tree.all_bind _ _ _).mpr ((all_bind' (all_bind' q)).mono fun d hd => (Tree.all_bind _ _ _).mpr ((Tree.all_bind _ _ _).mpr ((all_bind' hd).mono fun d2 hd vs G' H' g r => ?_)))
  obtain ⟨v, v2, rfl, rv, rv2⟩ : ∃ v v2, vs = [v, v2] ∧ Rp X.K G' v d ∧ Rp X.K G' v2 d2 := by
    cases r with
    | cons a b => cases b with | cons b c => cases c; exact ⟨_, _, rfl, a, b⟩
  cases rv <;> try exact False.elim hd
  cases rv2 <;> try exact False.elim hd
  obtain ⟨hb, hd⟩ := all_guard (show (guard (near62 _ && near62 _) >>= fun _ => Tree.ret (PyData.list (rng _ _))).All _ from hd)
  simp only [near62, Bool.and_eq_true, decide_eq_true_eq] at hb
  exact ⟨_, _, rfl, ⟨hb.1.1, hb.1.2, hb.2.1, hb.2.2⟩, hd _ G' H' g jd_range⟩
end
end Pd

namespace Pd
open PySem PySem.Spec L2
section
variable {k : Nat} {Φ : Phi}
theorem gdl_of {X : Cx} {C : Ctx} {n : Nat} (ih : ∀ {e : Expr} {e' : E}, trE C n e = some e' → GdB Φ X e e') : ∀ {es : List Expr} {es' : List E}, mapO (trE C n) es = some es' → GdBL Φ X es es'
  | [], _, h => by rw [mapO_nil h]; exact .nil
  | e :: es, _, h => by
    obtain ⟨y, ys, rfl, h1, h2⟩ := mapO_cons h
    exact .cons (ih h1) (gdl_of ih h2)
theorem ifs_of {X : Cx} {C : Ctx} {n : Nat} (ih : ∀ {e : Expr} {e' : E}, trE C n e = some e' → GdB Φ X e e') {ifs : List Expr} {cs : List E} (hl : decide (ifs.length > 1) = false) (h : mapO (trE C n) ifs = some cs) : PTs X ifs (tT X.K (evIfs Φ cs)) := by
  match ifs, h with
  | [], h => rw [mapO_nil h]; exact ifs_no
  | [c], h =>
    obtain ⟨y, ys, rfl, h1, h2⟩ := mapO_cons h
    rw [mapO_nil h2]
    exact ifs_one (ih h1).t
  | _ :: _ :: _, _ => simp at hl
theorem gd_bi {X : Cx} {C : Ctx} (F : Fits C k Φ X) {f : Str} {b : Bi} {args : List Expr} {p pos : Pos} {as : List E} (hb : biOf f = some b) (hm : C.bis.contains f = true) (hg : glB C.sc f = true) (hn : nm f = false) (hs : args.all notStar = true) (he : args.isEmpty = false) (t : GdL Φ X args as) :
    Gd Φ X (.Call (.Name f p) args [] pos) (.bi b as) := by
  match args, he with
  | a :: r, _ =>
    have core := ok_builtin (p := p) (pos := pos) F hb hm hg hn hs (pa_ws t hs)
    have hv : ∀ ρ, ev Φ .v (.bi b as) ρ = (do let ds ← evWs Φ as ρ; dBi b ds) := fun ρ => by cases b <;> rfl
    have hw : ∀ ρ, ev Φ .w (.bi b as) ρ = (do let ds ← evWs Φ as ρ; dBi b ds) := fun ρ => by cases b <;> rfl
    have ht : ∀ ρ, ev Φ .t (.bi b as) ρ = post .t (do let ds ← evWs Φ as ρ; dBi b ds) := fun ρ => by cases b <;> rfl
    have m : (f, b) ∈ biTab := PySem.mem_of_lookup hb
    by_cases hr : b = .range
    · subst hr
      have ef : f = "range" := by
        unfold biTab at m
        simp only [List.mem_cons, List.not_mem_nil, or_false, Prod.mk.injEq] at m
        rcases m with ⟨h, q⟩ | ⟨h, q⟩ | ⟨h, q⟩ | ⟨h, q⟩ | ⟨h, q⟩ | ⟨h, q⟩ | ⟨h, q⟩ | ⟨h, q⟩ | ⟨h, q⟩ | ⟨h, q⟩ | ⟨h, q⟩ | ⟨h, q⟩ | ⟨h, q⟩ | ⟨h, q⟩ <;> first | exact h | cases q
      subst ef
      match r, as, t with
      | [], _, .cons ga .nil =>
        exact { v := by rw [show ev Φ .v _ = _ from funext hv]; exact core
                w := by rw [show ev Φ .w _ = _ from funext hw]; exact pe_weak core
                t := by
                  rw [show evT Φ _ = _ from funext fun ρ => by unfold evT; rw [ht, post_t]]
                  exact pt_tru (pe_weak core) fun _ => rfl
                i := fun tg => pi_rng1 F hm hg hs (.cons ga .nil) }
      | [_], _, .cons ga (.cons gb .nil) =>
        exact { v := by rw [show ev Φ .v _ = _ from funext hv]; exact core
                w := by rw [show ev Φ .w _ = _ from funext hw]; exact pe_weak core
                t := by
                  rw [show evT Φ _ = _ from funext fun ρ => by unfold evT; rw [ht, post_t]]
                  exact pt_tru (pe_weak core) fun _ => rfl
                i := fun tg => pi_rng2 F hm hg hs (.cons ga (.cons gb .nil)) }
      | _ :: _ :: _, _, .cons _ (.cons _ (.cons _ _)) => exact Gd.of core hv hw ht (fun ρ => rfl) fun _ => rfl
    · have hi : ∀ ρ, ev Φ .i (.bi b as) ρ = post .i (do let ds ← evWs Φ as ρ; dBi b ds) := fun ρ => by
        cases b <;> first
          | rfl
          | exact absurd rfl hr
          | exact absurd m (by unfold biTab; simp)
      exact Gd.of core hv hw ht hi fun _ => rfl
theorem okn_lst {X : Cx} {es : List Expr} {p : Pos} {f : Env → Tree (List D)} (h : PA X es (tVs X.K f)) : PE X (.List es p) (tN X.K fun ρ => do let ds ← f ρ; guard (decide (ds.length ≤ lim)); .ret (.list ds)) :=
  (pe_lst h).imp fun σ H Q ⟨W, G0, H0, G, ρ, s, q⟩ => ⟨W, G0, H0, G, ρ, s, (all_bind' q).mono fun ds hd vs G' H' g r => by
    obtain ⟨hb, hd⟩ := all_guard hd
    refine ⟨by rw [r.length, ← lim_eq]; exact of_decide_eq_true hb, fun p hp => ?_⟩
    exact hd p G' (upd H' p (.lst vs)) (g.trans (Gr.newOwn g.le hp)) (dom_none g hp) (same_none g.le hp) ⟨vs, upd_same .., r⟩⟩
def flatP {α : Type} (ps : List (α × α)) : List α := ps.flatMap fun p => [p.1, p.2]
theorem tPairs_of {K : PySem.W.Frag} : ∀ (ps : List (E × E)) {W : Wo} {G0 H0 G H : Hp} {σ : L2.St} {ρ : Env} {Q : List (V × V) → Hp → Prop}, SR K W G0 H0 σ G H ρ →
    ((evs Φ (flatP ps) ρ).All fun ds => ∀ prs G' H', Gr W G H G' H' → Rps K G' (flatP prs) ds → Q prs H') → tPairs (ps.map fun p => (tE K (ev Φ .v p.1), tE K (ev Φ .v p.2))) σ H Q
  | [], W, G0, H0, G, H, σ, ρ, Q, s, q => (show ∀ prs G' H', Gr W G H G' H' → Rps K G' (flatP prs) [] → Q prs H' from q) [] G H (Gr.refl s.le) .nil
  | p :: ps, W, G0, H0, G, H, σ, ρ, Q, s, q => by
    have q : (ev Φ .v p.1 ρ >>= fun x => (ev Φ .v p.2 ρ >>= fun y => evs Φ (flatP ps) ρ >>= fun r => Tree.ret (y :: r)) >>= fun r => Tree.ret (x :: r)).All _ := q
    refine ⟨W, G0, H0, G, ρ, s, (all_bind' q).mono fun d1 h1 v1 G1 H1 g1 r1 => ⟨W, G0, H0, G1, ρ, s.mono g1, (all_bind' (all_bind' h1)).mono fun d2 h2 v2 G2 H2 g2 r2 => ?_⟩⟩
    refine tPairs_of ps (s.mono (g1.trans g2)) ((all_bind' h2).mono fun ds hd prs G3 H3 g3 rs => ?_)
    exact hd ((v1, v2) :: prs) G3 H3 ((g1.trans g2).trans g3) (.cons (r1.mono (g2.g.trans g3.g)) (.cons (r2.mono g3.g) rs))
theorem pairUp_rel {K : PySem.W.Frag} {G : Hp} : ∀ {prs : List (V × V)} {ds : List D} {P : List (D × D) → Prop}, Rps K G (flatP prs) ds → (pairUp ds).All P → ∃ (ks : List (Key × V)) (kvs : List (D × D)), prs = ks.map (fun kv => (kV kv.1, kv.2)) ∧ Rpk K G ks kvs ∧ P kvs
  | [], ds, P, r, h => by
    cases r
    exact ⟨[], [], rfl, .nil, h⟩
  | (a, b) :: prs, ds, P, r, h => by
    cases r with
    | @cons _ _ d1 _ r1 rr =>
      cases rr with
      | @cons _ _ d2 ds r2 rr =>
        obtain ⟨hk, h⟩ := all_guard (show (guard (isKey d1) >>= fun _ => pairUp ds >>= fun xs => Tree.ret ((d1, d2) :: xs)).All P from h)
        obtain ⟨kk, rfl, rfl⟩ := kV_kD r1 hk
        obtain ⟨ks, kvs, rfl, rk, p⟩ := pairUp_rel rr (all_bind' h)
        exact ⟨(kk, b) :: ks, (kD kk, d2) :: kvs, rfl, .cons r2 rk, p⟩
theorem pps_of {X : Cx} {C : Ctx} {n : Nat} {pos : Pos} (ih : ∀ {e : Expr} {e' : E}, trE C n e = some e' → GdB Φ X e e') : ∀ {ks : List (Option Expr)} {vs : List Expr} {ps : List (E × E)}, ks.length = vs.length → mapO (fun p => do let k ← p.1; let x ← trE C n k; let y ← trE C n p.2; some (x, y)) (ks.zip vs) = some ps → PPs X pos ks vs (ps.map fun p => (tE X.K (ev Φ .v p.1), tE X.K (ev Φ .v p.2)))
  | [], [], ps, _, h => by rw [mapO_nil h]; exact pps_nil
  | k :: ks, v :: vs, ps, hl, h => by
    obtain ⟨y, ys, rfl, h1, h2⟩ := mapO_cons h
    obtain ⟨k', hk', h1⟩ := bindO h1
    obtain ⟨x', hx', h1⟩ := bindO h1
    obtain ⟨y', hy', h1⟩ := bindO h1
    cases h1
    have hk' : k = some k' := hk'
    subst hk'
    exact pps_cons (ih hx').v (ih hy').v (pps_of ih (by simpa using hl) h2)
  | [], _ :: _, _, h, _ => by cases h
  | _ :: _, [], _, h, _ => by cases h
theorem ok_dic {X : Cx} {pos : Pos} {ks : List (Option Expr)} {vs : List Expr} {ps : List (E × E)} (h : PPs X pos ks vs (ps.map fun p => (tE X.K (ev Φ .v p.1), tE X.K (ev Φ .v p.2)))) (hall : ks.all (·.isSome) = true) (hl : ks.length = vs.length) (h0 : ks ≠ []) (h15 : ks.length ≤ 15) :
    PE X (.Dict ks vs pos) (tN X.K (ev Φ .v (.dic (flatP ps)))) := by
  refine (pe_disp h hall hl h0 h15).imp fun σ H Q ⟨W, G0, H0, G, ρ, s, q⟩ p hp => ?_
  have g0 := Gr.newOwn (W := W) (o := .dK []) s.le hp
  have nb := not_box s.box hp
  have eG := same_none s.le hp
  refine tPairs_of ps (s.mono g0) ((all_bind' q).mono fun ds hd prs G' H2 g rs => ?_)
  obtain ⟨kks, kvs, rfl, rk, hk⟩ := pairUp_rel rs (all_bind' hd)
  obtain ⟨hb, hk⟩ := all_guard hk
  have eG' := g.sep p (by rw [upd_same]; simp) eG
  refine ⟨g.old _ _ (upd_same ..) nb, kks, rfl, by rw [rk.length]; exact of_decide_eq_true hb, ?_⟩
  have hk : ∀ p G' H', Gr W G H G' H' → H p = none → G' p = none → OwnV X.K G' H' p (.dict (putAll [] kvs)) → Q (.ref p) H' := hk
  exact hk p G' _ ((g0.trans g).put s.box hp eG') hp eG' ⟨_, upd_same .., merge_rel rk .nil⟩
theorem attr_base {o : Expr} {m : Str} {env : PySem.Env} {w : Sem Value} (h : notCall0 o = true) : attributeBase o m env w = w := by
  unfold attributeBase
  cases o with
  | Call f a kw p =>
    cases f <;> first | rfl | skip
    cases a with
    | cons _ _ => rfl
    | nil =>
      cases kw with
      | cons _ _ => rfl
      | nil => cases h
  | _ => rfl
theorem ok_all : ∀ (n : Nat) {X : Cx} {C : Ctx} (F : Fits C k Φ X) {e : Expr} {e' : E}, trE C n e = some e' → GdB Φ X e e'
  | 0, _, _, _, _, _, h => by cases h
  | n + 1, X, C, F, e, e', h => by
    have ih := fun {e : Expr} {e' : E} (h : trE C n e = some e') => ok_all n F h
    unfold trE at h
    split at h
    · cases h; exact gdB_of (gd_con (ok_flat pe_int fun _ => .int _) fun _ => rfl) fun i => nofun
    · cases h; exact gdB_of (gd_con (ok_flat pe_str fun _ => .str _) fun _ => rfl) fun i => nofun
    · cases h; exact gdB_of (gd_con (ok_flat pe_bl fun _ => .bl _) fun _ => rfl) fun i => nofun
    · cases h; exact gdB_of (gd_con (ok_flat pe_non fun _ => .non) fun _ => rfl) fun i => nofun
    · rename_i x p
      obtain ⟨hn, h⟩ := guardO h
      split at h
      · rename_i hv
        obtain ⟨i, hi, rfl⟩ := Option.map_eq_some_iff.mp h
        exact gdB_var (pe_var (F.ix hi) (F.vis hv) (nm_of hn).1 (nm_of hn).2.1) fun _ => rfl
      · obtain ⟨hg, h⟩ := guardY h
        obtain ⟨d, hd, rfl⟩ := Option.map_eq_some_iff.mp h
        obtain ⟨u, v, h1, h2, h3⟩ := F.cons x d hd
        exact gdB_of (gd_con (ok_flat (pe_glob (F.gl hg) h1 h2 (nm_of hn).1) h3) fun _ => rfl) fun i => nofun
    · obtain ⟨hs, h⟩ := guardY h
      obtain ⟨es', hes, rfl⟩ := Option.map_eq_some_iff.mp h
      exact gdB_of (Gd.of (ok_tup (pa_vs (gdl_of ih hes).l hs)) (fun _ => rfl) (fun _ => rfl) (fun _ => rfl) (fun _ => rfl) fun _ => rfl) fun i => nofun
    · obtain ⟨hs, h⟩ := guardY h
      obtain ⟨es', hes, rfl⟩ := Option.map_eq_some_iff.mp h
      have core := fun p => okn_lst (p := p) (pa_vs (gdl_of ih hes).l hs)
      exact gdB_of (Gd.of ((core _).imp fun σ H Q => tN_of) (fun _ => rfl) (fun _ => rfl) (fun _ => rfl) (fun _ => rfl) fun _ => rfl) (fun i => nofun) fun _ => core _
    · obtain ⟨x, hx, h⟩ := bindO h
      obtain ⟨y, hy, h⟩ := bindO h
      cases h
      exact gdB_of (Gd.of (ok_bin (op_binAll _) (ih hx).v (ih hy).v) (fun _ => rfl) (fun _ => rfl) (fun _ => rfl) (fun _ => rfl) fun _ => rfl) fun i => nofun
    · obtain ⟨x, hx, h⟩ := bindO h
      cases h
      exact gdB_of (Gd.of (ok_neg (ih hx).v) (fun _ => rfl) (fun _ => rfl) (fun _ => rfl) (fun _ => rfl) fun _ => rfl) fun i => nofun
    · obtain ⟨x, hx, h⟩ := bindO h
      cases h
      refine gdB_of (Gd.ofT (ok_not (ih hx).w) ?_ (fun _ => rfl) (fun _ => rfl) (fun _ => rfl)) fun i => nofun
      rw [evT_not]
      exact (pt_not (ih hx).t).imp fun σ H Q ⟨W, G0, H0, G, ρ, s, q⟩ => ⟨W, G0, H0, G, ρ, s, (all_bind' q).mono fun k hk => hk⟩
    · obtain ⟨x, hx, h⟩ := bindO h
      obtain ⟨y, hy, h⟩ := bindO h
      cases h
      refine gdB_of (Gd.ofT (ok_and (ih hx).v (pe_one (ih hy).v)) ?_ (fun _ => rfl) (fun _ => rfl) (fun _ => rfl)) fun i => nofun
      rw [evT_and]
      exact ⟨fun pins s σ H Q I q => (pw_and (ih hx).t (pw_and1 (ih hy).t)).run _ pins s σ H Q I (okt_and q)⟩
    · obtain ⟨x, hx, h⟩ := bindO h
      obtain ⟨y, hy, h⟩ := bindO h
      cases h
      refine gdB_of (Gd.ofT (ok_and (ih hx).v (ih hy).v) ?_ (fun _ => rfl) (fun _ => rfl) (fun _ => rfl)) fun i => nofun
      rw [evT_and]
      exact ⟨fun pins s σ H Q I q => (pw_and (ih hx).t ⟨fun wh => (ih hy).t.run⟩).run _ pins s σ H Q I (okt_and q)⟩
    · obtain ⟨x, hx, h⟩ := bindO h
      obtain ⟨y, hy, h⟩ := bindO h
      cases h
      refine gdB_of (Gd.ofT (ok_or (ih hx).v (pe_one (ih hy).v)) ?_ (fun _ => rfl) (fun _ => rfl) (fun _ => rfl)) fun i => nofun
      rw [evT_or]
      exact ⟨fun pins s σ H Q I q => (pw_or (ih hx).t (pw_or1 (ih hy).t)).run _ pins s σ H Q I (okt_or q)⟩
    · obtain ⟨x, hx, h⟩ := bindO h
      obtain ⟨y, hy, h⟩ := bindO h
      cases h
      refine gdB_of (Gd.ofT (ok_or (ih hx).v (ih hy).v) ?_ (fun _ => rfl) (fun _ => rfl) (fun _ => rfl)) fun i => nofun
      rw [evT_or]
      exact ⟨fun pins s σ H Q I q => (pw_or (ih hx).t ⟨fun wh => (ih hy).t.run⟩).run _ pins s σ H Q I (okt_or q)⟩
    · obtain ⟨z, hz, h⟩ := bindO h
      obtain ⟨x, hx, h⟩ := bindO h
      obtain ⟨y, hy, h⟩ := bindO h
      cases h
      have e1 : ∀ ρ, ev Φ .v (.ite z x y) ρ = (do let k ← evT Φ z ρ; if k = true then ev Φ .v x ρ else ev Φ .v y ρ) := fun ρ => (Tree.bind_assoc' (ev Φ .t z ρ) asBool _).symm
      refine gdB_of (Gd.ofT (ok_ite (ih hz).t (ih hx).v (ih hy).v) ?_ e1 e1 (fun ρ => congrArg (post .i) (e1 ρ))) fun i => nofun
      rw [evT_ite]
      exact pt_ite (ih hz).t (ih hx).t (ih hy).t
    · obtain ⟨hm, h⟩ := guardY h
      obtain ⟨x, hx, h⟩ := bindO h
      obtain ⟨y, hy, h⟩ := bindO h
      cases h
      refine gdB_of (Gd.ofT (f := fun ρ => do let a ← ev Φ .w x ρ; let b ← ev Φ .w y ρ; dCmpV _ a b) (ok_cmp (op_cmpAll F.room _) (ih hx).w (ih hy).w (nomk hm _)) ?_ (fun _ => rfl) (fun _ => rfl) (fun _ => rfl)) fun i => nofun
      rw [evT_cmp]
      exact okt_cmp (op_cmpAll F.room _) (ih hx).w (ih hy).w (nomk hm _)
    · obtain ⟨hm, h⟩ := guardY h
      rw [Bool.and_eq_true] at hm
      obtain ⟨x, hx, h⟩ := bindO h
      obtain ⟨y, hy, h⟩ := bindO h
      obtain ⟨z, hz, h⟩ := bindO h
      cases h
      refine gdB_of (Gd.ofT (ok_cmp2 (op_cmpAll F.room _) (op_cmpAll F.room _) (ih hx).w (ih hy).w (ih hz).w hm.2) ?_ (fun _ => rfl) (fun _ => rfl) (fun _ => rfl)) fun i => nofun
      rw [evT_cmp2]
      exact okt_cmp2 (op_cmpAll F.room _) (op_cmpAll F.room _) (ih hx).w (ih hy).w (ih hz).w hm.2
    · obtain ⟨x, hx, h⟩ := bindO h
      cases h
      exact gdB_of (Gd.of (ok_rev (ih hx).w) (fun _ => rfl) (fun _ => rfl) (fun _ => rfl) (fun _ => rfl) fun _ => rfl) fun i => nofun
    · rename_i a lo hi p2 p
      obtain ⟨x, hx, h⟩ := bindO h
      obtain ⟨l, hl, h⟩ := bindO h
      obtain ⟨u, hu, h⟩ := bindO h
      cases h
      have pl : PO X lo (tO X.K (evO Φ l)) := by
        split at hl
        · cases hl; exact po_no
        · obtain ⟨y, hy, rfl⟩ := Option.map_eq_some_iff.mp hl
          exact po_yes (ih hy).toGd
      have pu : PO X hi (tO X.K (evO Φ u)) := by
        split at hu
        · cases hu; exact po_no
        · obtain ⟨y, hy, rfl⟩ := Option.map_eq_some_iff.mp hu
          exact po_yes (ih hy).toGd
      exact gdB_of (Gd.of (ok_slc (ih hx).w pl pu) (fun _ => rfl) (fun _ => rfl) (fun _ => rfl) (fun _ => rfl) fun _ => rfl) fun i => nofun
    · cases h
    · rename_i i p h1 h2 hns
      obtain ⟨x, hx, h⟩ := bindO h
      obtain ⟨y, hy, h⟩ := bindO h
      cases h
      refine gdB_of (Gd.of (ok_idx F.room (ih hx).w (ih hy).v ?_) (fun _ => rfl) (fun _ => rfl) (fun _ => rfl) (fun _ => rfl) fun _ => rfl) fun i => nofun
      intro o j
      cases i <;> first | rfl | (exact (hns _ _ _ _ rfl).elim)
    · rename_i f p args pos
      obtain ⟨hh, h⟩ := guardO h
      simp only [Bool.or_eq_false_iff, Bool.not_eq_false'] at hh
      obtain ⟨⟨⟨hn, hg⟩, hs⟩, he⟩ := hh
      split at h
      · rename_i kk hf
        obtain ⟨es', hes, rfl⟩ := Option.map_eq_some_iff.mp h
        match args, he with
        | a :: r, _ => exact gdB_of (Gd.of (ok_call F hf hg hn hs (pa_bs (gdl_of ih hes) hs)) (fun _ => rfl) (fun _ => rfl) (fun _ => rfl) (fun _ => rfl) fun _ => rfl) fun i => nofun
      · obtain ⟨hm, h⟩ := guardY h
        by_cases ef : f = "isinstance"
        · rw [if_pos ef] at h
          rw [ef] at hm hg ⊢
          split at h
          · rename_i a t pt
            obtain ⟨hq, h⟩ := guardY h
            simp only [Bool.and_eq_true, Bool.not_eq_true'] at hq
            obtain ⟨⟨q1, q2⟩, q3⟩ := hq
            obtain ⟨x, hx, h⟩ := bindO h
            obtain ⟨ty, hty, h⟩ := bindO h
            cases h
            rw [List.all_cons, Bool.and_eq_true] at hs
            exact gdB_of (Gd.of (ok_isa F hm hg q1 q2 q3 hty hs.1 (ih hx).w) (fun _ => rfl) (fun _ => rfl) (fun _ => rfl) (fun _ => rfl) fun _ => rfl) fun i => nofun
          · cases h
        · rw [if_neg ef] at h
          split at h
          · rename_i b hb
            obtain ⟨es', hes, rfl⟩ := Option.map_eq_some_iff.mp h
            exact gdB_of (gd_bi F hb hm hg hn hs he (gdl_of ih hes).l) fun i => nofun
          · cases h
    · rename_i o m apos args pos
      obtain ⟨hh, h⟩ := guardO h
      simp only [Bool.or_eq_false_iff, Bool.not_eq_false', decide_eq_false_iff_not] at hh
      obtain ⟨⟨⟨⟨hs, hl⟩, he⟩, hlen⟩, hc0⟩ := hh
      split at h
      · rename_i kk hm
        obtain ⟨x, hx, h⟩ := bindO h
        obtain ⟨ys, hys, h⟩ := bindO h
        cases h
        match args, he with
        | a :: r, _ =>
          have hlen : ¬ 10 < r.length + 1 := hlen
          refine gdB_of (Gd.of (ok_me hm (attr_base hc0) hl (by omega) hs (ih hx).w (pa_ws (gdl_of ih hys).l hs)) ?_ ?_ ?_ ?_ fun _ => rfl) fun i => nofun
          all_goals
            rcases meOf_of hm with ⟨_, rfl⟩ | ⟨_, rfl⟩ <;> exact fun _ => rfl
      · cases h
    · rename_i el tg it ifs scope pos
      obtain ⟨hh, h⟩ := guardO h
      simp only [Bool.or_eq_false_iff, Bool.not_eq_false'] at hh
      obtain ⟨t, ht, h⟩ := bindO h
      obtain ⟨hh2, h⟩ := guardO h
      simp only [Bool.or_eq_false_iff, Bool.not_eq_false', decide_eq_true_eq] at hh2
      obtain ⟨i, hi, h⟩ := bindO h
      obtain ⟨cs, hcs, h⟩ := bindO h
      obtain ⟨y, hy, h⟩ := bindO h
      cases h
      have core : PE X (.ListComp el [⟨tg, it, ifs, 0⟩] scope pos) (tN X.K (ev Φ .v (.lc t t.names i cs y))) := by
        refine (pe_lc (wi := tI X.K (evI Φ i)) (g := gT X.K t) (tt := tT X.K (evIfs Φ cs)) (te := tE X.K (ev Φ .v y)) F.calm F.ndX ((ih hi).i tg) (blk_ok F hh2.1) (fun s H CC cl fp => pg_all (F.blkX s H CC cl fp) 9 ht) (fun s H CC cl fp => ifs_of (fun h => ok_all n (F.blkX s H CC cl fp) h) hh.2 hcs)
          (fun s H CC cl fp => (ok_all n (F.blkX s H CC cl fp) hy).v) (notSet_fold hh.1 _)).imp fun σ H Q q => ?_
        rw [show ev Φ .v (.lc t t.names i cs y) = _ from funext ev_lc] at q
        rw [hh2.2]
        exact tLc_of (fun _ h => h) q
      exact gdB_of (Gd.of (core.imp fun σ H Q => tN_of) (fun _ => rfl) (fun _ => rfl) (fun _ => rfl) (fun _ => rfl) fun _ => rfl) (fun i => nofun) fun _ => core
    · rename_i kx vx tg it ifs scope pos
      obtain ⟨hh, h⟩ := guardO h
      simp only [Bool.or_eq_false_iff, Bool.not_eq_false'] at hh
      obtain ⟨t, ht, h⟩ := bindO h
      obtain ⟨hh2, h⟩ := guardO h
      simp only [Bool.or_eq_false_iff, Bool.not_eq_false', decide_eq_true_eq] at hh2
      obtain ⟨i, hi, h⟩ := bindO h
      obtain ⟨cs, hcs, h⟩ := bindO h
      obtain ⟨x, hx, h⟩ := bindO h
      obtain ⟨y, hy, h⟩ := bindO h
      cases h
      have core : PE X (.DictComp kx vx [⟨tg, it, ifs, 0⟩] scope pos) (tN X.K (ev Φ .v (.dc t t.names i cs x y))) := by
        refine (pe_dc (wi := tI X.K (evI Φ i)) (g := gT X.K t) (tt := tT X.K (evIfs Φ cs)) (tk := tE X.K (ev Φ .v x)) (tv := tE X.K (ev Φ .v y)) F.calm F.ndX ((ih hi).i tg) (blk_ok F hh2.1) (fun s H CC cl fp => pg_all (F.blkX s H CC cl fp) 9 ht) (fun s H CC cl fp => ifs_of (fun h => ok_all n (F.blkX s H CC cl fp) h) hh.2 hcs)
          (fun s H CC cl fp => (ok_all n (F.blkX s H CC cl fp) hx).v) (fun s H CC cl fp => (ok_all n (F.blkX s H CC cl fp) hy).v) (notSet_fold hh.1 _)).imp fun σ H Q q => ?_
        rw [show ev Φ .v (.dc t t.names i cs x y) = _ from funext ev_dc] at q
        rw [hh2.2]
        exact tDc_of (fun _ h => h) q
      exact gdB_of (Gd.of (core.imp fun σ H Q => tN_of) (fun _ => rfl) (fun _ => rfl) (fun _ => rfl) (fun _ => rfl) fun _ => rfl) (fun i => nofun) fun _ => core
    · rename_i el tg it ifs tg1 it1 ifs1 scope pos
      obtain ⟨hh, h⟩ := guardO h
      simp only [Bool.or_eq_false_iff, Bool.not_eq_false'] at hh
      obtain ⟨t, ht, h⟩ := bindO h
      obtain ⟨t1, ht1, h⟩ := bindO h
      obtain ⟨hh2, h⟩ := guardO h
      simp only [Bool.or_eq_false_iff, Bool.not_eq_false', decide_eq_true_eq] at hh2
      obtain ⟨i, hi, h⟩ := bindO h
      obtain ⟨cs, hcs, h⟩ := bindO h
      obtain ⟨i1, hi1, h⟩ := bindO h
      obtain ⟨cs1, hcs1, h⟩ := bindO h
      obtain ⟨y, hy, h⟩ := bindO h
      cases h
      have core : PE X (.ListComp el [⟨tg, it, ifs, 0⟩, ⟨tg1, it1, ifs1, 0⟩] scope pos) (tN X.K (ev Φ .v (.lc2 t (t.names ++ t1.names) i cs t1 t1.names i1 cs1 y))) := by
        refine (pe_lc2 (vs1 := t1.names) (wi := tI X.K (evI Φ i)) (g := gT X.K t) (tt := tT X.K (evIfs Φ cs)) (wi1 := tI X.K (evI Φ i1)) (g1 := gT X.K t1) (tt1 := tT X.K (evIfs Φ cs1)) (te := tE X.K (ev Φ .v y)) F.calm F.ndX ((ih hi).i tg) (blk_ok F hh2.1) (fun i hi => by rw [hh2.2]; exact List.mem_append_right _ hi)
          (fun s H CC cl fp => pg_all (F.blkX s H CC cl fp) 9 ht) (fun s H CC cl fp => ifs_of (fun h => ok_all n (F.blkX s H CC cl fp) h) hh.1.1.2 hcs)
          (fun s H CC cl fp => (ok_all n (F.blkX s H CC cl fp) hi1).i tg1) (fun s H CC cl fp => pg_all (F.blkX s H CC cl fp) 9 ht1) (fun s H CC cl fp => ifs_of (fun h => ok_all n (F.blkX s H CC cl fp) h) hh.2 hcs1)
          (fun s H CC cl fp => (ok_all n (F.blkX s H CC cl fp) hy).v) (notSet_fold hh.1.1.1 _) (fun env => notSet_fold hh.1.2 env)).imp fun σ H Q q => ?_
        rw [show ev Φ .v (.lc2 t (t.names ++ t1.names) i cs t1 t1.names i1 cs1 y) = _ from funext ev_lc2] at q
        rw [hh2.2]
        exact tLc2_of (fun _ h => List.mem_append_left _ h) (fun _ h => h) q
      exact gdB_of (Gd.of (core.imp fun σ H Q => tN_of) (fun _ => rfl) (fun _ => rfl) (fun _ => rfl) (fun _ => rfl) fun _ => rfl) (fun i => nofun) fun _ => core
    · rename_i pz
      cases h
      have core : PE X (.Dict [] [] pz) (tN X.K fun _ => .ret (.dict [])) := pe_dnewK.imp fun σ H Q ⟨W, G0, H0, G, ρ, s, q⟩ => fun p hp => q p G (upd H p (.dK [])) (Gr.newOwn s.le hp) hp (same_none s.le hp) ⟨[], upd_same .., .nil⟩
      exact gdB_of (Gd.of (core.imp fun σ H Q => tN_of) (fun _ => rfl) (fun _ => rfl) (fun _ => rfl) (fun _ => rfl) fun _ => rfl) (fun i => nofun) fun _ => core
    · rename_i k0 ks vs pz
      obtain ⟨hh, h⟩ := guardO h
      simp only [Bool.or_eq_false_iff, Bool.not_eq_false', Bool.and_eq_true, decide_eq_true_eq, decide_eq_false_iff_not] at hh
      obtain ⟨⟨hall, hl⟩, h15⟩ := hh
      obtain ⟨ps, hps, rfl⟩ := Option.map_eq_some_iff.mp h
      have core := ok_dic (Φ := Φ) (X := X) (pos := pz) (pps_of ih hl hps) (by rw [List.all_cons, hall.1, hall.2]; rfl) hl (by simp) (by omega)
      exact gdB_of (Gd.of (core.imp fun σ H Q => tN_of) (fun _ => rfl) (fun _ => rfl) (fun _ => rfl) (fun _ => rfl) fun _ => rfl) (fun i => nofun) fun _ => core
    · cases h
end
end Pd

namespace Pd
open PySem PySem.Spec L2
section
variable {K : PySem.W.Frag} {W : Wo} {G0 H0 G H : Hp} {σ : L2.St} {ρ : Env}
/-- what an end is to reach -/
def Fin (K : PySem.W.Frag) (W : Wo) (G0 H0 : Hp) (Gs : Hp) (E : Ends) : Out → Prop
  | .nx ρ => ∀ σ G H, SR K W G0 H0 σ G H ρ → Same Gs G → E.nx σ H
  | .brk ρ => ∀ σ G H, SR K W G0 H0 σ G H ρ → Same Gs G → E.bk σ H
  | .cnt ρ => ∀ σ G H, SR K W G0 H0 σ G H ρ → Same Gs G → E.ct σ H
  | .ret d => ∀ v G H, Gr W G0 H0 G H → Rp K G v d → E.rt v H
theorem Fin.mono {Gs Gt : Hp} {E : Ends} (g : Same Gs Gt) {o : Out} (h : Fin K W G0 H0 Gs E o) : Fin K W G0 H0 Gt E o := by
  cases o with
  | nx ρ => exact fun σ G H s q => h σ G H s (g.trans q)
  | brk ρ => exact fun σ G H s q => h σ G H s (g.trans q)
  | cnt ρ => exact fun σ G H s q => h σ G H s (g.trans q)
  | ret d => exact h
def tS (K : PySem.W.Frag) (f : Env → Tree Out) : TS := fun E σ H => ∃ W G0 H0 G ρ, SR K W G0 H0 σ G H ρ ∧ (f ρ).All (Fin K W G0 H0 G E)
theorem SR.frz (s : SR K W G0 H0 σ G H ρ) (i : Nat) : ∃ G', SR K W G0 H0 σ G' H (frzAt ρ i) ∧ Same G G' := by
  unfold frzAt
  split
  · rename_i d e
    obtain ⟨v, hv, r⟩ := s.slot i _ e
    -- the frozen slot's new reading
    have core : ∀ (p : Addr) (o : HO), v = .ref p → H p = some o → OwnAt W H0 G p → (∀ G', Same G G' → G' p = some o → Rp K G' (.ref p) d) → ∃ G', SR K W G0 H0 σ G' H (ρ.set i (some (.v d))) ∧ Same G G' := by
      rintro p o rfl hp oa rr
      refine ⟨upd G p o, ⟨s.gr.fix oa.h0 oa.g hp, s.box, fun b hb => ?_, by rw [List.length_set]; exact s.len, fun j b h => ?_, fun j k d1 d2 u hn h1 h2 h3 h4 => ?_⟩, same_upd oa.g⟩
      · rw [upd_ne fun z => oa.b (by rw [← z]; exact hb)]; exact s.nob b hb
      · by_cases hj : i = j
        · subst hj
          have hl : i < ρ.length := (List.getElem?_eq_some_iff.mp e).1
          rw [List.getElem?_set_self hl] at h
          cases h
          exact ⟨_, hv, .v (rr _ (same_upd oa.g) (upd_same ..))⟩
        · rw [List.getElem?_set_ne hj] at h
          obtain ⟨u, e2, r2⟩ := s.slot j b h
          refine ⟨u, e2, ?_⟩
          cases r2 with
          | v r2 => exact .v (r2.mono (same_upd oa.g))
          | l h' o2 r2 => exact .l h' ⟨by rw [upd_ne fun z => s.apart i j _ _ _ hj e h hv (by rw [← z]; exact e2)]; exact o2.g, o2.h0, o2.b⟩ (r2.mono (same_upd oa.g))
          | d h' o2 r2 => exact .d h' ⟨by rw [upd_ne fun z => s.apart i j _ _ _ hj e h hv (by rw [← z]; exact e2)]; exact o2.g, o2.h0, o2.b⟩ (r2.mono (same_upd oa.g))
          | box z => exact .box z
      · have nj : ∀ (j : Nat) (d' : D), (ρ.set i (some (B.v d)))[j]? = some (some (B.own d')) → ρ[j]? = some (some (B.own d')) := fun j d' h => by
          by_cases hj : i = j
          · subst hj
            have hl : i < ρ.length := (List.getElem?_eq_some_iff.mp e).1
            rw [List.getElem?_set_self hl] at h
            cases h
          · rw [List.getElem?_set_ne hj] at h
            exact h
        exact s.apart j k d1 d2 u hn (nj _ _ h1) (nj _ _ h2) h3 h4
    cases r with
    | l h oa r => exact core _ _ rfl h oa fun G' g h => .lst h (r.mono g)
    | d h oa r => exact core _ _ rfl h oa fun G' g h => .dic h (r.mono g)
  · exact ⟨G, s, Same.refl G⟩
def frzAll : List Nat → Env → Env
  | [], ρ => ρ
  | i :: is, ρ => frzAll is (frzAt ρ i)
theorem SR.frzAll : ∀ (is : List Nat) {G : Hp} {ρ : Env}, SR K W G0 H0 σ G H ρ → ∃ G', SR K W G0 H0 σ G' H (frzAll is ρ) ∧ Same G G'
  | [], G, _, s => ⟨G, s, Same.refl G⟩
  | i :: is, _, _, s => let ⟨_, s', g⟩ := s.frz i; let ⟨G2, s2, g2⟩ := SR.frzAll is s'; ⟨G2, s2, g.trans g2⟩
theorem exs_one (Φ : Phi) (s : S) (ρ : Env) : exs Φ [s] ρ = ex Φ s ρ := by
  show (ex Φ s ρ >>= fun o => match o with | .nx ρ' => exs Φ [] ρ' | o => Tree.ret o) = _
  rw [← Tree.bind_ret' (ex Φ s ρ)]
  congr 1
  · exact Tree.bind_ret' _
  · funext o; cases o <;> rfl
theorem exs_frz (Φ : Phi) (ss : List S) : ∀ (is : List Nat) (ρ : Env), exs Φ (frzs is ++ ss) ρ = exs Φ ss (frzAll is ρ)
  | [], _ => rfl
  | i :: is, ρ => exs_frz Φ ss is (frzAt ρ i)
theorem exs_app (Φ : Phi) : ∀ (a b : List S) (ρ : Env), exs Φ (a ++ b) ρ = (exs Φ a ρ >>= fun o => match o with | .nx ρ' => exs Φ b ρ' | o => Tree.ret o)
  | [], b, ρ => rfl
  | s :: a, b, ρ => by
    show (ex Φ s ρ >>= fun o => match o with | .nx ρ' => exs Φ (a ++ b) ρ' | o => Tree.ret o) = ((ex Φ s ρ >>= fun o => match o with | .nx ρ' => exs Φ a ρ' | o => Tree.ret o) >>= _)
    rw [Tree.bind_assoc']
    congr 1
    funext o
    cases o <;> first | exact exs_app Φ a b _ | rfl
end
section
variable {X : Cx} {C : Ctx} {k : Nat} {Φ : Phi}
theorem ps_frz {st : Stmt} {s : S} {is : List Nat} (h : PS X st (tS X.K (ex Φ s))) : PS X st (tS X.K (exs Φ (frzs is ++ [s]))) := h.imp fun E σ H ⟨W, G0, H0, G, ρ, sr, q⟩ => by
  rw [exs_frz, exs_one] at q
  obtain ⟨G', s', g⟩ := sr.frzAll is
  exact ⟨W, G0, H0, G', _, s', q.mono fun o h => h.mono g⟩
theorem ps_withF {st : Stmt} {s : S} {e : E} (h : PS X st (tS X.K (ex Φ s))) : PS X st (tS X.K (exs Φ (withF e s))) := ps_frz h
theorem ps_testF {st : Stmt} {s : S} {e : E} (h : PS X st (tS X.K (ex Φ s))) : PS X st (tS X.K (exs Φ (testF e s))) := ps_frz h
theorem pss_all_cons {st : Stmt} {rest : List Stmt} {a b : List S} (h1 : PS X st (tS X.K (exs Φ a))) (h2 : PSs X rest (tS X.K (exs Φ b))) : PSs X (st :: rest) (tS X.K (exs Φ (a ++ b))) := by
  refine (pss_cons h1 h2).imp fun E σ H ⟨W, G0, H0, G, ρ, sr, q⟩ => ⟨W, G0, H0, G, ρ, sr, ?_⟩
  rw [exs_app] at q
  refine (all_bind' q).mono fun o ho => ?_
  cases o with
  | nx ρ' => exact fun σ' G' H' s' g => ⟨W, G0, H0, G', ρ', s', Tree.All.mono (show (exs Φ b ρ').All (Fin X.K W G0 H0 G E) from ho) fun o h => h.mono g⟩
  | brk ρ' => exact ho
  | cnt ρ' => exact ho
  | ret d => exact ho
theorem names_of_gName {i : Nat} {v : V} {σ : L2.St} {H : Hp} {Q : L2.St → Hp → Prop} : gName i v σ H Q = Q (σ.set i (some v)) H := rfl
/-- an own slot is set -/
theorem SR.setOwn {K : PySem.W.Frag} {W : Wo} {G0 H0 G H : Hp} {σ : L2.St} {ρ : Env} (s : SR K W G0 H0 σ G H ρ) {i : Nat} {p : Addr} {d : D} (hp : OwnAt W H0 G p) (o : OwnV K G H p d) (fresh : ∀ j, j ≠ i → σ[j]? = some (some (.ref p)) → ∀ d', ρ[j]? ≠ some (some (.own d'))) : SR K W G0 H0 (σ.set i (some (.ref p))) G H (ρ.set i (some (.own d))) := by
  refine ⟨s.gr, s.box, s.nob, by rw [List.length_set, List.length_set]; exact s.len, fun j b h => ?_, fun j k d1 d2 u hn h1 h2 h3 h4 => ?_⟩
  · by_cases hj : i = j
    · subst hj
      have hl : i < ρ.length := by
        rw [← List.length_set (as := ρ) (i := i) (a := some (B.own d))]
        exact (List.getElem?_eq_some_iff.mp h).1
      rw [List.getElem?_set_self hl] at h
      cases h
      refine ⟨.ref p, by rw [List.getElem?_set_self (by rw [← s.len]; exact hl)], ?_⟩
      cases d with
      | list ds => obtain ⟨vs, h1, r⟩ := o; exact .l h1 hp r
      | dict kvs => obtain ⟨ks, h1, r⟩ := o; exact .d h1 hp r
      | _ => exact False.elim o
    · rw [List.getElem?_set_ne hj] at h
      obtain ⟨u, e, r⟩ := s.slot j b h
      exact ⟨u, by rw [List.getElem?_set_ne hj]; exact e, r⟩
  · by_cases hj : i = j
    · subst hj
      have hk : i ≠ k := hn
      have hl : i < σ.length := by
        rw [← List.length_set (as := σ) (i := i) (a := some (V.ref p))]
        exact (List.getElem?_eq_some_iff.mp h3).1
      rw [List.getElem?_set_self hl] at h3
      cases h3
      rw [List.getElem?_set_ne hk] at h2 h4
      exact fresh k (Ne.symm hk) h4 d2 h2
    · by_cases hk : i = k
      · subst hk
        have hl : i < σ.length := by
          rw [← List.length_set (as := σ) (i := i) (a := some (V.ref p))]
          exact (List.getElem?_eq_some_iff.mp h4).1
        rw [List.getElem?_set_self hl] at h4
        cases h4
        rw [List.getElem?_set_ne hj] at h1 h3
        exact fresh j (Ne.symm hj) h3 d1 h1
      · rw [List.getElem?_set_ne hj] at h1 h3
        rw [List.getElem?_set_ne hk] at h2 h4
        exact s.apart j k d1 d2 u hn h1 h2 h3 h4
/-- name = a new list or dict -/
theorem t_own {i : Nat} {e : E} {E' : Ends} {σ : L2.St} {H : Hp} (h : tS X.K (ex Φ (.own i e)) E' σ H) : tAsg (tN X.K (ev Φ .v e)) (gName i) E' σ H := by
  obtain ⟨W, G0, H0, G, ρ, s, q⟩ := h
  refine ⟨W, G0, H0, G, ρ, s, (all_bind' q).mono fun d hd p G' H' g h1 h2 o => ?_⟩
  have hd : ∀ σ G2 H, SR X.K W G0 H0 σ G2 H (ρ.set i (some (.own d))) → Same G G2 → E'.nx σ H := hd
  have s' := s.mono g
  have h0 : H0 p = none := by
    cases z : H0 p with
    | none => rfl
    | some u => exact absurd h1 (s.gr.dom p (by rw [z]; simp))
  refine hd _ G' H' (s'.setOwn ⟨h2, h0, not_box s.box h1⟩ o fun j _ hj d' hd' => ?_) g.g
  -- a slot that held p before: p was no object then
  obtain ⟨v, e1, r⟩ := s.slot j _ hd'
  rw [hj] at e1
  cases e1
  cases r with
  | l h _ _ => rw [h1] at h; cases h
  | d h _ _ => rw [h1] at h; cases h
theorem t_asg {i : Nat} {e : E} {E' : Ends} {σ : L2.St} {H : Hp} (h : tS X.K (ex Φ (.asg (.name i) e)) E' σ H) : tAsg (tE X.K (ev Φ .v e)) (gName i) E' σ H := by
  obtain ⟨W, G0, H0, G, ρ, s, q⟩ := h
  refine ⟨W, G0, H0, G, ρ, s, (all_bind' q).mono fun d hd v G' H' g r => ?_⟩
  have hd : ∀ σ G2 H, SR X.K W G0 H0 σ G2 H (ρ.set i (some (.v d))) → Same G G2 → E'.nx σ H := hd
  exact hd _ G' H' ((s.mono g).set r) g.g
/-- d = {..} on one line -/
theorem ps_setDc {i : Nat} {y : Str} {py : Pos} {kx vx tg iter : Expr} {ifs : List Expr} {scope : Scope} {own : List (Str × Nat)} {pos spos : Pos} {wi : TI} {g : TG} {tt : TT} {tk tv : TE} (hc : X.calm = true) (hN : X.N.Nodup) (hy : X.N[i]? = some y) (hyl : X.env.scope.names.lookup y = some .local)
    (hsw : swapsWith (.DictComp kx vx [⟨tg, iter, ifs, 0⟩] scope pos) (some (.Name y py)) spos.line X.env = pure true) (hi : PI X tg iter wi) (ok : BlkOk X.N X.env.scope scope own)
    (hg : ∀ (s : Shared) (H : Hp) (C : Addr) (cl : List (Str × Addr)) (fp : List Addr), PG (X.blk s H scope (compEnvC scope cl C X.env) fp) tg g) (ht : ∀ (s : Shared) (H : Hp) (C : Addr) (cl : List (Str × Addr)) (fp : List Addr), PTs (X.blk s H scope (compEnvC scope cl C X.env) fp) ifs tt)
    (hk : ∀ (s : Shared) (H : Hp) (C : Addr) (cl : List (Str × Addr)) (fp : List Addr), PE (X.blk s H scope (compEnvC scope cl C X.env) fp) kx tk)
    (he : ∀ (s : Shared) (H : Hp) (C : Addr) (cl : List (Str × Addr)) (fp : List Addr), PE (X.blk s H scope (compEnvC scope cl C X.env) fp) vx tv) (hs : ∀ x, foldedSetIterable iter X.env x = pure x) :
    PS X (.Assign [.Name y py] (.DictComp kx vx [⟨tg, iter, ifs, 0⟩] scope pos) spos) (tAsg (tDc wi g tt tk tv (own.map (·.2))) (gName i)) := by
  refine ⟨fun pins s σ H D I h => ?_⟩
  rw [exec_Assign_Name_used _ _ _ _ hsw]
  refine wpAny_bind (wpAny_standAt (wpAny_bind ?_))
  show wpAny _ X.A (do let _ ← comprehension (.DictComp kx vx [⟨tg, iter, ifs, 0⟩] scope pos) scope X.env (firstIterPos [⟨tg, iter, ifs, 0⟩] pos) newDict false (eval iter X.env) (some (assign (.Name y py) X.env))) _ _ s
  have h : tDc wi g tt tk tv (own.map (·.2)) σ H (fun x H1 => gName i x σ H1 D.nx) := h
  refine wpAny_bind (thn (dc_core (Qf := fun _ s' => SP X pins D .next s') hc hN I hi ok hg ht hk he hs h fun L C s' m H' I' q hn f => ?_) fun _ s' hq => wpAny_pure (wpAny_pure hq))
  show wpAny _ _ (assign (.Name y py) X.env (.ref L)) _ _ _
  refine wpAny_assign_Name (store_ok2 (v := V.ref L) I' hN hy (.inl hyl) rfl (fun s2 I2 ⟨a, sb, ha⟩ => ?_) (.inr hyl))
  obtain ⟨f0, f1, f2, f3, f4, f5⟩ := f
  have haC : C ≠ a := by
    rcases ha with z | z
    · rw [z]; exact f1
    · exact fun e => f4 y a z e.symm
  refine ⟨m, hn.sameBut sb haC, fun h3 sb3 => ?_⟩
  exact ⟨_, H', I2.turned (t' := s2.toks) (fun b o hb e => (sb3.2 b hb).trans e) f0 f1 f3 f4 f5, q⟩
theorem sw_b {e : Expr} {x : Str} {py : Pos} {l : Nat} {env : PySem.Env} : swapsWith e (some (.Name x py)) l env = pure false ∨
    (swapsWith e (some (.Name x py)) l env = pure true ∧ env.kindOf x = some .local ∧ ((∃ el gs sc p, e = .ListComp el gs sc p) ∨ (∃ kx vx gs sc p, e = .DictComp kx vx gs sc p) ∨ ∃ el gs sc p, e = .SetComp el gs sc p)) := by
  have key : ∀ {scope : Scope} {n : Nat} {P : Prop}, P → (pure (env.blockKind == .function && env.kindOf x == some .local && py.line == n && !(scope.names.any fun (n, k) => n == x && (k == .local || k == .cell))) : Sem Bool) = pure false ∨
      ((pure (env.blockKind == .function && env.kindOf x == some .local && py.line == n && !(scope.names.any fun (n, k) => n == x && (k == .local || k == .cell))) : Sem Bool) = pure true ∧ env.kindOf x = some .local ∧ P) := fun {scope n P} hP => by
    cases hb : (env.blockKind == .function && env.kindOf x == some .local && py.line == n && !(scope.names.any fun (n, k) => n == x && (k == .local || k == .cell))) with
    | false => exact .inl rfl
    | true =>
      simp only [Bool.and_eq_true] at hb
      exact .inr ⟨rfl, by simpa using hb.1.1.2, hP⟩
  cases e <;> first
    | exact .inl rfl
    | exact key (.inl ⟨_, _, _, _, rfl⟩)
    | exact key (.inr (.inl ⟨_, _, _, _, _, rfl⟩))
    | exact key (.inr (.inr ⟨_, _, _, _, rfl⟩))
/-- the context at a def's top -/
structure FitsS (C : Ctx) (k : Nat) (Φ : Phi) (X : Cx) : Prop extends Fits C k Φ X where
  po : PassesOwn (model X.prog X.w) X.A X.env X.xe
  kind : X.env.scope.kind = .function
theorem ps_name (F : FitsS C k Φ X) {x : Str} {i : Nat} {e : Expr} {y : E} {py spos : Pos} (hs : storeB C x = true) (hi : slotOf x C.N = some i) (h : trE C dep e = some y) (hn : isNew y = true) :
    PS X (.Assign [.Name x py] e spos) (tAsg (tN X.K (ev Φ .v y)) (gName i)) := by
  obtain ⟨l1, l2⟩ := F.loc hs
  rcases sw_b (e := e) (x := x) (py := py) (l := spos.line) (env := X.env) with hw | ⟨hw, hloc, he⟩
  · exact ps_set F.ndX (F.ix hi) l1 ((ok_all dep F.toFits h).n hn) hw l2
  · have hloc : X.env.scope.names.lookup x = some .local := hloc
    rcases he with ⟨el, gs, scope, pos, rfl⟩ | ⟨kx, vx, gs, scope, pos, rfl⟩ | ⟨el, gs, scope, pos, rfl⟩
    · unfold dep trE at h
      split at h <;> first | (rename_i heq; cases heq) | skip
      · rename_i tg it ifs
        obtain ⟨hh, h⟩ := guardO h
        simp only [Bool.or_eq_false_iff, Bool.not_eq_false'] at hh
        obtain ⟨t, ht, h⟩ := bindO h
        obtain ⟨hh2, h⟩ := guardO h
        simp only [Bool.or_eq_false_iff, Bool.not_eq_false', decide_eq_true_eq] at hh2
        obtain ⟨i', hi', h⟩ := bindO h
        obtain ⟨cs, hcs, h⟩ := bindO h
        obtain ⟨y', hy, h⟩ := bindO h
        cases h
        refine (ps_setLc (wi := tI X.K (evI Φ i')) (g := gT X.K t) (tt := tT X.K (evIfs Φ cs)) (te := tE X.K (ev Φ .v y')) F.calm F.ndX (F.ix hi) hloc hw ((ok_all _ F.toFits hi').i tg) (blk_ok F.toFits hh2.1) (fun s H CC cl fp => pg_all (F.toFits.blkX s H CC cl fp) 9 ht)
          (fun s H CC cl fp => ifs_of (fun h => ok_all _ (F.toFits.blkX s H CC cl fp) h) hh.2 hcs) (fun s H CC cl fp => (ok_all _ (F.toFits.blkX s H CC cl fp) hy).v) (notSet_fold hh.1 _)).imp fun E σ H q => ?_
        have q : tN X.K (ev Φ .v (.lc t t.names i' cs y')) σ H (fun x H1 => gName i x σ H1 E.nx) := q
        rw [show ev Φ .v (.lc t t.names i' cs y') = _ from funext ev_lc] at q
        rw [hh2.2]
        exact tLc_of (fun _ h => h) q
      · rename_i tg it ifs tg1 it1 ifs1
        obtain ⟨hh, h⟩ := guardO h
        simp only [Bool.or_eq_false_iff, Bool.not_eq_false'] at hh
        obtain ⟨t, ht, h⟩ := bindO h
        obtain ⟨t1, ht1, h⟩ := bindO h
        obtain ⟨hh2, h⟩ := guardO h
        simp only [Bool.or_eq_false_iff, Bool.not_eq_false', decide_eq_true_eq] at hh2
        obtain ⟨i', hi', h⟩ := bindO h
        obtain ⟨cs, hcs, h⟩ := bindO h
        obtain ⟨i1, hi1, h⟩ := bindO h
        obtain ⟨cs1, hcs1, h⟩ := bindO h
        obtain ⟨y', hy, h⟩ := bindO h
        cases h
        refine (ps_setLc2 (vs1 := t1.names) (wi := tI X.K (evI Φ i')) (g := gT X.K t) (tt := tT X.K (evIfs Φ cs)) (wi1 := tI X.K (evI Φ i1)) (g1 := gT X.K t1) (tt1 := tT X.K (evIfs Φ cs1)) (te := tE X.K (ev Φ .v y')) F.calm F.ndX (F.ix hi) hloc hw ((ok_all _ F.toFits hi').i tg) (blk_ok F.toFits hh2.1) (fun i hi => by rw [hh2.2]; exact List.mem_append_right _ hi)
          (fun s H CC cl fp => pg_all (F.toFits.blkX s H CC cl fp) 9 ht) (fun s H CC cl fp => ifs_of (fun h => ok_all _ (F.toFits.blkX s H CC cl fp) h) hh.1.1.2 hcs)
          (fun s H CC cl fp => (ok_all _ (F.toFits.blkX s H CC cl fp) hi1).i tg1) (fun s H CC cl fp => pg_all (F.toFits.blkX s H CC cl fp) 9 ht1) (fun s H CC cl fp => ifs_of (fun h => ok_all _ (F.toFits.blkX s H CC cl fp) h) hh.2 hcs1)
          (fun s H CC cl fp => (ok_all _ (F.toFits.blkX s H CC cl fp) hy).v) (notSet_fold hh.1.1.1 _) (fun env => notSet_fold hh.1.2 env)).imp fun E σ H q => ?_
        have q : tN X.K (ev Φ .v (.lc2 t (t.names ++ t1.names) i' cs t1 t1.names i1 cs1 y')) σ H (fun x H1 => gName i x σ H1 E.nx) := q
        rw [show ev Φ .v (.lc2 t (t.names ++ t1.names) i' cs t1 t1.names i1 cs1 y') = _ from funext ev_lc2] at q
        rw [hh2.2]
        exact tLc2_of (fun _ h => List.mem_append_left _ h) (fun _ h => h) q
      · cases h
    · unfold dep trE at h
      split at h <;> first | (rename_i heq; cases heq) | skip
      · rename_i tg it ifs
        obtain ⟨hh, h⟩ := guardO h
        simp only [Bool.or_eq_false_iff, Bool.not_eq_false'] at hh
        obtain ⟨t, ht, h⟩ := bindO h
        obtain ⟨hh2, h⟩ := guardO h
        simp only [Bool.or_eq_false_iff, Bool.not_eq_false', decide_eq_true_eq] at hh2
        obtain ⟨i', hi', h⟩ := bindO h
        obtain ⟨cs, hcs, h⟩ := bindO h
        obtain ⟨x', hx, h⟩ := bindO h
        obtain ⟨y', hy, h⟩ := bindO h
        cases h
        refine (ps_setDc (wi := tI X.K (evI Φ i')) (g := gT X.K t) (tt := tT X.K (evIfs Φ cs)) (tk := tE X.K (ev Φ .v x')) (tv := tE X.K (ev Φ .v y')) F.calm F.ndX (F.ix hi) hloc hw ((ok_all _ F.toFits hi').i tg) (blk_ok F.toFits hh2.1) (fun s H CC cl fp => pg_all (F.toFits.blkX s H CC cl fp) 9 ht)
          (fun s H CC cl fp => ifs_of (fun h => ok_all _ (F.toFits.blkX s H CC cl fp) h) hh.2 hcs) (fun s H CC cl fp => (ok_all _ (F.toFits.blkX s H CC cl fp) hx).v) (fun s H CC cl fp => (ok_all _ (F.toFits.blkX s H CC cl fp) hy).v) (notSet_fold hh.1 _)).imp fun E σ H q => ?_
        have q : tN X.K (ev Φ .v (.dc t t.names i' cs x' y')) σ H (fun x H1 => gName i x σ H1 E.nx) := q
        rw [show ev Φ .v (.dc t t.names i' cs x' y') = _ from funext ev_dc] at q
        rw [hh2.2]
        exact tDc_of (fun _ h => h) q
      · cases h
    · unfold dep trE at h
      split at h <;> first | (rename_i heq; cases heq) | skip
      cases h
end
end Pd

namespace Pd
open PySem PySem.Spec L2
section
variable {X : Cx} {C : Ctx} {k : Nat} {Φ : Phi}
theorem isNew_comp {e : Expr} {y : E} (h : trE C dep e = some y) (hn : isNew y = false) {x : Str} {py : Pos} {l : Nat} {env : PySem.Env} : swapsWith e (some (.Name x py)) l env = pure false := by
  rcases sw_b (e := e) (x := x) (py := py) (l := l) (env := env) with hw | ⟨_, _, he⟩
  · exact hw
  · exfalso
    rcases he with ⟨el, gs, scope, pos, rfl⟩ | ⟨kx, vx, gs, scope, pos, rfl⟩ | ⟨el, gs, scope, pos, rfl⟩
    · unfold dep trE at h
      split at h <;> first | (rename_i heq; cases heq; done) | skip
      · obtain ⟨hh, h⟩ := guardO h
        obtain ⟨t, ht, h⟩ := bindO h
        obtain ⟨hh2, h⟩ := guardO h
        obtain ⟨i', hi', h⟩ := bindO h
        obtain ⟨cs, hcs, h⟩ := bindO h
        obtain ⟨y', hy, h⟩ := bindO h
        cases h
        cases hn
      · obtain ⟨hh, h⟩ := guardO h
        obtain ⟨t, ht, h⟩ := bindO h
        obtain ⟨t1, ht1, h⟩ := bindO h
        obtain ⟨hh2, h⟩ := guardO h
        obtain ⟨i', hi', h⟩ := bindO h
        obtain ⟨cs, hcs, h⟩ := bindO h
        obtain ⟨i1, hi1, h⟩ := bindO h
        obtain ⟨cs1, hcs1, h⟩ := bindO h
        obtain ⟨y', hy, h⟩ := bindO h
        cases h
        cases hn
      · cases h
    · unfold dep trE at h
      split at h <;> first | (rename_i heq; cases heq; done) | skip
      · obtain ⟨hh, h⟩ := guardO h
        obtain ⟨t, ht, h⟩ := bindO h
        obtain ⟨hh2, h⟩ := guardO h
        obtain ⟨i', hi', h⟩ := bindO h
        obtain ⟨cs, hcs, h⟩ := bindO h
        obtain ⟨x', hx, h⟩ := bindO h
        obtain ⟨y', hy, h⟩ := bindO h
        cases h
        cases hn
      · cases h
    · unfold dep trE at h
      split at h <;> first | (rename_i heq; cases heq; done) | skip
      cases h
theorem ip_all : ∀ op : Operator, PIp X op (rV2 X.K (dAug op)) := by
  intro op pins s σ H x y v u Q I rx ry h
  obtain ⟨W, G, dx, dy, le, hx, hy, h⟩ := h
  cases op <;> try exact False.elim h
  · cases hx <;> try exact False.elim h
    · rename_i i
      cases hy <;> try exact False.elim h
      rename_i j
      exact iop_add pins s σ H _ _ v u Q I rx ry ⟨i, j, rfl, rfl, Wn.flat le h (.int _)⟩
    · rename_i x
      cases hy <;> try exact False.elim h
      rename_i y
      obtain ⟨hb, h⟩ := all_guard h
      exact iop_add_str pins s σ H _ _ v u Q I rx ry ⟨x, y, rfl, rfl, by rw [← lim_eq]; exact of_decide_eq_true hb, Wn.flat le h (.str _)⟩
  · cases hx <;> try exact False.elim h
    rename_i i
    cases hy <;> try exact False.elim h
    rename_i j
    exact iop_sub pins s σ H _ _ v u Q I rx ry ⟨i, j, rfl, rfl, Wn.flat le h (.int _)⟩
  · cases hx <;> try exact False.elim h
    rename_i i
    cases hy <;> try exact False.elim h
    rename_i j
    obtain ⟨hb, h⟩ := all_guard h
    exact iop_mul pins s σ H _ _ v u Q I rx ry ⟨i, j, rfl, rfl, (by rw [Bool.or_eq_true] at hb; exact hb.imp small_of small_of), Wn.flat le h (.int _)⟩
theorem t_aug {i : Nat} {op : Operator} {e : E} {E' : Ends} {σ : L2.St} {H : Hp} (h : tS X.K (ex Φ (.aug i op e)) E' σ H) : tAug i (tE X.K (ev Φ .v e)) (rV2 X.K (dAug op)) E' σ H := by
  obtain ⟨W, G0, H0, G, ρ, s, q⟩ := h
  have q : (rd ρ i >>= fun x => ev Φ .v e ρ >>= fun y => dAug op x y >>= fun z => Tree.ret (Out.nx (ρ.set i (some (.v z))))).All _ := q
  have q := all_bind' q
  unfold rd at q
  split at q
  · rename_i d hd
    obtain ⟨v, hv, r⟩ := s.slot i _ hd
    cases r with
    | v r =>
      have q : (ev Φ .v e ρ >>= fun y => dAug op d y >>= fun z => Tree.ret (Out.nx (ρ.set i (some (.v z))))).All _ := q
      refine ⟨v, hv, W, G0, H0, G, ρ, s, (all_bind' q).mono fun d2 h2 y G1 H1 g1 r1 => ⟨W, G1, d, d2, g1.le, r.mono g1.g, r1, (all_bind' h2).mono fun z hz w G2 H2 g2 r2 => ?_⟩⟩
      have hz : ∀ σ G2 H, SR X.K W G0 H0 σ G2 H (ρ.set i (some (.v z))) → Same G G2 → E'.nx σ H := hz
      exact hz _ G2 H2 ((s.mono (g1.trans g2)).set r2) (g1.trans g2).g
  · exact False.elim q
theorem set_same {α : Type} {l : List α} {i : Nat} {a : α} (h : l[i]? = some a) : l.set i a = l := by
  refine List.ext_getElem? fun j => ?_
  by_cases hj : i = j
  · subst hj
    rw [List.getElem?_set_self (List.getElem?_eq_some_iff.mp h).1, h]
  · rw [List.getElem?_set_ne hj]
/-- the own list of slot i is written -/
theorem SR.wr {K : PySem.W.Frag} {W : Wo} {G0 H0 G H : Hp} {σ : L2.St} {ρ : Env} (s : SR K W G0 H0 σ G H ρ) {i : Nat} {p : Addr} {d0 d : D} {o0 o : HO} (hi : ρ[i]? = some (some (.own d0))) (hs : σ[i]? = some (some (.ref p))) (hp : H p = some o0) (oa : OwnAt W H0 G p) (ho : OwnV K G (upd H p o) p d) : SR K W G0 H0 σ G (upd H p o) (ρ.set i (some (.own d))) := by
  have old : ∀ {b : Addr} {u : HO}, b ≠ p → H b = some u → upd H p o b = some u := fun hb h => by rw [upd_ne hb]; exact h
  refine ⟨⟨fun b u h n => ?_, s.gr.g, fun b u h => ?_, s.gr.sep, fun b h => ?_, fun bo => ?_⟩, ?_, s.nob, by rw [List.length_set]; exact s.len, fun j b h => ?_, fun j k d1 d2 u hn h1 h2 h3 h4 => ?_⟩
  · exact old (ne_of_none h oa.h0) (s.gr.old b u h n)
  · exact old (ne_of_none h oa.g) (s.gr.le _ _ h)
  · by_cases hb : b = p
    · subst hb; rw [upd_same]; simp
    · rw [upd_ne hb]; exact s.gr.dom b h
  · intro q hq
    obtain ⟨cs, x, y, h1, h2, h3, h4⟩ := s.box q hq
    obtain ⟨n1, n2⟩ := boxA_ne hq oa.b
    exact ⟨cs, x, y, h1, old n1 h2, old n2 h3, h4⟩
  · intro q hq
    obtain ⟨cs, x, y, h1, h2, h3, h4⟩ := s.box q hq
    obtain ⟨n1, n2⟩ := boxA_ne hq oa.b
    exact ⟨cs, x, y, h1, old n1 h2, old n2 h3, h4⟩
  · by_cases hj : i = j
    · subst hj
      rw [List.getElem?_set_self (List.getElem?_eq_some_iff.mp hi).1] at h
      cases h
      refine ⟨.ref p, hs, ?_⟩
      cases d with
      | list ds => obtain ⟨vs, h1, r⟩ := ho; exact .l h1 oa r
      | dict kvs => obtain ⟨ks, h1, r⟩ := ho; exact .d h1 oa r
      | _ => exact False.elim ho
    · rw [List.getElem?_set_ne hj] at h
      obtain ⟨u, e, r⟩ := s.slot j b h
      refine ⟨u, e, ?_⟩
      cases r with
      | v r => exact .v r
      | l h' o2 r => exact .l (old (fun z => s.apart i j _ _ _ hj hi h hs (by rw [← z]; exact e)) h') o2 r
      | d h' o2 r => exact .d (old (fun z => s.apart i j _ _ _ hj hi h hs (by rw [← z]; exact e)) h') o2 r
      | box z => exact .box z
  · have nj : ∀ (j : Nat) (d' : D), (ρ.set i (some (B.own d)))[j]? = some (some (B.own d')) → ∃ d'', ρ[j]? = some (some (B.own d'')) := fun j d' h => by
      by_cases hj : i = j
      · subst hj; exact ⟨_, hi⟩
      · rw [List.getElem?_set_ne hj] at h; exact ⟨_, h⟩
    obtain ⟨_, e1⟩ := nj _ _ h1
    obtain ⟨_, e2⟩ := nj _ _ h2
    exact s.apart j k _ _ u hn e1 e2 h3 h4
/-- own slot's reading -/
theorem SR.ownL {K : PySem.W.Frag} {W : Wo} {G0 H0 G H : Hp} {σ : L2.St} {ρ : Env} (s : SR K W G0 H0 σ G H ρ) {i : Nat} {ds : List D} (hi : ρ[i]? = some (some (.own (.list ds)))) : ∃ p vs, σ[i]? = some (some (.ref p)) ∧ H p = some (.lst vs) ∧ OwnAt W H0 G p ∧ Rps K G vs ds := by
  obtain ⟨v, e, r⟩ := s.slot i _ hi
  cases r with
  | l h oa r => exact ⟨_, _, e, h, oa, r⟩
theorem t_ext {i : Nat} {e : E} {E' : Ends} {σ : L2.St} {H : Hp} (h : tS X.K (ex Φ (.ext i e)) E' σ H) :
    ∃ W G0 H0 G ρ p ds vs, SR X.K W G0 H0 σ G H ρ ∧ ρ[i]? = some (some (.own (.list ds))) ∧ σ[i]? = some (some (.ref p)) ∧ H p = some (.lst vs) ∧ OwnAt W H0 G p ∧ Rps X.K G vs ds ∧
      tE X.K (ev Φ .v e) σ H (fun y H1 => ∃ b zs, y = .ref b ∧ H1 p = some (.lst vs) ∧ H1 b = some (.lst zs) ∧ vs.length + zs.length ≤ sizeLine ∧ E'.nx σ (upd H1 p (.lst (vs ++ zs)))) := by
  obtain ⟨W, G0, H0, G, ρ, s, q⟩ := h
  have q : (match ρ[i]? with
    | some (some (.own (.list xs))) => do
      let y ← ev Φ .v e ρ
      let ys ← asLst y
      guard (decide (xs.length + ys.length ≤ lim))
      Tree.ret (Out.nx (ρ.set i (some (.own (.list (xs ++ ys))))))
    | _ => Tree.err).All _ := q
  split at q
  · rename_i xs hi
    obtain ⟨p, vs, e1, h1, oa, r⟩ := s.ownL hi
    refine ⟨W, G0, H0, G, ρ, p, xs, vs, s, hi, e1, h1, oa, r, W, G0, H0, G, ρ, s, (all_bind' q).mono fun d hd y G1 H1 g1 r1 => ?_⟩
    cases r1 <;> try exact False.elim hd
    rename_i a zs ds ha rz
    obtain ⟨hb, hd⟩ := all_guard (show (guard (decide (xs.length + ds.length ≤ lim)) >>= fun _ => Tree.ret (Out.nx (ρ.set i (some (.own (.list (xs ++ ds))))))).All _ from hd)
    have s1 := s.mono g1
    have hp1 := g1.old _ _ h1 oa.b
    have oa1 : OwnAt W H0 G1 p := ⟨g1.sep _ (by rw [h1]; simp) oa.g, oa.h0, oa.b⟩
    refine ⟨a, zs, rfl, hp1, g1.le _ _ ha, by rw [r.length, rz.length, ← lim_eq]; exact of_decide_eq_true hb, ?_⟩
    have hd : ∀ σ G2 H, SR X.K W G0 H0 σ G2 H (ρ.set i (some (.own (.list (xs ++ ds))))) → Same G G2 → E'.nx σ H := hd
    exact hd _ G1 _ (s1.wr hi e1 hp1 oa1 ⟨_, upd_same .., (r.mono g1.g).append rz⟩) g1.g
  · exact False.elim q
theorem t_app {i : Nat} {e : E} {E' : Ends} {σ : L2.St} {H : Hp} (h : tS X.K (ex Φ (.app i e)) E' σ H) :
    ∃ W G0 H0 G ρ p ds vs, SR X.K W G0 H0 σ G H ρ ∧ ρ[i]? = some (some (.own (.list ds))) ∧ σ[i]? = some (some (.ref p)) ∧ H p = some (.lst vs) ∧ OwnAt W H0 G p ∧ Rps X.K G vs ds ∧
      tE X.K (ev Φ .v e) σ H (fun y H1 => H1 p = some (.lst vs) ∧ vs.length < sizeLine ∧ E'.nx σ (upd H1 p (.lst (vs ++ [y])))) := by
  obtain ⟨W, G0, H0, G, ρ, s, q⟩ := h
  have q : (match ρ[i]? with
    | some (some (.own (.list xs))) => do
      let y ← ev Φ .v e ρ
      guard (decide (xs.length < lim))
      Tree.ret (Out.nx (ρ.set i (some (.own (.list (xs ++ [y]))))))
    | _ => Tree.err).All _ := q
  split at q
  · rename_i xs hi
    obtain ⟨p, vs, e1, h1, oa, r⟩ := s.ownL hi
    refine ⟨W, G0, H0, G, ρ, p, xs, vs, s, hi, e1, h1, oa, r, W, G0, H0, G, ρ, s, (all_bind' q).mono fun d hd y G1 H1 g1 r1 => ?_⟩
    obtain ⟨hb, hd⟩ := all_guard hd
    have s1 := s.mono g1
    have hp1 := g1.old _ _ h1 oa.b
    have oa1 : OwnAt W H0 G1 p := ⟨g1.sep _ (by rw [h1]; simp) oa.g, oa.h0, oa.b⟩
    refine ⟨hp1, by rw [r.length, ← lim_eq]; exact of_decide_eq_true hb, ?_⟩
    have hd : ∀ σ G2 H, SR X.K W G0 H0 σ G2 H (ρ.set i (some (.own (.list (xs ++ [d]))))) → Same G G2 → E'.nx σ H := hd
    exact hd _ G1 _ (s1.wr hi e1 hp1 oa1 ⟨_, upd_same .., (r.mono g1.g).append (.cons r1 .nil)⟩) g1.g
  · exact False.elim q
theorem SR.ownD {K : PySem.W.Frag} {W : Wo} {G0 H0 G H : Hp} {σ : L2.St} {ρ : Env} (s : SR K W G0 H0 σ G H ρ) {i : Nat} {ds : List (D × D)} (hi : ρ[i]? = some (some (.own (.dict ds)))) : ∃ p vs, σ[i]? = some (some (.ref p)) ∧ H p = some (.dK vs) ∧ OwnAt W H0 G p ∧ Rpk K G vs ds := by
  obtain ⟨v, e, r⟩ := s.slot i _ hi
  cases r with
  | d h oa r => exact ⟨_, _, e, h, oa, r⟩
/-- d.update(e) -/
def rUpd : V → List V → Hp → VK → Prop := fun x vs H Q => ∃ d o ks ms, x = .ref d ∧ vs = [.ref o] ∧ d ≠ o ∧ H d = some (.dK ks) ∧ H o = some (.dK ms) ∧ ks.length + ms.length ≤ sizeLine ∧ Q .non (upd H d (.dK (mergeK ks ms)))
theorem mt_update : MtR X "dict.update" rUpd := by
  intro pins s σ H x vs v us Q I rx rv h
  obtain ⟨d, o, ks, ms, rfl, rfl, hne, hd, ho, hz, q⟩ := h
  cases rx
  obtain ⟨u, rfl, ru⟩ := rv.one
  cases ru
  obtain ⟨z1, y1, ws1, r1, d1⟩ := dk_of I.hok hd
  obtain ⟨z2, y2, ws2, r2, d2⟩ := dk_of I.hok ho
  refine call_meetsIn PySem.F.slot_dict_update d1.typeIs PySem.F.entry_dict_update (PySem.F.args_dict_update_2 _ _) (meets_dict_update (mixKind X.prog X.w) d o hne y2) ⟨ws1, ws2, d1, d2, by rw [← r1.length, ← r2.length]; exact hz, fun h' dd _ hs => ?_⟩
  have hl : (mergeK ks ms).length ≤ sizeLine := Nat.le_trans (length_mergeK ms ks) hz
  have he : ∃ q, h'.get? d = some q := let ⟨q, _, _, hq, _⟩ := dd; ⟨q, hq⟩
  exact ⟨.non, _, d_write I (by rw [hd]; exact True.intro) hs he (dk_new hl y1 (r2.merge r1) dd), rfl, q⟩
theorem t_upd {i : Nat} {e : E} {E' : Ends} {σ : L2.St} {H : Hp} (h : tS X.K (ex Φ (.upd i e)) E' σ H) :
    ∃ W G0 H0 G ρ p ds vs, SR X.K W G0 H0 σ G H ρ ∧ ρ[i]? = some (some (.own (.dict ds))) ∧ σ[i]? = some (some (.ref p)) ∧ H p = some (.dK vs) ∧ OwnAt W H0 G p ∧ Rpk X.K G vs ds ∧
      tE X.K (ev Φ .v e) σ H (fun y H1 => ∃ b zs, y = .ref b ∧ p ≠ b ∧ H1 p = some (.dK vs) ∧ H1 b = some (.dK zs) ∧ vs.length + zs.length ≤ sizeLine ∧ E'.nx σ (upd H1 p (.dK (mergeK vs zs)))) := by
  obtain ⟨W, G0, H0, G, ρ, s, q⟩ := h
  have q : (match ρ[i]? with
    | some (some (.own (.dict xs))) => do
      let y ← ev Φ .v e ρ
      let ys ← asDic y
      guard (decide (xs.length + ys.length ≤ lim))
      Tree.ret (Out.nx (ρ.set i (some (.own (.dict (putAll xs ys))))))
    | _ => Tree.err).All _ := q
  split at q
  · rename_i xs hi
    obtain ⟨p, vs, e1, h1, oa, r⟩ := s.ownD hi
    refine ⟨W, G0, H0, G, ρ, p, xs, vs, s, hi, e1, h1, oa, r, W, G0, H0, G, ρ, s, (all_bind' q).mono fun d hd y G1 H1 g1 r1 => ?_⟩
    cases r1 <;> try exact False.elim hd
    rename_i a zs ds ha rz
    obtain ⟨hb, hd⟩ := all_guard (show (guard (decide (xs.length + ds.length ≤ lim)) >>= fun _ => Tree.ret (Out.nx (ρ.set i (some (.own (.dict (putAll xs ds))))))).All _ from hd)
    have s1 := s.mono g1
    have hp1 := g1.old _ _ h1 oa.b
    have oa1 : OwnAt W H0 G1 p := ⟨g1.sep _ (by rw [h1]; simp) oa.g, oa.h0, oa.b⟩
    refine ⟨a, zs, rfl, Ne.symm (ne_of_none ha oa1.g), hp1, g1.le _ _ ha, by rw [r.length, rz.length, ← lim_eq]; exact of_decide_eq_true hb, ?_⟩
    have hd : ∀ σ G2 H, SR X.K W G0 H0 σ G2 H (ρ.set i (some (.own (.dict (putAll xs ds))))) → Same G G2 → E'.nx σ H := hd
    exact hd _ G1 _ (s1.wr hi e1 hp1 oa1 ⟨_, upd_same .., merge_rel rz (r.mono g1.g)⟩) g1.g
  · exact False.elim q
end
end Pd

namespace Pd
open PySem PySem.Spec L2
section
variable {X : Cx} {C : Ctx} {k : Nat} {Φ : Phi}
theorem ps_augU {i : Nat} {x : Str} {e : Expr} {op : Operator} {pos' pos : Pos} {E0 : TS} (hN : X.N.Nodup) (hi : X.N[i]? = some x) (hx : Loc X.env.scope x) (hf : X.fn x = true ∨ X.env.scope.names.lookup x = some .local)
    (h : ∀ E σ H, E0 E σ H → ∃ te ti, PE X e te ∧ PIp X op ti ∧ tAug i te ti E σ H) : PS X (.AugAssign (.Name x pos') op e pos) E0 :=
  ⟨fun pins s σ H E I q => by
    obtain ⟨te, ti, h1, h2, h3⟩ := h E σ H q
    exact (ps_aug hN hi hx h1 h2 hf).run pins s σ H E I h3⟩
theorem ps_extAug (F : FitsS C k Φ X) {x : Str} {i : Nat} {e : Expr} {y : E} {py spos : Pos} (hs : storeB C x = true) (hi : slotOf x C.N = some i) (h : PE X e (tE X.K (ev Φ .v y))) : PS X (.AugAssign (.Name x py) .Add e spos) (tS X.K (ex Φ (.ext i y))) := by
  obtain ⟨l1, l2⟩ := F.loc hs
  refine ps_augU F.ndX (F.ix hi) l1 l2 fun E σ H q => ⟨_, rExt2, h, iop_ext, ?_⟩
  obtain ⟨W, G0, H0, G, ρ, p, ds, vs, s, hi', e1, h1, oa, r, q⟩ := t_ext q
  refine ⟨.ref p, e1, ?_⟩
  obtain ⟨W', G0', H0', G', ρ', s', q⟩ := q
  refine ⟨W', G0', H0', G', ρ', s', q.mono fun d hd v G1 H1 g1 r1 => ?_⟩
  obtain ⟨b, zs, rfl, h2, h3, h4, h5⟩ := hd v G1 H1 g1 r1
  refine ⟨p, b, vs, zs, rfl, rfl, h2, h3, h4, ?_⟩
  show E.nx (σ.set i (some (.ref p))) _
  rw [set_same e1]
  exact h5
/-- a method that changes the own list of a name -/
theorem ps_meth (F : FitsS C k Φ X) {x m : Str} {id : String} {i : Nat} {a : Expr} {px apos pos spos : Pos} {r : V → List V → Hp → VK → Prop} {t : TS} {te : TE} (hn : nm x = false) (hv : visB C.sc x = true) (hs : notStar a = true) (hi : slotOf x C.N = some i) (hl : (apos.endLine == pos.line) = true)
    (slot : PySem.Slot "list" m id) (hty : typeOf (.builtin id) = pure (.type "method_descriptor")) (hm : MtR X id r) (ha : PE X a te)
    (h : ∀ E σ H, t E σ H → ∃ p vs, σ[i]? = some (some (.ref p)) ∧ H p = some (.lst vs) ∧ te σ H fun y H1 => r (.ref p) [y] H1 fun _ H2 => E.nx σ H2) :
    PS X (.Expr (.Call (.Attribute (.Name x px) m apos) [a] [] pos) spos) t := by
  have hall : [a].all notStar = true := by rw [List.all_cons, hs]; rfl
  have hfew : ((backTo pos (starEach [a] X.env)).all (fun x => !x.1) && (backToKw pos (keywordEach [] X.env)).all (fun x => x.1.isSome) && decide ([a].length + ([] : List Keyword).length + (if ([] : List Keyword).isEmpty then 0 else 1) < 30)) = true := by
    have h1 : (backTo pos (starEach [a] X.env)).all (fun x => !x.1) = true := by
      have := no_star (env := X.env) (pos := pos) hall
      rw [List.any_eq_false] at this
      rw [List.all_eq_true]
      intro x hx
      simpa using this x hx
    rw [h1]; rfl
  have pe := pe_bm (apos := apos) (cpos := pos) PySem.F.plainAttrs_list slot hty hm (pe_var (F.ix hi) (F.vis hv) (nm_of hn).1 (nm_of hn).2.1 (pos := px)) (pa_cons ha pa_nil (star_cons hs)) rfl hfew hl (star_cons hs) rfl
  refine (ps_expr (pos := spos) pe).imp fun E σ H q => ?_
  obtain ⟨p, vs, h1, h2, h3⟩ := h E σ H q
  exact ⟨.ref p, h1, .inl ⟨rfl, vs, SqL.of h2⟩, h3⟩
theorem ps_app (F : FitsS C k Φ X) {x : Str} {i : Nat} {a : Expr} {y : E} {px apos pos spos : Pos} (hn : nm x = false) (hv : visB C.sc x = true) (hs : notStar a = true) (hi : slotOf x C.N = some i) (hl : (apos.endLine == pos.line) = true) (ha : PE X a (tE X.K (ev Φ .v y))) :
    PS X (.Expr (.Call (.Attribute (.Name x px) "append" apos) [a] [] pos) spos) (tS X.K (ex Φ (.app i y))) := by
  refine ps_meth F hn hv hs hi hl PySem.F.slot_list_append PySem.F.type_list_append mt_append ha fun E σ H q => ?_
  obtain ⟨W, G0, H0, G, ρ, p, ds, vs, s, hi', e1, h1, oa, r, W', G0', H0', G', ρ', s', q⟩ := t_app q
  refine ⟨p, vs, e1, h1, W', G0', H0', G', ρ', s', q.mono fun d hd v G1 H1 g1 r1 => ?_⟩
  obtain ⟨h2, h3, h4⟩ := hd v G1 H1 g1 r1
  exact ⟨p, vs, v, rfl, rfl, h2, h3, h4⟩
theorem ps_extM (F : FitsS C k Φ X) {x : Str} {i : Nat} {a : Expr} {y : E} {px apos pos spos : Pos} (hn : nm x = false) (hv : visB C.sc x = true) (hs : notStar a = true) (hi : slotOf x C.N = some i) (hl : (apos.endLine == pos.line) = true) (ha : PE X a (tE X.K (ev Φ .v y))) :
    PS X (.Expr (.Call (.Attribute (.Name x px) "extend" apos) [a] [] pos) spos) (tS X.K (ex Φ (.ext i y))) := by
  refine ps_meth F hn hv hs hi hl PySem.F.slot_list_extend PySem.F.type_list_extend mt_extend ha fun E σ H q => ?_
  obtain ⟨W, G0, H0, G, ρ, p, ds, vs, s, hi', e1, h1, oa, r, W', G0', H0', G', ρ', s', q⟩ := t_ext q
  refine ⟨p, vs, e1, h1, W', G0', H0', G', ρ', s', q.mono fun d hd v G1 H1 g1 r1 => ?_⟩
  obtain ⟨b, zs, rfl, h2, h3, h4, h5⟩ := hd v G1 H1 g1 r1
  exact ⟨p, b, vs, zs, rfl, rfl, h2, h3, h4, h5⟩
/-- a method that changes the own dict of a name -/
theorem ps_methD (F : FitsS C k Φ X) {x m : Str} {id : String} {i : Nat} {a : Expr} {px apos pos spos : Pos} {r : V → List V → Hp → VK → Prop} {t : TS} {te : TE} (hn : nm x = false) (hv : visB C.sc x = true) (hs : notStar a = true) (hi : slotOf x C.N = some i) (hl : (apos.endLine == pos.line) = true)
    (slot : PySem.Slot "dict" m id) (hty : typeOf (.builtin id) = pure (.type "method_descriptor")) (hm : MtR X id r) (ha : PE X a te)
    (h : ∀ E σ H, t E σ H → ∃ p vs, σ[i]? = some (some (.ref p)) ∧ H p = some (.dK vs) ∧ te σ H fun y H1 => r (.ref p) [y] H1 fun _ H2 => E.nx σ H2) :
    PS X (.Expr (.Call (.Attribute (.Name x px) m apos) [a] [] pos) spos) t := by
  have hall : [a].all notStar = true := by rw [List.all_cons, hs]; rfl
  have hfew : ((backTo pos (starEach [a] X.env)).all (fun x => !x.1) && (backToKw pos (keywordEach [] X.env)).all (fun x => x.1.isSome) && decide ([a].length + ([] : List Keyword).length + (if ([] : List Keyword).isEmpty then 0 else 1) < 30)) = true := by
    have h1 : (backTo pos (starEach [a] X.env)).all (fun x => !x.1) = true := by
      have := no_star (env := X.env) (pos := pos) hall
      rw [List.any_eq_false] at this
      rw [List.all_eq_true]
      intro x hx
      simpa using this x hx
    rw [h1]; rfl
  have pe := pe_bm (apos := apos) (cpos := pos) PySem.F.plainAttrs_dict slot hty hm (pe_var (F.ix hi) (F.vis hv) (nm_of hn).1 (nm_of hn).2.1 (pos := px)) (pa_cons ha pa_nil (star_cons hs)) rfl hfew hl (star_cons hs) rfl
  refine (ps_expr (pos := spos) pe).imp fun E σ H q => ?_
  obtain ⟨p, vs, h1, h2, h3⟩ := h E σ H q
  exact ⟨.ref p, h1, .inr (.inr (.inl ⟨rfl, .inl ⟨vs, h2⟩⟩)), h3⟩
theorem ps_updM (F : FitsS C k Φ X) {x : Str} {i : Nat} {a : Expr} {y : E} {px apos pos spos : Pos} (hn : nm x = false) (hv : visB C.sc x = true) (hs : notStar a = true) (hi : slotOf x C.N = some i) (hl : (apos.endLine == pos.line) = true) (ha : PE X a (tE X.K (ev Φ .v y))) :
    PS X (.Expr (.Call (.Attribute (.Name x px) "update" apos) [a] [] pos) spos) (tS X.K (ex Φ (.upd i y))) := by
  refine ps_methD F hn hv hs hi hl PySem.F.slot_dict_update PySem.F.type_dict_update mt_update ha fun E σ H q => ?_
  obtain ⟨W, G0, H0, G, ρ, p, ds, vs, s, hi', e1, h1, oa, r, W', G0', H0', G', ρ', s', q⟩ := t_upd q
  refine ⟨p, vs, e1, h1, W', G0', H0', G', ρ', s', q.mono fun d hd v G1 H1 g1 r1 => ?_⟩
  obtain ⟨b, zs, rfl, hne, h2, h3, h4, h5⟩ := hd v G1 H1 g1 r1
  exact ⟨p, b, vs, zs, rfl, rfl, hne, h2, h3, h4, h5⟩
theorem ps_tup (F : FitsS C k Φ X) {ts : List Expr} {kk : Nat} {p spos : Pos} {e : Expr} {t : T} {y : E} (ht : trT C 9 (.Tuple ts kk p) = some t) (he : PE X e (tE X.K (ev Φ .v y))) (hn : notTup e = true) : PS X (.Assign [.Tuple ts kk p] e spos) (tS X.K (ex Φ (.asg t y))) := by
  have hw : swappedStores [.Tuple ts kk p] e X.env = pure none := by cases e <;> first | rfl | cases hn
  have hsw : swapsWithSole [.Tuple ts kk p] e spos.line X.env = pure false := by cases e <;> rfl
  refine (ps_asg he (pg_all F.toFits 9 ht) hsw hw).imp fun E σ H ⟨W, G0, H0, G, ρ, s, q⟩ => ⟨W, G0, H0, G, ρ, s, (all_bind' q).mono fun d hd v G' H' g r => ?_⟩
  refine ⟨W, G0, H0, G', ρ, d, s.mono g, r, (all_bind' hd).mono fun ρ' hq σ' s' _ _ => ?_⟩
  have hq : ∀ σ G2 H, SR X.K W G0 H0 σ G2 H ρ' → Same G G2 → E.nx σ H := hq
  exact hq σ' G' H' s' g.g
/-- .. where not both are plain locals: stored from the left -/
theorem ps_tup2 (F : FitsS C k Φ X) {x y : Str} {px py pt p2 spos : Pos} {tk k2 : Nat} {a b : Expr} {t : T} {u v : E} (ht : trT C 9 (.Tuple [.Name x px, .Name y py] tk pt) = some t) (hl : (localB C.sc x && localB C.sc y) = false) (ha : PA X [a, b] (tVs X.K (evs Φ [u, v]))) :
    PS X (.Assign [.Tuple [.Name x px, .Name y py] tk pt] (.Tuple [a, b] k2 p2) spos) (tS X.K (ex Φ (.asg t (.tup [u, v])))) := by
  have lk : ∀ z : Str, localB C.sc z = false → (X.env.kindOf z == some .local) = false := fun z h => by
    unfold localB at h
    rw [← F.sc] at h
    have e : X.env.kindOf z = X.env.scope.names.lookup z := rfl
    rw [e]
    cases q : X.env.scope.names.lookup z with
    | none => rfl
    | some kk =>
      rw [q] at h
      cases kk <;> first | rfl | cases h
  have hw : swappedStores [.Tuple [.Name x px, .Name y py] tk pt] (.Tuple [a, b] k2 p2) X.env = pure none := by
    have short : ∀ l : Nat, (List.filterMap (fun e => match e with | .Name id pos => if X.env.kindOf id == some .local && pos.line == l then some id else none | _ => none) [Expr.Name x px, Expr.Name y py]).length ≠ 2 := fun l => by
      rw [Bool.and_eq_false_iff] at hl
      rcases hl with hl | hl
      · simp only [List.filterMap_cons, lk _ hl, Bool.false_and]
        simp
        split <;> simp
      · simp only [List.filterMap_cons, lk _ hl, Bool.false_and]
        simp
        split <;> simp
    unfold swappedStores
    by_cases c1 : (!(true || false) || (2 != 2) || (X.env.blockKind != .function)) = true
    · exact if_pos c1
    refine (if_neg c1).trans ?_
    by_cases c2 : ([a, b].any fun | .Starred .. => true | _ => false) = true
    · exact if_pos c2
    refine (if_neg c2).trans ?_
    refine if_pos ?_
    have key : ∀ l : List Str, l.length ≠ 2 → ((l.length != 2) || (l.eraseDups.length != l.length)) = true := fun l hl => by
      rw [Bool.or_eq_true]; exact .inl (by simpa using hl)
    exact key _ (short _)
  refine (ps_asg (ok_tup ha) (pg_all F.toFits 9 ht) rfl hw).imp fun E σ H ⟨W, G0, H0, G, ρ, s, q⟩ => ⟨W, G0, H0, G, ρ, s, (all_bind' q).mono fun d hd v G' H' g r => ?_⟩
  refine ⟨W, G0, H0, G', ρ, d, s.mono g, r, (all_bind' hd).mono fun ρ' hq σ' s' _ _ => ?_⟩
  have hq : ∀ σ G2 H, SR X.K W G0 H0 σ G2 H ρ' → Same G G2 → E.nx σ H := hq
  exact hq σ' G' H' s' g.g
theorem ps_parS (F : FitsS C k Φ X) {x y : Str} {px py pt : Pos} {k1 k2 : Nat} {p2 spos : Pos} {a b : Expr} {i j : Nat} {u v : E} (hb : C.blk = none) (h1 : (localB C.sc x && localB C.sc y) = true) (h2 : notStar a = true) (h3 : notStar b = true) (h4 : parOk x y px py a b = true) (hi : slotOf x C.N = some i) (hj : slotOf y C.N = some j) (hij : i ≠ j)
    (ha : Gd Φ X a u) (hb' : Gd Φ X b v) : PS X (.Assign [.Tuple [.Name x px, .Name y py] k1 pt] (.Tuple [a, b] k2 p2) spos) (tS X.K (ex Φ (.asg (.tup [.name i, .name j]) (.tup [u, v])))) := by
  rw [Bool.and_eq_true] at h1
  have hx : X.env.scope.names.lookup x = some .local := by
    have := h1.1; unfold localB at this; rw [← F.sc] at this; split at this <;> first | assumption | cases this
  have hy : X.env.scope.names.lookup y = some .local := by
    have := h1.2; unfold localB at this; rw [← F.sc] at this; split at this <;> first | assumption | cases this
  unfold parOk at h4
  simp only [Bool.and_eq_true, Bool.not_eq_true'] at h4
  obtain ⟨⟨⟨q1, q2⟩, q3⟩, q4⟩ := h4
  have hstar : ([a, b].any fun | .Starred .. => true | _ => false) = false := by
    cases a <;> first | (cases h2; done) | skip
    all_goals (cases b <;> first | rfl | cases h3)
  have hw : swappedStores [.Tuple [.Name x px, .Name y py] k1 pt] (.Tuple [a, b] k2 p2) X.env = pure (some [x, y]) := by
    have bk : X.env.blockKind = .function := by unfold PySem.Env.blockKind; rw [F.kind]; rfl
    have kx : X.env.kindOf x = some .local := hx
    have ky : X.env.kindOf y = some .local := hy
    have hl : py.line == px.line := by rw [eq_of_beq q1]; exact beq_self_eq_true _
    have hxy : (x == y) = false := q2
    have hyx : (y == x) = false := by rw [Bool.eq_false_iff] at hxy ⊢; intro h; exact hxy (by rw [eq_of_beq h]; exact beq_self_eq_true _)
    have hf : (List.filterMap (fun e => match e with | .Name id pos => if X.env.kindOf id == some .local && pos.line == px.line then some id else none | _ => none) [Expr.Name x px, Expr.Name y py]) = [x, y] := by
      have hl' : py.line = px.line := eq_of_beq hl
      simp [kx, ky, hl']
    unfold swappedStores
    refine (if_neg ?_).trans ?_
    · show ¬ (!(true || false) || (2 != 2) || (X.env.blockKind != .function)) = true
      rw [bk]; decide
    refine (if_neg ?_).trans ?_
    · exact fun h => Bool.noConfusion (hstar.symm.trans h)
    refine (if_neg ?_).trans ?_
    · have key : ∀ l : List Str, l = [x, y] → ¬ ((l.length != 2) || (l.eraseDups.length != l.length)) = true := fun l hl => by
        rw [hl]
        have : [x, y].eraseDups = [x, y] := by simp [List.eraseDups_cons, hyx]
        rw [this]; exact Bool.false_ne_true
      exact key _ hf
    refine (if_neg ?_).trans ?_
    · rw [q3]; decide
    refine (if_neg ?_).trans ?_
    · rw [q4]; decide
    exact congrArg (fun z => (pure (some z) : Sem (Option (List Str)))) hf
  have all2 : [a, b].all notStar = true := by rw [List.all_cons, List.all_cons, h2, h3]; rfl
  refine (ps_par F.calm F.ndX (F.ix hi) (F.ix hj) hij hx hy (pa_vs (.cons ha (.cons hb' .nil)) all2) hw).imp fun E σ H ⟨W, G0, H0, G, ρ, s, q⟩ => ⟨W, G0, H0, G, ρ, s, ?_⟩
  refine (all_bind' (all_bind' q)).mono fun ds hd vs G' H' g r => ?_
  obtain ⟨hlim, hd⟩ := all_guard hd
  have hd : (bindT (.tup [.name i, .name j]) (.tuple ds) ρ >>= fun ρ' => Tree.ret (Out.nx ρ')).All (Fin X.K W G0 H0 G E) := hd
  have hd := all_bind' hd
  obtain ⟨hlen, hd⟩ := all_guard (show (guard (decide (ds.length = 2)) >>= fun _ => bindTs [.name i, .name j] ds ρ).All _ from hd)
  have hlen : ds.length = 2 := of_decide_eq_true hlen
  match ds, hlen with
  | [d1, d2], _ =>
    cases r with
    | @cons v1 _ _ _ r1 rr =>
      cases rr with
      | @cons v2 _ _ _ r2 rr =>
        cases rr
        have hd : ∀ σ G2 H, SR X.K W G0 H0 σ G2 H ((ρ.set i (some (.v d1))).set j (some (.v d2))) → Same G G2 → E.nx σ H := hd
        exact ⟨v1, v2, rfl, hd _ G' H' (((s.mono g).set r1).set r2) g.g⟩
theorem ps_ifS {c : Expr} {a b : List Stmt} {spos : Pos} {x : E} {s t : List S} (hc : PT X c (tT X.K (evT Φ x))) (ha : PSs X a (tS X.K (exs Φ s))) (hb : PSs X b (tS X.K (exs Φ t))) : PS X (.If c a b spos) (tS X.K (ex Φ (.ite x s t))) := by
  refine (ps_if hc ha hb).imp fun E σ H ⟨W, G0, H0, G, ρ, sr, q⟩ => ⟨W, G0, H0, G, ρ, sr, (all_bind' q).mono fun k hk G' H' g => ?_⟩
  cases k with
  | true => exact ⟨W, G0, H0, G', ρ, sr.mono g, Tree.All.mono (show (exs Φ s ρ).All (Fin X.K W G0 H0 G E) from hk) fun o h => h.mono g.g⟩
  | false => exact ⟨W, G0, H0, G', ρ, sr.mono g, Tree.All.mono (show (exs Φ t ρ).All (Fin X.K W G0 H0 G E) from hk) fun o h => h.mono g.g⟩
theorem ps_whlS (F : FitsS C k Φ X) {c : Expr} {b : List Stmt} {spos : Pos} {x : E} {s : List S} (hc : PT X c (tT X.K (evT Φ x))) (hb : PSs X b (tS X.K (exs Φ s))) : PS X (.While c b [] spos) (tS X.K (ex Φ (.whl x s))) := by
  refine (ps_while F.po hc hb).imp fun E σ H ⟨W, G0, H0, G, ρ, sr, q⟩ => ?_
  refine ⟨fun m σ H => ∃ G1 ρ, SR X.K W G0 H0 σ G1 H ρ ∧ Same G G1 ∧ (whlD (evT Φ x) (exs Φ s) m ρ).All (Fin X.K W G0 H0 G E), ⟨fuel, G, ρ, sr, Same.refl G, q⟩, ?_⟩
  rintro m σ H ⟨G1, ρ, sr, g1, q⟩
  cases m with
  | zero => exact False.elim q
  | succ m =>
    refine ⟨W, G0, H0, G1, ρ, sr, (all_bind' q).mono fun k hk G' H' g => ?_⟩
    cases k with
    | false =>
      have hk : ∀ σ G2 H, SR X.K W G0 H0 σ G2 H ρ → Same G G2 → E.nx σ H := hk
      rw [if_neg (by decide)]
      exact hk σ G' H' (sr.mono g) (g1.trans g.g)
    | true =>
      rw [if_pos rfl]
      refine ⟨fun σ H => ∃ G1 ρ, SR X.K W G0 H0 σ G1 H ρ ∧ Same G G1 ∧ (whlD (evT Φ x) (exs Φ s) m ρ).All (Fin X.K W G0 H0 G E), fun σ' H' h => ⟨m, Nat.lt_succ_self m, h⟩, W, G0, H0, G', ρ, sr.mono g, (all_bind' hk).mono fun o ho => ?_⟩
      have g2 := g1.trans g.g
      cases o with
      | nx ρ' => exact fun σ' G2 H2 s2 g3 => ⟨G2, ρ', s2, g2.trans g3, ho⟩
      | cnt ρ' => exact fun σ' G2 H2 s2 g3 => ⟨G2, ρ', s2, g2.trans g3, ho⟩
      | brk ρ' =>
        have ho : ∀ σ G2 H, SR X.K W G0 H0 σ G2 H ρ' → Same G G2 → E.nx σ H := ho
        exact fun σ' G2 H2 s2 g3 => ho σ' G2 H2 s2 (g2.trans g3)
      | ret d => exact ho
theorem ps_forS (F : FitsS C k Φ X) {tg it : Expr} {b : List Stmt} {spos : Pos} {t : T} {i : E} {s : List S} (hn : notSet it = true) (ht : PG X tg (gT X.K t)) (hi : PI X tg it (tI X.K (evI Φ i))) (hb : PSs X b (tS X.K (exs Φ s))) : PS X (.For tg it b [] spos) (tS X.K (ex Φ (.for_ t i s))) := by
  refine (ps_for F.po F.calm hi ht hb (notSet_fold hn _)).imp fun E σ H ⟨W, G0, H0, G, ρ, sr, q⟩ => ⟨W, G0, H0, G, ρ, sr, (all_bind' q).mono fun xs hx J G1 H1 g1 jd => ?_⟩
  have sr1 := sr.mono g1
  refine ⟨fun i m σ H => m = xs.length - i ∧ i ≤ xs.length ∧ ∃ G2 ρ, SR X.K W G0 H0 σ G2 H ρ ∧ Same G1 G2 ∧ (forD (fun x ρ' => bindT t x ρ' >>= fun ρ2 => exs Φ s ρ2) (xs.drop i) ρ).All (Fin X.K W G0 H0 G E), ⟨_, rfl, Nat.zero_le _, G1, ρ, sr1, Same.refl G1, hx⟩, ?_⟩
  rintro i m σ H ⟨rfl, hi, G2, ρ, sr2, g12, hx⟩
  by_cases hlt : i < xs.length
  · obtain ⟨go, yl⟩ := (jd G2 H g12 sr2.le i).2 xs[i] (by simp [hlt])
    refine .inr ⟨go, fun σ H' => i < xs.length ∧ ∃ G2 ρ, SR X.K W G0 H0 σ G2 H' ρ ∧ Same G1 G2 ∧ (forD (fun x ρ' => bindT t x ρ' >>= fun ρ2 => exs Φ s ρ2) (xs.drop (i + 1)) ρ).All (Fin X.K W G0 H0 G E), fun σ' H' p' => ⟨xs.length - (i + 1), by omega, rfl, p'⟩, fun x H' y => ?_⟩
    obtain ⟨G3, g3, r3⟩ := yl x H' y
    rw [List.drop_eq_getElem_cons hlt] at hx
    have hx := all_bind' (all_bind' hx)
    have g13 := g12.trans g3.g
    refine ⟨W, G0, H0, G3, ρ, xs[i], sr2.mono g3, r3, hx.mono fun ρ2 hx σ' s' _ _ => ⟨W, G0, H0, G3, ρ2, s', hx.mono fun o ho => ?_⟩⟩
    cases o with
    | nx ρ' => exact fun σ' G4 H4 s4 g4 => ⟨hlt, G4, ρ', s4, g13.trans g4, ho⟩
    | cnt ρ' => exact fun σ' G4 H4 s4 g4 => ⟨hlt, G4, ρ', s4, g13.trans g4, ho⟩
    | brk ρ' =>
      have ho : ∀ σ G2 H, SR X.K W G0 H0 σ G2 H ρ' → Same G G2 → E.nx σ H := ho
      exact fun σ' G4 H4 s4 g4 => ho σ' G4 H4 s4 ((g1.g.trans g13).trans g4)
    | ret d => exact ho
  · have e : i = xs.length := by omega
    subst e
    rw [List.drop_length] at hx
    have hx : ∀ σ G2 H, SR X.K W G0 H0 σ G2 H ρ → Same G G2 → E.nx σ H := hx
    exact .inl ⟨(jd G2 H g12 sr2.le _).1 (Nat.le_refl _), hx σ G2 H sr2 (g1.g.trans g12)⟩
theorem ps_asgAll (F : FitsS C k Φ X) (hb : C.blk = none) {ts : List Expr} {e : Expr} {p : Pos} {ss : List S} (h : trS C (.Assign ts e p) = some ss) : PS X (.Assign ts e p) (tS X.K (exs Φ ss)) := by
  unfold trS at h
  split at h <;> first | (rename_i heq; cases heq; done) | skip
  all_goals rename_i heq
  all_goals try cases heq
  · rename_i x px
    obtain ⟨hs, h⟩ := guardO h
    obtain ⟨i, hi, h⟩ := bindO h
    obtain ⟨y, hy, h⟩ := bindO h
    cases h
    have hs : storeB C x = true := by simpa using hs
    cases hn : isNew y with
    | true => exact ps_withF ((ps_name F hs hi hy hn).imp fun E σ H => t_own)
    | false =>
      obtain ⟨l1, l2⟩ := F.loc hs
      exact ps_withF ((ps_set F.ndX (F.ix hi) l1 (ok_all dep F.toFits hy).v (isNew_comp hy hn) l2).imp fun E σ H => t_asg)
  · rename_i x px y py tk pt a b k2 p2
    cases hll : (localB C.sc x && localB C.sc y) with
    | false =>
      rw [hll, if_pos (by rfl)] at h
      obtain ⟨hh, h⟩ := guardO h
      simp only [Bool.or_eq_false_iff, Bool.not_eq_false'] at hh
      obtain ⟨t, ht, h⟩ := bindO h
      obtain ⟨u, hu, h⟩ := bindO h
      obtain ⟨v, hv, h⟩ := bindO h
      cases h
      have hall : [a, b].all notStar = true := by rw [List.all_cons, List.all_cons, hh.1, hh.2]; rfl
      exact ps_withF (ps_tup2 F ht hll (pa_vs (.cons (ok_all dep F.toFits hu).toGd (.cons (ok_all dep F.toFits hv).toGd .nil)) hall))
    | true =>
    rw [hll, if_neg (by simp)] at h
    obtain ⟨hh, h⟩ := guardO h
    simp only [Bool.or_eq_false_iff, Bool.not_eq_false'] at hh
    obtain ⟨⟨h2, h3⟩, h4⟩ := hh
    have h1 := hll
    obtain ⟨i, hi, h⟩ := bindO h
    obtain ⟨j, hj, h⟩ := bindO h
    obtain ⟨u, hu, h⟩ := bindO h
    obtain ⟨v, hv, h⟩ := bindO h
    by_cases hij : i = j
    · rw [if_pos hij] at h; cases h
    · rw [if_neg hij] at h
      cases h
      exact ps_withF (ps_parS F hb h1 h2 h3 h4 hi hj hij (ok_all dep F.toFits hu).toGd (ok_all dep F.toFits hv).toGd)
  · obtain ⟨hh, h⟩ := guardO h
    obtain ⟨t, ht, h⟩ := bindO h
    obtain ⟨y, hy, h⟩ := bindO h
    cases h
    exact ps_withF (ps_tup F ht (ok_all dep F.toFits hy).v (by simpa using hh))
  all_goals cases h
theorem ps_augAll (F : FitsS C k Φ X) {tg e : Expr} {op : Operator} {p : Pos} {ss : List S} (h : trS C (.AugAssign tg op e p) = some ss) : PS X (.AugAssign tg op e p) (tS X.K (exs Φ ss)) := by
  unfold trS at h
  split at h <;> first | (rename_i heq; cases heq; done) | skip
  all_goals rename_i heq
  all_goals try cases heq
  · rename_i x px
    obtain ⟨hs, h⟩ := guardO h
    obtain ⟨i, hi, h⟩ := bindO h
    obtain ⟨y, hy, h⟩ := bindO h
    cases h
    have hs : storeB C x = true := by simpa using hs
    obtain ⟨l1, l2⟩ := F.loc hs
    have plain : ∀ op, PS X (.AugAssign (.Name x px) op e p) (tS X.K (ex Φ (.aug i op y))) := fun op => (ps_aug F.ndX (F.ix hi) l1 (ok_all dep F.toFits hy).v (ip_all op) l2).imp fun E σ H => t_aug
    refine ps_withF ?_
    split
    · exact ps_extAug F hs hi (ok_all dep F.toFits hy).v
    · exact plain _
  all_goals cases h
theorem ps_expAll (F : FitsS C k Φ X) {e : Expr} {p : Pos} {ss : List S} (h : trS C (.Expr e p) = some ss) : PS X (.Expr e p) (tS X.K (exs Φ ss)) := by
  unfold trS at h
  split at h <;> first | (rename_i heq; cases heq; done) | skip
  all_goals rename_i heq
  all_goals try cases heq
  · rename_i x px m apos a pos
    obtain ⟨hh, h⟩ := guardO h
    simp only [Bool.or_eq_false_iff, Bool.not_eq_false'] at hh
    obtain ⟨⟨⟨hn, hv⟩, hs⟩, hl⟩ := hh
    obtain ⟨i, hi, h⟩ := bindO h
    obtain ⟨y, hy, h⟩ := bindO h
    by_cases e1 : m = "append"
    · rw [if_pos e1] at h
      cases h
      rw [e1]
      exact ps_withF (ps_app F hn hv hs hi hl (ok_all dep F.toFits hy).v)
    · rw [if_neg e1] at h
      by_cases e2 : m = "extend"
      · rw [if_pos e2] at h
        cases h
        rw [e2]
        exact ps_withF (ps_extM F hn hv hs hi hl (ok_all dep F.toFits hy).v)
      · rw [if_neg e2] at h
        by_cases e3 : m = "update"
        · rw [if_pos e3] at h
          cases h
          rw [e3]
          exact ps_withF (ps_updM F hn hv hs hi hl (ok_all dep F.toFits hy).v)
        · rw [if_neg e3] at h
          cases h
  · cases h
    exact ps_doc.imp fun E σ H ⟨W, G0, H0, G, ρ, s, q⟩ => (show ∀ σ G2 H, SR X.K W G0 H0 σ G2 H ρ → Same G G2 → E.nx σ H from q) σ G H s (Same.refl G)
  all_goals cases h
mutual
theorem ps_all (F : FitsS C k Φ X) (hb : C.blk = none) : ∀ (st : Stmt) {ss : List S}, trS C st = some ss → PS X st (tS X.K (exs Φ ss))
  | .If c a b p, ss, h => by
    obtain ⟨x, hx, h⟩ := bindO h
    obtain ⟨s, hs, h⟩ := bindO h
    obtain ⟨t, ht, h⟩ := bindO h
    cases h
    exact ps_testF (ps_ifS (ok_all dep F.toFits hx).t (pss_all F hb a hs) (pss_all F hb b ht))
  | .While c b [] p, ss, h => by
    obtain ⟨x, hx, h⟩ := bindO h
    obtain ⟨s, hs, h⟩ := bindO h
    cases h
    exact ps_testF (ps_whlS F (ok_all dep F.toFits hx).t (pss_all F hb b hs))
  | .For tg it b [] p, ss, h => by
    obtain ⟨hn, h⟩ := guardO h
    obtain ⟨t, ht, h⟩ := bindO h
    obtain ⟨i, hi, h⟩ := bindO h
    obtain ⟨s, hs, h⟩ := bindO h
    cases h
    exact ps_withF (ps_forS F (by simpa using hn) (pg_all F.toFits 9 ht) ((ok_all dep F.toFits hi).i tg) (pss_all F hb b hs))
  | .While c b (_ :: _) p, ss, h => by cases h
  | .For tg it b (_ :: _) p, ss, h => by cases h
  | .Assign ts e p, ss, h => ps_asgAll F hb h
  | .AugAssign tg op e p, ss, h => ps_augAll F h
  | .Expr e p, ss, h => ps_expAll F h
  | .Return (some e) p, ss, h => by
    obtain ⟨y, hy, h⟩ := bindO h
    cases h
    exact ps_withF ((ps_ret (ok_all dep F.toFits hy).v).imp fun E σ H ⟨W, G0, H0, G, ρ, s, q⟩ => ⟨W, G0, H0, G, ρ, s, (all_bind' q).mono fun d hd v G' H' g r => (show ∀ v G H, Gr W G0 H0 G H → Rp X.K G v d → E.rt v H from hd) v G' H' (s.gr.trans g) r⟩)
  | .Return none p, ss, h => by
    cases h
    exact ps_retN.imp fun E σ H ⟨W, G0, H0, G, ρ, s, q⟩ => (show ∀ v G H, Gr W G0 H0 G H → Rp X.K G v .none → E.rt v H from q) .non G H s.gr .non
  | .Pass p, ss, h => by
    cases h
    exact ps_pass.imp fun E σ H ⟨W, G0, H0, G, ρ, s, q⟩ => (show ∀ σ G2 H, SR X.K W G0 H0 σ G2 H ρ → Same G G2 → E.nx σ H from q) σ G H s (Same.refl G)
  | .Break p, ss, h => by
    cases h
    exact ps_break.imp fun E σ H ⟨W, G0, H0, G, ρ, s, q⟩ => (show ∀ σ G2 H, SR X.K W G0 H0 σ G2 H ρ → Same G G2 → E.bk σ H from q) σ G H s (Same.refl G)
  | .Continue p, ss, h => by
    cases h
    exact ps_continue.imp fun E σ H ⟨W, G0, H0, G, ρ, s, q⟩ => (show ∀ σ G2 H, SR X.K W G0 H0 σ G2 H ρ → Same G G2 → E.ct σ H from q) σ G H s (Same.refl G)
  | .FunctionDef .., ss, h => by cases h
  | .AsyncFunctionDef .., ss, h => by cases h
  | .ClassDef .., ss, h => by cases h
  | .Delete .., ss, h => by cases h
  | .TypeAlias .., ss, h => by cases h
  | .AnnAssign .., ss, h => by cases h
  | .AsyncFor .., ss, h => by cases h
  | .With .., ss, h => by cases h
  | .AsyncWith .., ss, h => by cases h
  | .Match .., ss, h => by cases h
  | .Raise .., ss, h => by cases h
  | .Try .., ss, h => by cases h
  | .TryStar .., ss, h => by cases h
  | .Assert .., ss, h => by cases h
  | .Import .., ss, h => by cases h
  | .ImportFrom .., ss, h => by cases h
  | .Global .., ss, h => by cases h
  | .Nonlocal .., ss, h => by cases h
theorem pss_all (F : FitsS C k Φ X) (hb : C.blk = none) : ∀ (sts : List Stmt) {ss : List S}, trSs C sts = some ss → PSs X sts (tS X.K (exs Φ ss))
  | [], ss, h => by
    cases h
    exact pss_nil.imp fun E σ H ⟨W, G0, H0, G, ρ, s, q⟩ => (show ∀ σ G2 H, SR X.K W G0 H0 σ G2 H ρ → Same G G2 → E.nx σ H from q) σ G H s (Same.refl G)
  | st :: r, ss, h => by
    obtain ⟨y, hy, h⟩ := bindO h
    cases h
    refine pss_all_cons ?_ (pss_all F hb r hy)
    cases hx : trS C st with
    | some x => exact ps_all F hb st hx
    | none => exact ps_never.imp fun E σ H ⟨W, G0, H0, G, ρ, s, q⟩ => q
end
end
end Pd

namespace Pd
open PySem PySem.Spec L2
section
variable {P : Program} {w : World} {K : PySem.W.Frag} {mg : Str → Option Value} {base : Heap}
theorem Ras.get {W : Wo} {G : Hp} : ∀ {vs : List V} {bs : List B}, Ras K W G vs bs → ∀ {i : Nat} {b : B}, bs[i]? = some b → ∃ v, vs[i]? = some v ∧ Ra K W G v b
  | _, _, .nil, i, b, h => by simp at h
  | _, _, .cons a r, 0, b, h => by cases (show some _ = some b from h); exact ⟨_, rfl, a⟩
  | _, _, .cons a r, i + 1, b, h => by
    obtain ⟨v, h1, h2⟩ := r.get (i := i) (b := b) (by simpa using h)
    exact ⟨v, by simpa using h1, h2⟩
/-- the slots at a def's entry -/
def slots0 (n : Nat) (bs : List B) : Env := bs.map some ++ List.replicate (n - bs.length) none
theorem sr_start {W : Wo} {G H : Hp} {vs : List V} {bs : List B} {N : List Str} (le : Same G H) (bo : BoxOk W H) (nob : ∀ b, BoxA W b → G b = none) (r : Ras K W G vs bs) : SR K W G H (L2.start N vs) G H (slots0 N.length bs) := by
  have hl := r.length
  refine ⟨Gr.refl le, bo, nob, ?_, fun i b h => ?_, fun i j d d' v _ h => ?_⟩
  · unfold slots0 L2.start
    rw [List.length_append, List.length_append, List.length_map, List.length_map, List.length_replicate, List.length_replicate, hl]
  · have hi : i < bs.length := by
      by_cases hi : i < bs.length
      · exact hi
      · unfold slots0 at h
        rw [List.getElem?_append_right (by simpa using hi), List.getElem?_replicate] at h
        split at h <;> cases h
    have hb : bs[i]? = some b := by
      unfold slots0 at h
      rw [List.getElem?_append_left (by simpa using hi), List.getElem?_map] at h
      cases e : bs[i]? with
      | none => rw [e] at h; cases h
      | some a => rw [e] at h; cases h; rfl
    obtain ⟨v, hv, ra⟩ := r.get hb
    refine ⟨v, ?_, ?_⟩
    · unfold L2.start
      rw [List.getElem?_append_left (by simpa [hl] using hi), List.getElem?_map, hv]
      rfl
    · cases ra with
      | v r => exact .v r
      | box e => exact .box e
  · exfalso
    have : (slots0 N.length bs)[i]? = some (some (B.own d)) := h
    have hi : i < bs.length := by
      by_cases hi : i < bs.length
      · exact hi
      · unfold slots0 at this
        rw [List.getElem?_append_right (by simpa using hi), List.getElem?_replicate] at this
        split at this <;> cases this
    have hb : bs[i]? = some (.own d) := by
      unfold slots0 at this
      rw [List.getElem?_append_left (by simpa using hi), List.getElem?_map] at this
      cases e : bs[i]? with
      | none => rw [e] at this; cases this
      | some a => rw [e] at this; cases this; rfl
    obtain ⟨v, hv, ra⟩ := r.get hb
    cases ra
/-- the translation's context of a def -/
def ctxOf (fns : List (Str × Nat)) (cons : List (Str × D)) (bis : List Str) (N : List Str) (scope : Scope) : Ctx := ⟨N, scope, none, fns, cons, bis⟩
/-- what the module's names hold -/
structure Glob (K : PySem.W.Frag) (mg : Str → Option Value) (cons : List (Str × D)) (bis : List Str) : Prop where
  cons : ∀ x d, cons.lookup x = some d → ∃ u v, mg x = some u ∧ RelV v u ∧ ∀ G, Rp K G v d
  bis : ∀ x, bis.contains x = true → mg x = none
/-- def number i stands at name x -/
structure DefAt (P : Program) (w : World) (K : PySem.W.Frag) (mg : Str → Option Value) (base : Heap) (fns : List (Str × Nat)) (cons : List (Str × D)) (bis : List Str) (tab : List Fd) (x : Str) (i : Nat) (f : Addr) (fd : FuncData) (ps : List Str) : Prop where
  at_ : mg x = some (.ref f)
  kp : PySem.W.keepIn K (.ref f) = true
  b : Binds K fd ps []
  is : (∃ F N scope qual params body, tab[i]? = some (.fn F) ∧ FunD K x qual params body scope [] [] f fd ∧ FnScope N ps scope ∧ trSs (ctxOf fns cons bis N scope) body = some F.body ∧ F.np = ps.length ∧ F.ns = N.length) ∨
    (∃ T, tab[i]? = some (.prim T) ∧ FnOk P w K mg base CX0 5 f fd ps (spT K T))
theorem fn_body {fns : List (Str × Nat)} {cons : List (Str × D)} {bis : List Str} {x qual : Str} {params : Arguments} {body : List Stmt} {scope : Scope} {f : Addr} {fd : FuncData} {N ps : List Str} {k : Nat} {Φ : Phi} {F : Fn}
    (gl : Glob K mg cons bis) (hf : ∀ y j, fns.lookup y = some j → ∃ f fd ps, mg y = some (.ref f) ∧ PySem.W.keepIn K (.ref f) = true ∧ Binds K fd ps [] ∧ FnOk P w K mg base CX0 k f fd ps (spT K (Φ j)))
    (D : FunD K x qual params body scope [] [] f fd) (S : FnScope N ps scope) (ht : trSs (ctxOf fns cons bis N scope) body = some F.body) (h1 : F.np = ps.length) (h2 : F.ns = N.length) :
    FnOk P w K mg base CX0 (k + 1) f fd ps (spT K (runF Φ F)) := by
  refine D.ok S (fun vs H Q E ⟨W, G, bs, le, bo, nob, ras, q⟩ => ?_) (fun cdv A outer s H vs Q E hr ⟨W, G, bs, le, bo, nob, ras, q⟩ => ⟨tS K (exs Φ F.body), PSs.nox ?_, ?_⟩)
  · rw [ras.length]
    unfold runF at q
    by_cases hb : bs.length = F.np
    · rw [hb, h1]
    · rw [if_neg hb] at q; exact False.elim q
  · have fits : FitsS (ctxOf fns cons bis N scope) k Φ (cxOf CX0 P w K mg base N qual scope f cdv A outer s H E).nox :=
      { N := rfl, nd := S.nd, sc := rfl, calm := rfl, room := hr, blk := fun _ => rfl, cons := gl.cons, bis := gl.bis, fns := hf, po := PassesOwn.never, kind := S.kind }
    exact pss_all fits rfl body ht
  · unfold runF at q
    by_cases hb : bs.length = F.np
    · rw [if_pos hb] at q
      have e : (bs.map some ++ List.replicate (F.ns - F.np) none : Env) = slots0 N.length bs := by unfold slots0; rw [h2, hb]
      rw [e] at q
      refine ⟨W, G, H, G, _, sr_start le bo nob ras, (all_bind' q).mono fun o ho => ?_⟩
      cases o with
      | nx ρ => exact fun σ G2 H2 s2 _ => (show ∀ v G' H', Gr W G H G' H' → Rp K G' v .none → Q v H' from ho) .non G2 H2 s2.gr .non
      | brk ρ => exact False.elim ho
      | cnt ρ => exact False.elim ho
      | ret d => exact ho
    · rw [if_neg hb] at q; exact False.elim q
theorem all_defs {fns : List (Str × Nat)} {cons : List (Str × D)} {bis : List Str} {tab : List Fd} (gl : Glob K mg cons bis) (hd : ∀ y j, fns.lookup y = some j → ∃ f fd ps, DefAt P w K mg base fns cons bis tab y j f fd ps) :
    ∀ (k : Nat) (y : Str) (j : Nat), fns.lookup y = some j → ∃ f fd ps, mg y = some (.ref f) ∧ PySem.W.keepIn K (.ref f) = true ∧ Binds K fd ps [] ∧ FnOk P w K mg base CX0 k f fd ps (spT K (callN tab k j))
  | 0, y, j, h => by
    obtain ⟨f, fd, ps, d⟩ := hd y j h
    refine ⟨f, fd, ps, d.at_, d.kp, d.b, ⟨fun vs H Q E ⟨W, G, bs, _, _, _, _, q⟩ => False.elim q, fun A outer s H args us vs Q E _ _ _ _ ⟨W, G, bs, _, _, _, _, q⟩ => False.elim q⟩⟩
  | k + 1, y, j, h => by
    obtain ⟨f, fd, ps, d⟩ := hd y j h
    refine ⟨f, fd, ps, d.at_, d.kp, d.b, ?_⟩
    rcases d.is with ⟨F, N, scope, qual, params, body, e1, e2, e3, e4, e5, e6⟩ | ⟨T, e1, e2⟩
    · have e : callN tab (k + 1) j = runF (callN tab k) F := by funext bs; show (match tab[j]? with | some (.fn f) => _ | some (.prim T) => _ | none => _) = _; rw [e1]
      rw [e]
      exact fn_body gl (all_defs gl hd k) e2 e3 e4 e5 e6
    · have e : callN tab (k + 1) j = fun bs => if k < 4 then .err else T bs := by funext bs; show (match tab[j]? with | some (.fn f) => _ | some (.prim T) => _ | none => _) = _; rw [e1]
      rw [e]
      by_cases hk : k < 4
      · refine ⟨fun vs H Q E ⟨W, G, bs, _, _, _, _, q⟩ => ?_, fun A outer s H args us vs Q E _ _ _ _ ⟨W, G, bs, _, _, _, _, q⟩ => ?_⟩
        · have q : (if k < 4 then (.err : Tree D) else T bs).All _ := q
          rw [if_pos hk] at q; exact False.elim q
        · have q : (if k < 4 then (.err : Tree D) else T bs).All _ := q
          rw [if_pos hk] at q; exact False.elim q
      · refine (e2.mono (by omega)).imp fun vs H Q E ⟨W, G, bs, h1, h2, h3, h4, q⟩ => ⟨W, G, bs, h1, h2, h3, h4, ?_⟩
        have q : (if k < 4 then (.err : Tree D) else T bs).All _ := q
        rw [if_neg hk] at q
        exact q
end
end Pd

namespace Pd
open PySem PySem.Spec L2
abbrev nLoad : List Str := ["box", "cells", "cell", "size", "first", "second"]
abbrev nDraw : List Str := ["box", "many", "digit"]
/-- the box after some draws: a box still, all else as before -/
structure BoxTo (p : Addr × Addr) (H H' : Hp) : Prop where
  old : ∀ b, b ≠ p.1 → b ≠ p.2 → H' b = H b
  np : p.1 ≠ p.2
  box : ∃ (cs : List Int) (x y : Int), H' p.1 = some (.lst [.ref p.2, .int x, .int y]) ∧ H' p.2 = some (.lst (cs.map V.int)) ∧ cs.length ≤ 63 ∧ 0 ≤ x ∧ 0 ≤ y ∧ y < 4294967296
theorem BoxTo.set {p : Addr × Addr} {H H' : Hp} (h : BoxTo p H H') {x y : Int} (hx : 0 ≤ x) (hy : 0 ≤ y) (hy2 : y < 4294967296) : BoxTo p H (upd H' p.1 (.lst [.ref p.2, .int x, .int y])) := by
  obtain ⟨cs, a, b, e1, e2, hl, _⟩ := h.box
  exact ⟨fun b h1 h2 => by rw [upd_ne h1]; exact h.old b h1 h2, h.np, cs, x, y, upd_same .., by rw [upd_ne (Ne.symm h.np)]; exact e2, hl, hx, hy, hy2⟩
theorem BoxTo.pop {p : Addr × Addr} {H H' : Hp} (h : BoxTo p H H') {cs : List Int} (hl : cs.length ≤ 63) : BoxTo p H (upd H' p.2 (.lst (cs.map V.int))) := by
  obtain ⟨_, x, y, e1, e2, _, h1, h2, h3⟩ := h.box
  exact ⟨fun b h1 h2 => by rw [upd_ne h2]; exact h.old b h1 h2, h.np, cs, x, y, by rw [upd_ne h.np]; exact e1, upd_same .., hl, h1, h2, h3⟩
theorem BoxTo.trans {p : Addr × Addr} {H H1 H2 : Hp} (a : BoxTo p H H1) (b : BoxTo p H1 H2) : BoxTo p H H2 := ⟨fun c h1 h2 => (b.old c h1 h2).trans (a.old c h1 h2), b.np, b.box⟩
/-- what _law_load promises -/
def spLoad : Sp := fun vs H Q _ => ∃ p : Addr × Addr, vs = [.ref p.1] ∧ BoxTo p H H ∧ ∀ z H', 0 ≤ z → BoxTo p H H' → Q (.int z) H'
theorem pick0 {a b c : V} : atI [a, b, c] 0 = some a := atI_nat (j := 0) rfl
theorem pick1 {a b c : V} : atI [a, b, c] 1 = some b := atI_nat (j := 1) rfl
theorem pick2 {a b c : V} : atI [a, b, c] 2 = some c := atI_nat (j := 2) rfl
theorem nat_lt_lim : (3 : Nat) ≤ sizeLine := by decide +kernel
section
variable {X : Cx}
theorem pss_load2 {q74 q75 q76 q78 q79 q81 q82 q84 q85 q86 q88 q89 q90 q91 q92 q93 q95 q96 q98 q99 q100 q102 q103 q104 q105 q107 q108 q109 q110 q112 q113 q115 q116 q117 q119 q120 q121 q122 q124 q125 q126 q128 q129 q130 q131 q133 q134 q135 q136 : Pos} {k77 k80 k83 k87 k94 k97 k101 k106 k111 k114 k118 k123 k127 k132 : Nat} (hN : X.N = nLoad) (hf : ∀ x, X.fn x = true) (hl : ∀ x ∈ nLoad, X.env.scope.names.lookup x = some .local) (gl : Gl X "len") (gi : Gl X "int") (ml : X.mg "len" = none) (mi : X.mg "int" = none)
    {p : Addr × Addr} {H : Hp} (Q : VK) (q : ∀ z H', 0 ≤ z → BoxTo p H H' → Q (.int z) H') :
    ∃ t, PSs X [(.Assign [(.Name "first" q74)] (.BinOp (.Call (.Name "int" q75) [(.BinOp (.BinOp (.Subscript (.Name "box" q76) (.Constant (.int 2) k77 q78) q79) .Mult (.Constant (.int 48271) k80 q81) q82) .Add (.Constant (.int 17) k83 q84) q85)] [] q86) .Mod (.Constant (.int 2147483629) k87 q88) q89) q90),
      (.Assign [(.Name "second" q91)] (.BinOp (.Call (.Name "int" q92) [(.BinOp (.BinOp (.Name "first" q93) .Mult (.Constant (.int 69621) k94 q95) q96) .Add (.Constant (.int 5) k97 q98) q99)] [] q100) .Mod (.Constant (.int 2147483587) k101 q102) q103) q104),
      (.Assign [(.Subscript (.Name "box" q105) (.Constant (.int 2) k106 q107) q108)] (.BinOp (.Call (.Name "int" q109) [(.BinOp (.BinOp (.Name "second" q110) .Mult (.Constant (.int 40692) k111 q112) q113) .Add (.Constant (.int 3) k114 q115) q116)] [] q117) .Mod (.Constant (.int 2147483563) k118 q119) q120) q121),
      (.Return (some (.BinOp (.BinOp (.BinOp (.Name "first" q122) .Mult (.Constant (.int 4611686014132420609) k123 q124) q125) .Add (.BinOp (.Name "second" q126) .Mult (.Constant (.int 2147483647) k127 q128) q129) q130) .Add (.Subscript (.Name "box" q131) (.Constant (.int 2) k132 q133) q134) q135)) q136)] t ∧ ∀ a1 a2 a3 H1, BoxTo p H H1 → t { nx := fun _ H' => Q .non H', rt := Q } [some (.ref p.1), a1, a2, a3, none, none] H1 := by
  have h0 : X.N[0]? = some ("box" : Str) := by rw [hN]; rfl
  have h1 : X.N[1]? = some ("cells" : Str) := by rw [hN]; rfl
  have h2 : X.N[2]? = some ("cell" : Str) := by rw [hN]; rfl
  have h3 : X.N[3]? = some ("size" : Str) := by rw [hN]; rfl
  have h4 : X.N[4]? = some ("first" : Str) := by rw [hN]; rfl
  have h5 : X.N[5]? = some ("second" : Str) := by rw [hN]; rfl
  have nd : X.N.Nodup := by rw [hN]; decide +kernel
  have L : ∀ x ∈ nLoad, L2.Loc X.env.scope x := fun x h => .inl (hl x h)
  have V : ∀ x ∈ nLoad, Vis X.env.scope x := fun x h => .inl (hl x h)
  have v0 := fun p => pe_var (pos := p) h0 (V _ (by simp [nLoad]))
  have v1 := fun p => pe_var (pos := p) h1 (V _ (by simp [nLoad]))
  have v2 := fun p => pe_var (pos := p) h2 (V _ (by simp [nLoad]))
  have v3 := fun p => pe_var (pos := p) h3 (V _ (by simp [nLoad]))
  have v4 := fun p => pe_var (pos := p) h4 (V _ (by simp [nLoad]))
  have v5 := fun p => pe_var (pos := p) h5 (V _ (by simp [nLoad]))
  refine ⟨_, pss_cons (ps_set nd h4 (L _ (by simp [nLoad])) (pe_op op_mod (pe_callTy call_int1 gi mi PyProof.Rows.boot_int (pa_cons (pe_op op_add (pe_op op_mul (pe_ix ix_list (v0 _) pe_int (fun _ _ => rfl)) pe_int) pe_int) pa_nil)) pe_int) rfl (.inl (hf _)))
    (pss_cons (ps_set nd h5 (L _ (by simp [nLoad])) (pe_op op_mod (pe_callTy call_int1 gi mi PyProof.Rows.boot_int (pa_cons (pe_op op_add (pe_op op_mul (v4 _) pe_int) pe_int) pa_nil)) pe_int) rfl (.inl (hf _)))
    (pss_cons (ps_asg (pe_op op_mod (pe_callTy call_int1 gi mi PyProof.Rows.boot_int (pa_cons (pe_op op_add (pe_op op_mul (v5 _) pe_int) pe_int) pa_nil)) pe_int) (pg_sub (v0 _) pe_int set_list))
    (pss_one (ps_ret (pe_op op_add (pe_op op_add (pe_op op_mul (v4 _) pe_int) (pe_op op_mul (v5 _) pe_int)) (pe_ix ix_list (v0 _) pe_int (fun _ _ => rfl))))))), fun a1 a2 a3 H1 bt => ?_⟩
  obtain ⟨cs, x, y, e1, e2, hcs, hx, hy, hy2⟩ := bt.box
  have m1 : 0 ≤ (y * 48271 + 17) % 2147483629 := Int.emod_nonneg _ (by decide)
  have m2 : 0 ≤ ((y * 48271 + 17) % 2147483629 * 69621 + 5) % 2147483587 := Int.emod_nonneg _ (by decide)
  have m3 : 0 ≤ (((y * 48271 + 17) % 2147483629 * 69621 + 5) % 2147483587 * 40692 + 3) % 2147483563 := Int.emod_nonneg _ (by decide)
  have m3' : (((y * 48271 + 17) % 2147483629 * 69621 + 5) % 2147483587 * 40692 + 3) % 2147483563 < 2147483563 := Int.emod_lt_of_pos _ (by decide)
  have c1 : (0 : Int) < 2147483629 := by decide
  have c2 : (0 : Int) < 2147483587 := by decide
  have c3 : (0 : Int) < 2147483563 := by decide
  -- first = ..
  refine ⟨.ref p.1, rfl, p.1, _, 2, .int y, rfl, rfl, SqL.of e1, pick2, y, 48271, rfl, rfl, .inr (by decide), _, _, rfl, rfl, .inl ⟨_, rfl, _, _, rfl, rfl, c1, ?_⟩⟩
  -- second = ..
  refine ⟨.int ((y * 48271 + 17) % 2147483629), rfl, _, 69621, rfl, rfl, .inr (by decide), _, _, rfl, rfl, .inl ⟨_, rfl, _, _, rfl, rfl, c2, ?_⟩⟩
  -- box[2] = ..
  refine ⟨.int (((y * 48271 + 17) % 2147483629 * 69621 + 5) % 2147483587), rfl, _, 40692, rfl, rfl, .inr (by decide), _, _, rfl, rfl, .inl ⟨_, rfl, _, _, rfl, rfl, c3, ?_⟩⟩
  refine ⟨.ref p.1, rfl, p.1, _, 2, 2, rfl, rfl, e1, rfl, ?_⟩
  -- return ..
  have bt' := bt.set (x := x) (y := (((y * 48271 + 17) % 2147483629 * 69621 + 5) % 2147483587 * 40692 + 3) % 2147483563) hx m3 (by omega)
  refine ⟨.int ((y * 48271 + 17) % 2147483629), rfl, _, 4611686014132420609, rfl, rfl, .inr (by decide), .int (((y * 48271 + 17) % 2147483629 * 69621 + 5) % 2147483587), rfl, _, 2147483647, rfl, rfl, .inr (by decide), _, _, rfl, rfl, .ref p.1, rfl, p.1, _, 2, .int ((((y * 48271 + 17) % 2147483629 * 69621 + 5) % 2147483587 * 40692 + 3) % 2147483563), rfl, rfl, SqL.of (upd_same ..), pick2, _, _, rfl, rfl, q _ _ ?_ bt'⟩
  exact Int.add_nonneg (Int.add_nonneg (Int.mul_nonneg m1 (by decide)) (Int.mul_nonneg m2 (by decide))) m3
theorem pss_load1 {q41 q43 q44 q45 q46 q47 q48 q50 q51 q52 q53 q55 q56 q58 q59 q60 q62 q63 q64 q66 q67 q68 q70 q71 q72 : Pos} {k42 k49 k54 k57 k61 k65 k69 : Nat} (hN : X.N = nLoad) (hf : ∀ x, X.fn x = true) (hl : ∀ x ∈ nLoad, X.env.scope.names.lookup x = some .local) (gl : Gl X "len") (gi : Gl X "int") (ml : X.mg "len" = none) (mi : X.mg "int" = none)
    {p : Addr × Addr} {H : Hp} :
    ∃ t, PSs X [(.If (.Compare (.Name "size" q41) [.GtE] [(.Constant (.int 1000000000000000000) k42 q43)] q44) [(.Return (some (.Name "size" q45)) q46)] [] q47),
      (.Assign [(.Subscript (.Name "box" q48) (.Constant (.int 2) k49 q50) q51)] (.BinOp (.Call (.Name "int" q52) [(.BinOp (.BinOp (.BinOp (.Subscript (.Name "box" q53) (.Constant (.int 2) k54 q55) q56) .Mult (.Constant (.int 69621) k57 q58) q59) .Add (.BinOp (.Name "size" q60) .Mult (.Constant (.int 48271) k61 q62) q63) q64) .Add (.Constant (.int 11) k65 q66) q67)] [] q68) .Mod (.Constant (.int 2147483647) k69 q70) q71) q72)] t ∧ ∀ (E : Ends) a2 z H1, 0 ≤ z → BoxTo p H H1 → (∀ H', BoxTo p H H' → E.nx [some (.ref p.1), some (.ref p.2), a2, some (.int z), none, none] H') → (∀ z H', 0 ≤ z → BoxTo p H H' → E.rt (.int z) H') → t E [some (.ref p.1), some (.ref p.2), a2, some (.int z), none, none] H1 := by
  have h0 : X.N[0]? = some ("box" : Str) := by rw [hN]; rfl
  have h1 : X.N[1]? = some ("cells" : Str) := by rw [hN]; rfl
  have h2 : X.N[2]? = some ("cell" : Str) := by rw [hN]; rfl
  have h3 : X.N[3]? = some ("size" : Str) := by rw [hN]; rfl
  have h4 : X.N[4]? = some ("first" : Str) := by rw [hN]; rfl
  have h5 : X.N[5]? = some ("second" : Str) := by rw [hN]; rfl
  have nd : X.N.Nodup := by rw [hN]; decide +kernel
  have L : ∀ x ∈ nLoad, L2.Loc X.env.scope x := fun x h => .inl (hl x h)
  have V : ∀ x ∈ nLoad, Vis X.env.scope x := fun x h => .inl (hl x h)
  have v0 := fun p => pe_var (pos := p) h0 (V _ (by simp [nLoad]))
  have v1 := fun p => pe_var (pos := p) h1 (V _ (by simp [nLoad]))
  have v2 := fun p => pe_var (pos := p) h2 (V _ (by simp [nLoad]))
  have v3 := fun p => pe_var (pos := p) h3 (V _ (by simp [nLoad]))
  have v4 := fun p => pe_var (pos := p) h4 (V _ (by simp [nLoad]))
  have v5 := fun p => pe_var (pos := p) h5 (V _ (by simp [nLoad]))
  refine ⟨_, pss_cons (ps_if (pt_cmpR op_ge (v3 _) pe_int (nomark _)) (pss_one (ps_ret (v3 _))) pss_nil)
      (pss_one (ps_asg (pe_op op_mod (pe_callTy call_int1 gi mi PyProof.Rows.boot_int (pa_cons (pe_op op_add (pe_op op_add (pe_op op_mul (pe_ix ix_list (v0 _) pe_int (fun _ _ => rfl)) pe_int) (pe_op op_mul (v3 _) pe_int)) pe_int) pa_nil)) pe_int) (pg_sub (v0 _) pe_int set_list))), fun E a2 z H1 hz bt qn qr => ?_⟩
  obtain ⟨cs, x, y, e1, e2, hcs, hx, hy, hy2⟩ := bt.box
  have c4 : (0 : Int) < 2147483647 := by decide
  refine ⟨.int z, rfl, z, 1000000000000000000, rfl, rfl, _, rfl, ite2 (fun h => ?_) (fun h => ?_)⟩
  · exact ⟨.int z, rfl, qr z H1 hz bt⟩
  · refine ⟨.ref p.1, rfl, p.1, _, 2, .int y, rfl, rfl, SqL.of e1, pick2, y, 69621, rfl, rfl, .inr (by decide), .int z, rfl, z, 48271, rfl, rfl, .inr (by decide), _, _, rfl, rfl, _, 11, rfl, rfl, .inl ⟨_, rfl, _, _, rfl, rfl, c4, ?_⟩⟩
    refine ⟨.ref p.1, rfl, p.1, _, 2, 2, rfl, rfl, e1, rfl, ?_⟩
    have m1 : 0 ≤ (y * 69621 + z * 48271 + 11) % 2147483647 := Int.emod_nonneg _ (by decide)
    have m2 : (y * 69621 + z * 48271 + 11) % 2147483647 < 2147483647 := Int.emod_lt_of_pos _ (by decide)
    exact qn _ (bt.set hx m1 (by omega))
theorem pss_load {q1 q2 q4 q5 q6 q7 q8 q9 q11 q12 q13 q14 q15 q16 q18 q19 q20 q21 q22 q23 q25 q26 q28 q29 q30 q32 q33 q34 q35 q37 q38 q39 q40 q41 q43 q44 q45 q46 q47 q48 q50 q51 q52 q53 q55 q56 q58 q59 q60 q62 q63 q64 q66 q67 q68 q70 q71 q72 q73 q74 q75 q76 q78 q79 q81 q82 q84 q85 q86 q88 q89 q90 q91 q92 q93 q95 q96 q98 q99 q100 q102 q103 q104 q105 q107 q108 q109 q110 q112 q113 q115 q116 q117 q119 q120 q121 q122 q124 q125 q126 q128 q129 q130 q131 q133 q134 q135 q136 : Pos} {k3 k10 k17 k24 k27 k31 k36 k42 k49 k54 k57 k61 k65 k69 k77 k80 k83 k87 k94 k97 k101 k106 k111 k114 k118 k123 k127 k132 : Nat} (hq : (q16.endLine == q19.line) = true) (hN : X.N = nLoad) (hf : ∀ x, X.fn x = true) (hl : ∀ x ∈ nLoad, X.env.scope.names.lookup x = some .local) (gl : Gl X "len") (gi : Gl X "int") (ml : X.mg "len" = none) (mi : X.mg "int" = none)
    {p : Addr × Addr} {H : Hp} (Q : VK) (bt : BoxTo p H H) (q : ∀ z H', 0 ≤ z → BoxTo p H H' → Q (.int z) H') :
    ∃ t, PSs X [(.Assign [(.Name "cells" q1)] (.Subscript (.Name "box" q2) (.Constant (.int 0) k3 q4) q5) q6),
      (.If (.Compare (.Call (.Name "len" q7) [(.Name "cells" q8)] [] q9) [.Gt] [(.Constant (.int 0) k10 q11)] q12) [(.Assign [(.Name "cell" q13)] (.Call (.Name "int" q14) [(.Call (.Attribute (.Name "cells" q15) "pop" q16) [(.Constant (.int 0) k17 q18)] [] q19)] [] q20) q21), (.Assign [(.Name "size" q22)] (.IfExp (.Compare (.Name "cell" q23) [.GtE] [(.Constant (.int 0) k24 q25)] q26) (.BinOp (.Constant (.int 2) k27 q28) .Mult (.Name "cell" q29) q30) (.BinOp (.BinOp (.UnaryOp .USub (.Constant (.int 2) k31 q32) q33) .Mult (.Name "cell" q34) q35) .Sub (.Constant (.int 1) k36 q37) q38) q39) q40), (.If (.Compare (.Name "size" q41) [.GtE] [(.Constant (.int 1000000000000000000) k42 q43)] q44) [(.Return (some (.Name "size" q45)) q46)] [] q47), (.Assign [(.Subscript (.Name "box" q48) (.Constant (.int 2) k49 q50) q51)] (.BinOp (.Call (.Name "int" q52) [(.BinOp (.BinOp (.BinOp (.Subscript (.Name "box" q53) (.Constant (.int 2) k54 q55) q56) .Mult (.Constant (.int 69621) k57 q58) q59) .Add (.BinOp (.Name "size" q60) .Mult (.Constant (.int 48271) k61 q62) q63) q64) .Add (.Constant (.int 11) k65 q66) q67)] [] q68) .Mod (.Constant (.int 2147483647) k69 q70) q71) q72)] [] q73),
      (.Assign [(.Name "first" q74)] (.BinOp (.Call (.Name "int" q75) [(.BinOp (.BinOp (.Subscript (.Name "box" q76) (.Constant (.int 2) k77 q78) q79) .Mult (.Constant (.int 48271) k80 q81) q82) .Add (.Constant (.int 17) k83 q84) q85)] [] q86) .Mod (.Constant (.int 2147483629) k87 q88) q89) q90),
      (.Assign [(.Name "second" q91)] (.BinOp (.Call (.Name "int" q92) [(.BinOp (.BinOp (.Name "first" q93) .Mult (.Constant (.int 69621) k94 q95) q96) .Add (.Constant (.int 5) k97 q98) q99)] [] q100) .Mod (.Constant (.int 2147483587) k101 q102) q103) q104),
      (.Assign [(.Subscript (.Name "box" q105) (.Constant (.int 2) k106 q107) q108)] (.BinOp (.Call (.Name "int" q109) [(.BinOp (.BinOp (.Name "second" q110) .Mult (.Constant (.int 40692) k111 q112) q113) .Add (.Constant (.int 3) k114 q115) q116)] [] q117) .Mod (.Constant (.int 2147483563) k118 q119) q120) q121),
      (.Return (some (.BinOp (.BinOp (.BinOp (.Name "first" q122) .Mult (.Constant (.int 4611686014132420609) k123 q124) q125) .Add (.BinOp (.Name "second" q126) .Mult (.Constant (.int 2147483647) k127 q128) q129) q130) .Add (.Subscript (.Name "box" q131) (.Constant (.int 2) k132 q133) q134) q135)) q136)] t ∧ t { nx := fun _ H' => Q .non H', rt := Q } [some (.ref p.1), none, none, none, none, none] H := by
  have h0 : X.N[0]? = some ("box" : Str) := by rw [hN]; rfl
  have h1 : X.N[1]? = some ("cells" : Str) := by rw [hN]; rfl
  have h2 : X.N[2]? = some ("cell" : Str) := by rw [hN]; rfl
  have h3 : X.N[3]? = some ("size" : Str) := by rw [hN]; rfl
  have h4 : X.N[4]? = some ("first" : Str) := by rw [hN]; rfl
  have h5 : X.N[5]? = some ("second" : Str) := by rw [hN]; rfl
  have nd : X.N.Nodup := by rw [hN]; decide +kernel
  have L : ∀ x ∈ nLoad, L2.Loc X.env.scope x := fun x h => .inl (hl x h)
  have V : ∀ x ∈ nLoad, Vis X.env.scope x := fun x h => .inl (hl x h)
  have v0 := fun p => pe_var (pos := p) h0 (V _ (by simp [nLoad]))
  have v1 := fun p => pe_var (pos := p) h1 (V _ (by simp [nLoad]))
  have v2 := fun p => pe_var (pos := p) h2 (V _ (by simp [nLoad]))
  have v3 := fun p => pe_var (pos := p) h3 (V _ (by simp [nLoad]))
  have v4 := fun p => pe_var (pos := p) h4 (V _ (by simp [nLoad]))
  have v5 := fun p => pe_var (pos := p) h5 (V _ (by simp [nLoad]))
  obtain ⟨t2, hp2, ht2⟩ := pss_load2 hN hf hl gl gi ml mi Q q
  obtain ⟨t1, hp1, ht1⟩ := pss_load1 (p := p) (H := H) hN hf hl gl gi ml mi
  refine ⟨_, pss_cons (ps_set nd h1 (L _ (by simp [nLoad])) (pe_ix ix_list (v0 _) pe_int (fun _ _ => rfl)) rfl (.inl (hf _)))
    (pss_cons (ps_if (pt_cmpR op_gt (pe_callB call_len_seq gl ml PySem.boot_len (pa_cons (v1 _) pa_nil)) pe_int (nomark _))
      (pss_cons (ps_set nd h2 (L _ (by simp [nLoad])) (pe_callTy call_int1 gi mi PyProof.Rows.boot_int (pa_cons (pe_bm PySem.F.plainAttrs_list PySem.F.slot_list_pop PySem.F.type_list_pop mt_popAt (v1 _) (pa_cons pe_int pa_nil) (hline := hq)) pa_nil)) rfl (.inl (hf _)))
      (pss_cons (ps_set nd h3 (L _ (by simp [nLoad])) (pe_ifExp (pt_cmpR op_ge (v2 _) pe_int (nomark _)) (pe_op op_mul pe_int (v2 _)) (pe_op op_sub (pe_op op_mul (pe_un un_neg pe_int) (v2 _)) pe_int)) rfl (.inl (hf _)))
      hp1)) pss_nil)
    hp2), ?_⟩
  obtain ⟨cs, x, y, e1, e2, hcs, hx, hy, hy2⟩ := bt.box
  refine ⟨.ref p.1, rfl, p.1, _, 0, .ref p.2, rfl, rfl, SqL.of e1, pick0, ?_⟩
  refine ⟨.ref p.2, rfl, p.2, _, rfl, .inl (SqL.of e2), _, 0, rfl, rfl, _, rfl, ite2 (fun h => ?_) (fun h => ?_)⟩
  · cases cs with
    | nil => simp at h
    | cons c cs =>
      have hl63 : cs.length ≤ 63 := by rw [List.length_cons] at hcs; omega
      have bt1 := bt.pop (cs := cs) hl63
      have hsi : seqIndex? 0 ((c :: cs).map L2.V.int).length = some 0 := by
        rw [seqIndex_of (by decide) (by simp)]; rfl
      refine ⟨.ref p.2, rfl, .inl ⟨rfl, _, SqL.of e2⟩, p.2, _, 0, 0, .int c, rfl, rfl, e2, by decide, by decide, hsi, rfl, .inl ⟨c, rfl, ?_⟩⟩
      refine ⟨.int c, rfl, c, 0, rfl, rfl, _, rfl, ite2 (fun h => ?_) (fun h => ?_)⟩
      · have hc : 0 ≤ c := of_decide_eq_true h
        refine ⟨.int c, rfl, 2, c, rfl, rfl, .inl (by decide), ?_⟩
        exact ht1 _ _ _ _ (show 0 ≤ 2 * c by omega) bt1 (fun H' b => ht2 _ _ _ H' b) q
      · have hc : ¬ 0 ≤ c := fun z => h (decide_eq_true z)
        refine ⟨2, rfl, .int c, rfl, -2, c, rfl, rfl, .inl (by decide), _, 1, rfl, rfl, ?_⟩
        exact ht1 _ _ _ _ (show 0 ≤ -2 * c - 1 by omega) bt1 (fun H' b => ht2 _ _ _ H' b) q
  · exact ht2 _ _ _ H bt
theorem pss_draw2 {q16 q17 q18 q20 q21 q22 q23 q24 q25 q26 q28 q29 q30 q32 q33 q34 q35 q36 q37 q38 : Pos} {k19 k27 k31 : Nat} (hN : X.N = nDraw) (hf : ∀ x, X.fn x = true) (hl : ∀ x ∈ nDraw, X.env.scope.names.lookup x = some .local) (gi : Gl X "int") (mi : X.mg "int" = none)
    {p : Addr × Addr} {H : Hp} {m : Int} (hm : 0 < m) (hm2 : m < 1073741824) (Q : VK) (q : ∀ z H', 0 ≤ z → z < m → BoxTo p H H' → Q (.int z) H') :
    ∃ t, PSs X [(.Assign [(.Name "digit" q16)] (.BinOp (.Call (.Name "int" q17) [(.Subscript (.Name "box" q18) (.Constant (.int 1) k19 q20) q21)] [] q22) .Mod (.Name "many" q23) q24) q25),
      (.Assign [(.Subscript (.Name "box" q26) (.Constant (.int 1) k27 q28) q29)] (.BinOp (.Subscript (.Name "box" q30) (.Constant (.int 1) k31 q32) q33) .FloorDiv (.Name "many" q34) q35) q36),
      (.Return (some (.Name "digit" q37)) q38)] t ∧ ∀ H1, BoxTo p H H1 → t { nx := fun _ H' => Q .non H', rt := Q } [some (.ref p.1), some (.int m), none] H1 := by
  have h0 : X.N[0]? = some ("box" : Str) := by rw [hN]; rfl
  have h1 : X.N[1]? = some ("many" : Str) := by rw [hN]; rfl
  have h2 : X.N[2]? = some ("digit" : Str) := by rw [hN]; rfl
  have nd : X.N.Nodup := by rw [hN]; decide +kernel
  have L : ∀ x ∈ nDraw, L2.Loc X.env.scope x := fun x h => .inl (hl x h)
  have V : ∀ x ∈ nDraw, Vis X.env.scope x := fun x h => .inl (hl x h)
  have v0 := fun p => pe_var (pos := p) h0 (V _ (by simp [nDraw]))
  have v1 := fun p => pe_var (pos := p) h1 (V _ (by simp [nDraw]))
  have v2 := fun p => pe_var (pos := p) h2 (V _ (by simp [nDraw]))
  refine ⟨_, pss_cons (ps_set nd h2 (L _ (by simp [nDraw])) (pe_op op_mod (pe_callTy call_int1 gi mi PyProof.Rows.boot_int (pa_cons (pe_ix ix_list (v0 _) pe_int (fun _ _ => rfl)) pa_nil)) (v1 _)) rfl (.inl (hf _)))
    (pss_cons (ps_asg (pe_op op_fdiv (pe_ix ix_list (v0 _) pe_int (fun _ _ => rfl)) (v1 _)) (pg_sub (v0 _) pe_int set_list))
    (pss_one (ps_ret (v2 _)))), fun H1 bt => ?_⟩
  obtain ⟨cs, x, y, e1, e2, hcs, hx, hy, hy2⟩ := bt.box
  refine ⟨.ref p.1, rfl, p.1, _, 1, .int x, rfl, rfl, SqL.of e1, pick1, .inl ⟨x, rfl, .int m, rfl, x, m, rfl, rfl, hm, ?_⟩⟩
  refine ⟨.ref p.1, rfl, p.1, _, 1, .int x, rfl, rfl, SqL.of e1, pick1, .int m, rfl, x, m, rfl, rfl, ⟨hm, hm2⟩, .ref p.1, rfl, p.1, _, 1, 1, rfl, rfl, e1, rfl, .int (x % m), rfl, ?_⟩
  exact q _ _ (Int.emod_nonneg _ (by omega)) (Int.emod_lt_of_pos _ hm) (bt.set (x := x / m) (y := y) (Int.ediv_nonneg hx (by omega)) hy hy2)
theorem pss_draw {q1 q3 q4 q5 q6 q7 q9 q10 q11 q12 q13 q14 q15 q16 q17 q18 q20 q21 q22 q23 q24 q25 q26 q28 q29 q30 q32 q33 q34 q35 q36 q37 q38 : Pos} {k2 k8 k19 k27 k31 : Nat} {kk : Nat} {fL : Addr} {fdL : FuncData} (hN : X.N = nDraw) (hf : ∀ x, X.fn x = true) (hl : ∀ x ∈ nDraw, X.env.scope.names.lookup x = some .local) (gi : Gl X "int") (mi : X.mg "int" = none) (gL : Gl X "_law_load") (mL : X.mg "_law_load" = some (.ref fL))
    (kp : PySem.W.keepIn X.K (.ref fL) = true) (bL : Binds X.K fdL ["box"] []) (FL : FnOk X.prog X.w X.K X.mg X.base CX0 kk fL fdL ["box"] spLoad) (hr : Room kk X.A)
    {p : Addr × Addr} {H : Hp} {m : Int} (hm : 0 < m) (hm2 : m < 1073741824) (Q : VK) (bt : BoxTo p H H) (q : ∀ z H', 0 ≤ z → z < m → BoxTo p H H' → Q (.int z) H') :
    ∃ t, PSs X [(.If (.Compare (.Subscript (.Name "box" q1) (.Constant (.int 1) k2 q3) q4) [.Lt] [(.Name "many" q5)] q6) [(.Assign [(.Subscript (.Name "box" q7) (.Constant (.int 1) k8 q9) q10)] (.Call (.Name "_law_load" q11) [(.Name "box" q12)] [] q13) q14)] [] q15),
      (.Assign [(.Name "digit" q16)] (.BinOp (.Call (.Name "int" q17) [(.Subscript (.Name "box" q18) (.Constant (.int 1) k19 q20) q21)] [] q22) .Mod (.Name "many" q23) q24) q25),
      (.Assign [(.Subscript (.Name "box" q26) (.Constant (.int 1) k27 q28) q29)] (.BinOp (.Subscript (.Name "box" q30) (.Constant (.int 1) k31 q32) q33) .FloorDiv (.Name "many" q34) q35) q36),
      (.Return (some (.Name "digit" q37)) q38)] t ∧ t { nx := fun _ H' => Q .non H', rt := Q } [some (.ref p.1), some (.int m), none] H := by
  have h0 : X.N[0]? = some ("box" : Str) := by rw [hN]; rfl
  have h1 : X.N[1]? = some ("many" : Str) := by rw [hN]; rfl
  have h2 : X.N[2]? = some ("digit" : Str) := by rw [hN]; rfl
  have nd : X.N.Nodup := by rw [hN]; decide +kernel
  have L : ∀ x ∈ nDraw, L2.Loc X.env.scope x := fun x h => .inl (hl x h)
  have V : ∀ x ∈ nDraw, Vis X.env.scope x := fun x h => .inl (hl x h)
  have v0 := fun p => pe_var (pos := p) h0 (V _ (by simp [nDraw]))
  have v1 := fun p => pe_var (pos := p) h1 (V _ (by simp [nDraw]))
  have v2 := fun p => pe_var (pos := p) h2 (V _ (by simp [nDraw]))
  obtain ⟨t2, hp2, ht2⟩ := pss_draw2 hN hf hl gi mi hm hm2 Q q
  refine ⟨_, pss_cons (ps_if (pt_cmpR op_lt (pe_ix ix_list (v0 _) pe_int (fun _ _ => rfl)) (v1 _) (nomark _))
      (pss_one (ps_asg (pe_call FL hr gL mL kp bL .nil pass0 (pa_cons (v0 _) pa_nil)) (pg_sub (v0 _) pe_int set_list))) pss_nil)
    hp2, ?_⟩
  obtain ⟨cs, x, y, e1, e2, hcs, hx, hy, hy2⟩ := bt.box
  refine ⟨.ref p.1, rfl, p.1, _, 1, .int x, rfl, rfl, SqL.of e1, pick1, .int m, rfl, x, m, rfl, rfl, _, rfl, ite2 (fun h => ?_) (fun h => ?_)⟩
  · refine ⟨.ref p.1, rfl, p, rfl, bt, fun z H1 hz bt1 => ?_⟩
    obtain ⟨cs1, x1, y1, e1', e2', hcs', hx1, hy1, hy2'⟩ := bt1.box
    refine ⟨.ref p.1, rfl, p.1, _, 1, 1, rfl, rfl, e1', rfl, ?_⟩
    exact ht2 _ (bt1.set (x := z) (y := y1) hz hy1 hy2')
  · exact ht2 _ bt
end
end Pd

namespace Pd
open PySem PySem.Spec L2
/-- a draw: any number below many -/
def Tdraw : List B → Tree D
  | [.box, .v (.int m)] => do guard (decide (0 < m) && decide (m < 1073741824)); .draw m.toNat fun d => .ret (.int (d : Int))
  | _ => .err
theorem gr_box {p : Addr × Addr} {G H H' : Hp} (le : Same G H) (nob : ∀ b, BoxA (some p) b → G b = none) (b : BoxTo p H H') : Gr (some p) G H G H' := by
  have ne : ∀ {c}, ¬ BoxA (some p) c → c ≠ p.1 ∧ c ≠ p.2 := fun h => ⟨fun e => h ⟨p, rfl, .inl e⟩, fun e => h ⟨p, rfl, .inr e⟩⟩
  obtain ⟨cs, x, y, e1, e2, h1, h2, h3, h4⟩ := b.box
  refine ⟨fun c o h n => by rw [b.old c (ne n).1 (ne n).2]; exact h, Same.refl G, fun c o h => ?_, fun c _ e => e, fun c h => ?_, fun _ q hq => ?_⟩
  · have n : ¬ BoxA (some p) c := fun z => by rw [nob c z] at h; cases h
    rw [b.old c (ne n).1 (ne n).2]; exact le _ _ h
  · by_cases z1 : c = p.1
    · rw [z1, e1]; simp
    · by_cases z2 : c = p.2
      · rw [z2, e2]; simp
      · rw [b.old c z1 z2]; exact h
  · cases hq
    exact ⟨cs, x, y, b.np, e1, e2, h1, h2, h3, h4⟩
section
variable {P : Program} {w : World} {K : PySem.W.Frag} {mg : Str → Option Value} {base : Heap}
theorem ok_load {q1 q2 q4 q5 q6 q7 q8 q9 q11 q12 q13 q14 q15 q16 q18 q19 q20 q21 q22 q23 q25 q26 q28 q29 q30 q32 q33 q34 q35 q37 q38 q39 q40 q41 q43 q44 q45 q46 q47 q48 q50 q51 q52 q53 q55 q56 q58 q59 q60 q62 q63 q64 q66 q67 q68 q70 q71 q72 q73 q74 q75 q76 q78 q79 q81 q82 q84 q85 q86 q88 q89 q90 q91 q92 q93 q95 q96 q98 q99 q100 q102 q103 q104 q105 q107 q108 q109 q110 q112 q113 q115 q116 q117 q119 q120 q121 q122 q124 q125 q126 q128 q129 q130 q131 q133 q134 q135 q136 : Pos} {k3 k10 k17 k24 k27 k31 k36 k42 k49 k54 k57 k61 k65 k69 k77 k80 k83 k87 k94 k97 k101 k106 k111 k114 k118 k123 k127 k132 : Nat} {qual : Str} {params : Arguments} {scope : Scope} {f : Addr} {fd : FuncData} (D : FunD K "_law_load" qual params [(.Assign [(.Name "cells" q1)] (.Subscript (.Name "box" q2) (.Constant (.int 0) k3 q4) q5) q6),
      (.If (.Compare (.Call (.Name "len" q7) [(.Name "cells" q8)] [] q9) [.Gt] [(.Constant (.int 0) k10 q11)] q12) [(.Assign [(.Name "cell" q13)] (.Call (.Name "int" q14) [(.Call (.Attribute (.Name "cells" q15) "pop" q16) [(.Constant (.int 0) k17 q18)] [] q19)] [] q20) q21), (.Assign [(.Name "size" q22)] (.IfExp (.Compare (.Name "cell" q23) [.GtE] [(.Constant (.int 0) k24 q25)] q26) (.BinOp (.Constant (.int 2) k27 q28) .Mult (.Name "cell" q29) q30) (.BinOp (.BinOp (.UnaryOp .USub (.Constant (.int 2) k31 q32) q33) .Mult (.Name "cell" q34) q35) .Sub (.Constant (.int 1) k36 q37) q38) q39) q40), (.If (.Compare (.Name "size" q41) [.GtE] [(.Constant (.int 1000000000000000000) k42 q43)] q44) [(.Return (some (.Name "size" q45)) q46)] [] q47), (.Assign [(.Subscript (.Name "box" q48) (.Constant (.int 2) k49 q50) q51)] (.BinOp (.Call (.Name "int" q52) [(.BinOp (.BinOp (.BinOp (.Subscript (.Name "box" q53) (.Constant (.int 2) k54 q55) q56) .Mult (.Constant (.int 69621) k57 q58) q59) .Add (.BinOp (.Name "size" q60) .Mult (.Constant (.int 48271) k61 q62) q63) q64) .Add (.Constant (.int 11) k65 q66) q67)] [] q68) .Mod (.Constant (.int 2147483647) k69 q70) q71) q72)] [] q73),
      (.Assign [(.Name "first" q74)] (.BinOp (.Call (.Name "int" q75) [(.BinOp (.BinOp (.Subscript (.Name "box" q76) (.Constant (.int 2) k77 q78) q79) .Mult (.Constant (.int 48271) k80 q81) q82) .Add (.Constant (.int 17) k83 q84) q85)] [] q86) .Mod (.Constant (.int 2147483629) k87 q88) q89) q90),
      (.Assign [(.Name "second" q91)] (.BinOp (.Call (.Name "int" q92) [(.BinOp (.BinOp (.Name "first" q93) .Mult (.Constant (.int 69621) k94 q95) q96) .Add (.Constant (.int 5) k97 q98) q99)] [] q100) .Mod (.Constant (.int 2147483587) k101 q102) q103) q104),
      (.Assign [(.Subscript (.Name "box" q105) (.Constant (.int 2) k106 q107) q108)] (.BinOp (.Call (.Name "int" q109) [(.BinOp (.BinOp (.Name "second" q110) .Mult (.Constant (.int 40692) k111 q112) q113) .Add (.Constant (.int 3) k114 q115) q116)] [] q117) .Mod (.Constant (.int 2147483563) k118 q119) q120) q121),
      (.Return (some (.BinOp (.BinOp (.BinOp (.Name "first" q122) .Mult (.Constant (.int 4611686014132420609) k123 q124) q125) .Add (.BinOp (.Name "second" q126) .Mult (.Constant (.int 2147483647) k127 q128) q129) q130) .Add (.Subscript (.Name "box" q131) (.Constant (.int 2) k132 q133) q134) q135)) q136)] scope [] [] f fd)
    (hq : (q16.endLine == q19.line) = true) (S : FnScope nLoad ["box"] scope) (hl : ∀ x ∈ nLoad, scope.names.lookup x = some .local) (gl : scope.names.lookup ("len" : Str) = some .globalImplicit) (gi : scope.names.lookup ("int" : Str) = some .globalImplicit) (ml : mg "len" = none) (mi : mg "int" = none) : FnOk P w K mg base CX0 1 f fd ["box"] spLoad := by
  refine D.ok S (fun vs H Q E ⟨p, e, _⟩ => by rw [e]; rfl) (fun cdv A outer s H vs Q E hr ⟨p, e, bt, q⟩ => ?_)
  subst e
  obtain ⟨t, h1, h2⟩ := pss_load (X := (cxOf CX0 P w K mg base nLoad qual scope f cdv A outer s H E).nox) hq rfl (fun _ => rfl) hl gl gi ml mi Q bt q
  exact ⟨t, PSs.nox h1, h2⟩
theorem ok_draw {q1 q3 q4 q5 q6 q7 q9 q10 q11 q12 q13 q14 q15 q16 q17 q18 q20 q21 q22 q23 q24 q25 q26 q28 q29 q30 q32 q33 q34 q35 q36 q37 q38 : Pos} {k2 k8 k19 k27 k31 : Nat} {qual : Str} {params : Arguments} {scope : Scope} {f fL : Addr} {fd fdL : FuncData} (D : FunD K "_law_draw" qual params [(.If (.Compare (.Subscript (.Name "box" q1) (.Constant (.int 1) k2 q3) q4) [.Lt] [(.Name "many" q5)] q6) [(.Assign [(.Subscript (.Name "box" q7) (.Constant (.int 1) k8 q9) q10)] (.Call (.Name "_law_load" q11) [(.Name "box" q12)] [] q13) q14)] [] q15),
      (.Assign [(.Name "digit" q16)] (.BinOp (.Call (.Name "int" q17) [(.Subscript (.Name "box" q18) (.Constant (.int 1) k19 q20) q21)] [] q22) .Mod (.Name "many" q23) q24) q25),
      (.Assign [(.Subscript (.Name "box" q26) (.Constant (.int 1) k27 q28) q29)] (.BinOp (.Subscript (.Name "box" q30) (.Constant (.int 1) k31 q32) q33) .FloorDiv (.Name "many" q34) q35) q36),
      (.Return (some (.Name "digit" q37)) q38)] scope [] [] f fd)
    (S : FnScope nDraw ["box", "many"] scope) (hl : ∀ x ∈ nDraw, scope.names.lookup x = some .local) (gL : scope.names.lookup ("_law_load" : Str) = some .globalImplicit) (gi : scope.names.lookup ("int" : Str) = some .globalImplicit) (mi : mg "int" = none) (mL : mg "_law_load" = some (.ref fL)) (kp : PySem.W.keepIn K (.ref fL) = true) (bL : Binds K fdL ["box"] [])
    (FL : FnOk P w K mg base CX0 1 fL fdL ["box"] spLoad) : FnOk P w K mg base CX0 2 f fd ["box", "many"] (spT K Tdraw) := by
  have inv : ∀ {vs : List V} {H : Hp} {Q : VK} {E : XK}, spT K Tdraw vs H Q E → ∃ (p : Addr × Addr) (m : Int), vs = [.ref p.1, .int m] ∧ 0 < m ∧ m < 1073741824 ∧ BoxTo p H H ∧ ∀ z H', 0 ≤ z → z < m → BoxTo p H H' → Q (.int z) H' := by
    rintro vs H Q E ⟨W, G, bs, le, bo, nob, ras, q⟩
    match bs, ras, q with
    | [.box, .v (.int m)], ras, q =>
      obtain ⟨hb, q⟩ := all_guard (show (guard (decide (0 < m) && decide (m < 1073741824)) >>= fun _ => Tree.draw m.toNat fun d => Tree.ret (PyData.int (d : Int))).All _ from q)
      rw [Bool.and_eq_true] at hb
      have hm := of_decide_eq_true hb.1
      cases ras with
      | cons a r =>
        cases a with
        | @box p e =>
          cases r with
          | cons a r =>
            cases r
            cases a with
            | v rv =>
              cases rv
              subst e
              obtain ⟨cs, x, y, np, e1, e2, h1, h2, h3, h4⟩ := bo p rfl
              refine ⟨p, m, rfl, hm, of_decide_eq_true hb.2, ⟨fun _ _ _ => rfl, np, cs, x, y, e1, e2, h1, h2, h3, h4⟩, fun z H' z0 zm b => ?_⟩
              have q := (show ∀ d, d < m.toNat → ∀ v G' H', Gr (some p) G H G' H' → Rp K G' v (.int (d : Int)) → Q v H' from q) z.toNat (by omega) (.int z) G H' (gr_box le nob b)
              have e : ((z.toNat : Nat) : Int) = z := by omega
              rw [e] at q
              exact q (.int z)
  refine D.ok S (fun vs H Q E h => by obtain ⟨p, m, e, _⟩ := inv h; rw [e]; rfl) (fun cdv A outer s H vs Q E hr h => ?_)
  obtain ⟨p, m, e, hm, hm2, bt, q⟩ := inv h
  subst e
  obtain ⟨t, h1, h2⟩ := pss_draw (X := (cxOf CX0 P w K mg base nDraw qual scope f cdv A outer s H E).nox) rfl (fun _ => rfl) hl gi mi gL mL kp bL FL hr hm hm2 Q bt q
  exact ⟨t, PSs.nox h1, h2⟩
/-- what _law_box promises -/
def spBox (K : PySem.W.Frag) : Sp := fun vs H Q _ => ∃ (a : Addr) (ns : List Int), vs = [.ref a] ∧ SqL K H a (ns.map V.int) ∧ ns.length ≤ 63 ∧ ∀ (p : Addr × Addr) H', BoxOk (some p) H' → Q (.ref p.1) H'
theorem ok_box {q1 q2 q4 q5 q6 q7 q9 q11 q12 q13 q14 q15 q16 q17 : Pos} {k3 k8 k10 : Nat} {qual : Str} {params : Arguments} {scope : Scope} {f : Addr} {fd : FuncData} (D : FunD K "_law_box" qual params [(.Return (some (.List [(.Call (.Name "list" q1) [(.Subscript (.Name "script" q2) (.Slice none (some (.Constant (.int 63) k3 q4)) none q5) q6)] [] q7), (.Constant (.int 0) k8 q9), (.BinOp (.Constant (.int 4711) k10 q11) .Add (.Call (.Name "len" q12) [(.Name "script" q13)] [] q14) q15)] q16)) q17)] scope [] [] f fd)
    (S : FnScope ["script"] ["script"] scope) (hl : scope.names.lookup ("script" : Str) = some .local) (gt : scope.names.lookup ("list" : Str) = some .globalImplicit) (gl : scope.names.lookup ("len" : Str) = some .globalImplicit) (ml : mg "len" = none) (mt : mg "list" = none) : FnOk P w K mg base CX0 1 f fd ["script"] (spBox K) := by
  refine D.ok S (fun vs H Q E ⟨a, ns, e, _⟩ => by rw [e]; rfl) (fun cdv A outer s H vs Q E hr ⟨a, ns, e, hS, hlen, q⟩ => ?_)
  subst e
  have v0 := fun p => pe_var (X := (cxOf CX0 P w K mg base ["script"] qual scope f cdv A outer s H E).nox) (i := 0) (pos := p) (x := "script") rfl (.inl hl)
  refine ⟨_, PSs.nox (pss_one (ps_ret (pe_lst (pa_cons (pe_callTy call_list_of gt mt PyProof.Rows.boot_list (pa_cons (pe_slice sl_list (v0 _) po_none (po_some pe_int)) pa_nil))
    (pa_cons pe_int (pa_cons (pe_op op_add pe_int (pe_callB call_len_seq gl ml PySem.boot_len (pa_cons (v0 _) pa_nil))) pa_nil)))))), ?_⟩
  have S0 := hS
  refine ⟨.ref a, rfl, 63, rfl, a, ns.map V.int, rfl, hS, fun c nc => ⟨c, _, rfl, .inl (SqL.of (upd_same ..)), fun l nl => ?_⟩⟩
  have s1 : Same H (upd H c (.lst (cutV (ns.map V.int) none (some 63)))) := same_upd nc
  have s2 := s1.trans (same_upd (o := .lst (cutV (ns.map V.int) none (some 63))) nl)
  refine ⟨.ref a, rfl, a, _, rfl, .inl (s2.seq hS), 4711, _, rfl, rfl, nat_lt_lim, fun p np => ?_⟩
  have e : cutV (ns.map V.int) none (some 63) = (Pd.cut ns none (some 63)).map V.int := by
    unfold cutV Pd.cut
    rw [List.length_map, List.map_take, List.map_drop]
  have ne : p ≠ l := fun z => by rw [z, upd_same] at np; cases np
  refine q (p, l) _ fun w hw => ?_
  cases hw
  refine ⟨Pd.cut ns none (some 63), 0, 4711 + ((ns.map V.int).length : Int), ne, upd_same .., ?_, ?_, Int.le_refl _, by omega, ?_⟩
  · rw [upd_ne (Ne.symm ne), upd_same, e]
  · refine Nat.le_trans ?_ hlen
    unfold Pd.cut
    rw [List.length_take, List.length_drop]
    omega
  · rw [List.length_map]; omega
def spLaw (K : PySem.W.Frag) : Sp := fun vs H Q _ => ∃ (a : Addr) (ns : List Int), vs = [.ref a] ∧ SqL K H a (ns.map V.int) ∧ ns.length ≤ 63 ∧ ∀ H', Q (.bl true) H'
/-- the law's slots behind its first statement: nothing but the box -/
def lawEnv (n i : Nat) : Env := (List.replicate n none).set i (some .box)
theorem ok_law {fns : List (Str × Nat)} {cons : List (Str × D)} {bis : List Str} {tab : List Fd} {k : Nat} {x qual : Str} {params : Arguments} {scope : Scope} {f fB : Addr} {fd fdB : FuncData} {N : List Str} {q1 q2 q3 q4 q5 : Pos} {rest : List Stmt} {ss : List S} {i : Nat}
    (D : FunD K x qual params (.Assign [.Name "box" q1] (.Call (.Name "_law_box" q2) [.Name "script" q3] [] q4) q5 :: rest) scope [] [] f fd)
    (S : FnScope N ["script"] scope) (gl : Glob K mg cons bis) (hf : ∀ y j, fns.lookup y = some j → ∃ f fd ps, mg y = some (.ref f) ∧ PySem.W.keepIn K (.ref f) = true ∧ Binds K fd ps [] ∧ FnOk P w K mg base CX0 k f fd ps (spT K (callN tab k j)))
    (hi : N[i]? = some ("box" : Str)) (h0 : N[0]? = some ("script" : Str)) (vb : L2.Loc scope ("box" : Str)) (vs : Vis scope ("script" : Str)) (gB : scope.names.lookup ("_law_box" : Str) = some .globalImplicit) (mB : mg "_law_box" = some (.ref fB)) (kp : PySem.W.keepIn K (.ref fB) = true) (bB : Binds K fdB ["script"] []) (FB : FnOk P w K mg base CX0 1 fB fdB ["script"] (spBox K))
    (ht : trSs (ctxOf fns cons bis N scope) rest = some ss) (hk : 1 ≤ k)
    (hall : (exs (callN tab k) ss (lawEnv N.length i)).All fun o => o = .ret (.bool true)) : FnOk P w K mg base CX0 (k + 1) f fd ["script"] (spLaw K) := by
  refine D.ok S (fun vs H Q E ⟨a, ns, e, _⟩ => by rw [e]; rfl) (fun cdv A outer s H vs Q E hr ⟨a, ns, e, hS, hlen, q⟩ => ?_)
  subst e
  have fits : FitsS (ctxOf fns cons bis N scope) k (callN tab k) (cxOf CX0 P w K mg base N qual scope f cdv A outer s H E).nox :=
    { N := rfl, nd := S.nd, sc := rfl, calm := rfl, room := hr, blk := fun _ => rfl, cons := gl.cons, bis := gl.bis, fns := hf, po := PassesOwn.never, kind := S.kind }
  have p0 : PS (cxOf CX0 P w K mg base N qual scope f cdv A outer s H E).nox (.Assign [.Name "box" q1] (.Call (.Name "_law_box" q2) [.Name "script" q3] [] q4) q5) (tAsg (tCall (spBox K) [] E0 (tCons (tVar 0) tNil)) (gName i)) :=
    ps_set S.nd hi vb (pe_call FB (hr.mono hk) gB mB kp bB .nil pass0 (pa_cons (pe_var h0 vs) pa_nil)) rfl (.inl rfl)
  refine ⟨_, PSs.nox (pss_cons p0 (pss_all fits rfl rest ht)), ?_⟩
  have hl0 : (L2.start N [V.ref a])[0]? = some (some (.ref a)) := rfl
  refine ⟨.ref a, hl0, a, ns, rfl, hS, hlen, fun p H' bo => ?_⟩
  have hlen0 : (L2.start N [V.ref a]).length = N.length := by
    have h1 : 1 ≤ N.length := by
      cases N with
      | nil => simp at h0
      | cons _ _ => simp
    unfold L2.start
    rw [List.length_append, List.length_map, List.length_replicate]
    simp
    omega
  refine ⟨some p, fun _ => none, H', fun _ => none, lawEnv N.length i, ⟨⟨fun _ _ h _ => h, fun _ _ h => h, fun _ _ h => (by cases h), fun _ _ h => h, fun _ h => h, fun h => h⟩, bo, fun _ _ => rfl, ?_, fun j b h => ?_, fun j j' d d' v _ h => ?_⟩, hall.mono fun o ho => ?_⟩
  · unfold lawEnv
    rw [List.length_set, List.length_set, List.length_replicate, hlen0]
  · unfold lawEnv at h
    by_cases hj : i = j
    · subst hj
      have hlt : i < N.length := (List.getElem?_eq_some_iff.mp hi).1
      rw [List.getElem?_set_self (by simpa using hlt)] at h
      cases h
      exact ⟨.ref p.1, by rw [List.getElem?_set_self (by rw [hlen0]; exact hlt)], .box rfl⟩
    · rw [List.getElem?_set_ne hj, List.getElem?_replicate] at h
      split at h <;> cases h
  · exfalso
    unfold lawEnv at h
    by_cases hj : i = j
    · subst hj
      have hlt : i < N.length := (List.getElem?_eq_some_iff.mp hi).1
      rw [List.getElem?_set_self (by simpa using hlt)] at h
      cases h
    · rw [List.getElem?_set_ne hj, List.getElem?_replicate] at h
      split at h <;> cases h
  · subst ho
    intro v G2 H2 _ r
    cases r
    exact q H2
end
end Pd

namespace Pd
open PySem L2
section
variable {Φ : Phi} {ρ : Env}
theorem rb {α β : Type} (a : α) (f : α → Tree β) : (Tree.ret a >>= f) = f a := id rfl
theorem eb {α β : Type} (f : α → Tree β) : ((Tree.err : Tree α) >>= f) = Tree.err := id rfl
theorem gtrue {α : Type} (f : Unit → Tree α) : (guard true >>= f) = f () := id rfl
theorem guard_of {α : Type} {b : Bool} (h : b = true) (f : Unit → Tree α) : (guard b >>= f) = f () := by rw [h]; rfl
theorem tr_b (b : Bool) : truth (.bool b) = .ret b := id rfl
theorem as_b (b : Bool) : asBool (.bool b) = .ret b := id rfl
theorem post_v (t : Tree D) : post .v t = t := id rfl
theorem post_w (t : Tree D) : post .w t = t := id rfl
theorem post_t' (d : D) : post .t (.ret d) = (truth d >>= fun k => Tree.ret (PyData.bool k)) := id rfl
theorem post_i' (d : D) : post .i (.ret d) = (items d >>= fun k => Tree.ret (PyData.list k)) := id rfl
theorem e_var_v (i : Nat) : ev Φ .v (.var i) ρ = rd ρ i := id rfl
theorem e_var_w (i : Nat) : ev Φ .w (.var i) ρ = rdW ρ i := id rfl
theorem e_var_t (i : Nat) : ev Φ .t (.var i) ρ = post .t (rdW ρ i) := id rfl
theorem e_var_i (i : Nat) : ev Φ .i (.var i) ρ = post .i (rd ρ i) := id rfl
theorem e_con (m : Md) (d : D) : ev Φ m (.con d) ρ = post m (.ret d) := by cases m <;> rfl
theorem e_tup (m : Md) (es : List E) : ev Φ m (.tup es) ρ = post m (evs Φ es ρ >>= fun ds => guard (decide (ds.length ≤ lim)) >>= fun _ => .ret (.tuple ds)) := by cases m <;> rfl
theorem e_lst (m : Md) (es : List E) : ev Φ m (.lst es) ρ = post m (evs Φ es ρ >>= fun ds => guard (decide (ds.length ≤ lim)) >>= fun _ => .ret (.list ds)) := by cases m <;> rfl
theorem e_bin (m : Md) (op : Operator) (a b : E) : ev Φ m (.bin op a b) ρ = post m (ev Φ .v a ρ >>= fun x => ev Φ .v b ρ >>= fun y => dBin op x y) := by cases m <;> rfl
theorem e_neg (m : Md) (a : E) : ev Φ m (.neg a) ρ = post m (ev Φ .v a ρ >>= fun x => asInt x >>= fun i => .ret (.int (-i))) := by cases m <;> rfl
theorem e_not_v (a : E) : ev Φ .v (.not a) ρ = (ev Φ .w a ρ >>= fun x => truth x >>= fun k => .ret (.bool (!k))) := id rfl
theorem e_not_t (a : E) : ev Φ .t (.not a) ρ = (ev Φ .t a ρ >>= fun x => asBool x >>= fun k => .ret (.bool (!k))) := id rfl
theorem e_and_v (a b : E) : ev Φ .v (.and a b) ρ = (ev Φ .v a ρ >>= fun x => asBool x >>= fun k => if k = true then ev Φ .v b ρ else .ret (.bool false)) := id rfl
theorem e_and_t (a b : E) : ev Φ .t (.and a b) ρ = (ev Φ .t a ρ >>= fun x => asBool x >>= fun k => if k = true then ev Φ .t b ρ else .ret (.bool false)) := id rfl
theorem e_or_v (a b : E) : ev Φ .v (.or a b) ρ = (ev Φ .v a ρ >>= fun x => asBool x >>= fun k => if k = true then .ret (.bool true) else ev Φ .v b ρ) := id rfl
theorem e_or_t (a b : E) : ev Φ .t (.or a b) ρ = (ev Φ .t a ρ >>= fun x => asBool x >>= fun k => if k = true then .ret (.bool true) else ev Φ .t b ρ) := id rfl
theorem e_ite_v (c a b : E) : ev Φ .v (.ite c a b) ρ = (ev Φ .t c ρ >>= fun x => asBool x >>= fun k => if k = true then ev Φ .v a ρ else ev Φ .v b ρ) := id rfl
theorem e_ite_w (c a b : E) : ev Φ .w (.ite c a b) ρ = (ev Φ .t c ρ >>= fun x => asBool x >>= fun k => if k = true then ev Φ .v a ρ else ev Φ .v b ρ) := id rfl
theorem e_ite_t (c a b : E) : ev Φ .t (.ite c a b) ρ = (ev Φ .t c ρ >>= fun x => asBool x >>= fun k => if k = true then ev Φ .t a ρ else ev Φ .t b ρ) := id rfl
theorem e_cmp (m : Md) (op : CmpOp) (a b : E) : ev Φ m (.cmp op a b) ρ = post m (ev Φ .w a ρ >>= fun x => ev Φ .w b ρ >>= fun y => dCmp op x y >>= fun k => .ret (.bool k)) := by cases m <;> rfl
theorem e_cmp2 (m : Md) (op op' : CmpOp) (a b c : E) : ev Φ m (.cmp2 op op' a b c) ρ = post m (ev Φ .w a ρ >>= fun x => ev Φ .w b ρ >>= fun y => dCmp op x y >>= fun k => if k = true then (ev Φ .w c ρ >>= fun z => dCmp op' y z >>= fun k' => .ret (.bool k')) else .ret (.bool false)) := by cases m <;> rfl
theorem e_idx (m : Md) (a i : E) : ev Φ m (.idx a i) ρ = post m (ev Φ .w a ρ >>= fun x => ev Φ .v i ρ >>= fun j => dIdx x j) := by cases m <;> rfl
theorem e_slc (m : Md) (a : E) (lo hi : Option E) : ev Φ m (.slc a lo hi) ρ = post m (ev Φ .w a ρ >>= fun x => evO Φ lo ρ >>= fun l => evO Φ hi ρ >>= fun h => dSlc x l h) := by cases m <;> rfl
theorem e_rev (m : Md) (a : E) : ev Φ m (.rev a) ρ = post m (ev Φ .w a ρ >>= fun x => dRev x) := by cases m <;> rfl
theorem e_call (m : Md) (f : Nat) (as : List E) : ev Φ m (.call f as) ρ = post m (evBs Φ as ρ >>= fun bs => Φ f bs) := by cases m <;> rfl
theorem e_isa (m : Md) (a : E) (ty : String) : ev Φ m (.isa a ty) ρ = post m (ev Φ .w a ρ >>= fun x => .ret (.bool (isa x ty))) := by cases m <;> rfl
theorem e_bi_v (f : Bi) (as : List E) : ev Φ .v (.bi f as) ρ = (evWs Φ as ρ >>= fun ds => dBi f ds) := by cases f <;> rfl
theorem e_bi_w (f : Bi) (as : List E) : ev Φ .w (.bi f as) ρ = (evWs Φ as ρ >>= fun ds => dBi f ds) := by cases f <;> rfl
theorem e_bi_t (f : Bi) (as : List E) : ev Φ .t (.bi f as) ρ = post .t (evWs Φ as ρ >>= fun ds => dBi f ds) := by cases f <;> rfl
theorem e_rng1 (a : E) : ev Φ .i (.bi .range [a]) ρ = (ev Φ .v a ρ >>= fun x => asInt x >>= fun n => guard (near62 n) >>= fun _ => .ret (.list (rng 0 n.toNat))) := id rfl
theorem e_rng2 (a b : E) : ev Φ .i (.bi .range [a, b]) ρ = (ev Φ .v a ρ >>= fun x => ev Φ .v b ρ >>= fun y => asInt x >>= fun m => asInt y >>= fun n => guard (near62 m && near62 n) >>= fun _ => .ret (.list (rng m (n - m).toNat))) := id rfl
theorem e_join (m : Md) (o : E) (as : List E) : ev Φ m (.me .join o as) ρ = post m (ev Φ .w o ρ >>= fun x => guard (meOk .join x) >>= fun _ => evWs Φ as ρ >>= fun ds => dMe .join x ds) := by cases m <;> rfl
theorem e_count (m : Md) (o : E) (as : List E) : ev Φ m (.me .count o as) ρ = post m (ev Φ .w o ρ >>= fun x => guard (meOk .count x) >>= fun _ => evWs Φ as ρ >>= fun ds => dMe .count x ds) := by cases m <;> rfl
theorem e_ws_nil : evWs Φ [] ρ = .ret [] := id rfl
theorem e_ws_cons (e : E) (r : List E) : evWs Φ (e :: r) ρ = (ev Φ .w e ρ >>= fun x => evWs Φ r ρ >>= fun xs => .ret (x :: xs)) := id rfl
theorem e_s_nil : evs Φ [] ρ = .ret [] := id rfl
theorem e_s_cons (e : E) (r : List E) : evs Φ (e :: r) ρ = (ev Φ .v e ρ >>= fun x => evs Φ r ρ >>= fun xs => .ret (x :: xs)) := id rfl
theorem e_b_nil : evBs Φ [] ρ = .ret [] := id rfl
theorem e_b_cons (e : E) (r : List E) : evBs Φ (e :: r) ρ = (evB Φ e ρ >>= fun x => evBs Φ r ρ >>= fun xs => .ret (x :: xs)) := evBs_cons e r ρ
theorem e_B_var (i : Nat) : evB Φ (.var i) ρ = rdB ρ i := id rfl
theorem e_B_con (d : D) : evB Φ (.con d) ρ = (ev Φ .v (.con d) ρ >>= fun x => .ret (.v x)) := id rfl
theorem e_B_tup (es : List E) : evB Φ (.tup es) ρ = (ev Φ .v (.tup es) ρ >>= fun x => .ret (.v x)) := id rfl
theorem e_B_lst (es : List E) : evB Φ (.lst es) ρ = (ev Φ .v (.lst es) ρ >>= fun x => .ret (.v x)) := id rfl
theorem e_B_bin (op : Operator) (a b : E) : evB Φ (.bin op a b) ρ = (ev Φ .v (.bin op a b) ρ >>= fun x => .ret (.v x)) := id rfl
theorem e_B_idx (a b : E) : evB Φ (.idx a b) ρ = (ev Φ .v (.idx a b) ρ >>= fun x => .ret (.v x)) := id rfl
theorem e_B_slc (a : E) (l h : Option E) : evB Φ (.slc a l h) ρ = (ev Φ .v (.slc a l h) ρ >>= fun x => .ret (.v x)) := id rfl
theorem e_B_call (f : Nat) (as : List E) : evB Φ (.call f as) ρ = (ev Φ .v (.call f as) ρ >>= fun x => .ret (.v x)) := id rfl
theorem e_B_bi (f : Bi) (as : List E) : evB Φ (.bi f as) ρ = (ev Φ .v (.bi f as) ρ >>= fun x => .ret (.v x)) := id rfl
theorem e_B_ite (c a b : E) : evB Φ (.ite c a b) ρ = (ev Φ .v (.ite c a b) ρ >>= fun x => .ret (.v x)) := id rfl
theorem e_B_lc (t : T) (vs : List Nat) (it : E) (ifs : List E) (el : E) : evB Φ (.lc t vs it ifs el) ρ = (ev Φ .v (.lc t vs it ifs el) ρ >>= fun x => .ret (.v x)) := id rfl
theorem e_B_rev (a : E) : evB Φ (.rev a) ρ = (ev Φ .v (.rev a) ρ >>= fun x => .ret (.v x)) := id rfl
theorem e_o_none : evO Φ none ρ = .ret none := id rfl
theorem e_o_some (e : E) : evO Φ (some e) ρ = (ev Φ .v e ρ >>= fun x => asInt x >>= fun i => .ret (some i)) := id rfl
theorem e_if_nil : evIfs Φ [] ρ = .ret true := id rfl
theorem e_if_one (e : E) : evIfs Φ [e] ρ = evT Φ e ρ := by
  show (ev Φ .t e ρ >>= fun x => asBool x >>= fun k => if k = true then Tree.ret true else Tree.ret false) = (ev Φ .t e ρ >>= asBool)
  congr 1; funext x
  rw [← Tree.bind_ret' (asBool x)]
  congr 1
  · exact Tree.bind_ret' _
  · funext k; cases k <;> rfl
theorem e_T (e : E) : evT Φ e ρ = (ev Φ .t e ρ >>= asBool) := id rfl
theorem e_I (e : E) : evI Φ e ρ = (ev Φ .i e ρ >>= asLst) := id rfl
theorem x_nil : exs Φ [] ρ = .ret (.nx ρ) := id rfl
theorem x_cons (s : S) (r : List S) : exs Φ (s :: r) ρ = (ex Φ s ρ >>= fun o => match o with | .nx ρ' => exs Φ r ρ' | o => .ret o) := id rfl
theorem x_asg (t : T) (e : E) : ex Φ (.asg t e) ρ = (ev Φ .v e ρ >>= fun x => bindT t x ρ >>= fun ρ' => .ret (.nx ρ')) := id rfl
theorem x_own (i : Nat) (e : E) : ex Φ (.own i e) ρ = (ev Φ .v e ρ >>= fun x => .ret (.nx (ρ.set i (some (.own x))))) := id rfl
theorem x_ret (e : E) : ex Φ (.ret e) ρ = (ev Φ .v e ρ >>= fun x => .ret (.ret x)) := id rfl
theorem x_ite (c : E) (a b : List S) : ex Φ (.ite c a b) ρ = (evT Φ c ρ >>= fun k => if k = true then exs Φ a ρ else exs Φ b ρ) := id rfl
theorem x_for (t : T) (it : E) (b : List S) : ex Φ (.for_ t it b) ρ = (evI Φ it ρ >>= fun xs => forD (fun x ρ' => bindT t x ρ' >>= fun ρ2 => exs Φ b ρ2) xs ρ) := id rfl
theorem x_frz (i : Nat) : ex Φ (.frz i) ρ = .ret (.nx (frzAt ρ i)) := id rfl
theorem bT_name (i : Nat) (d : D) : bindT (.name i) d ρ = .ret (ρ.set i (some (.v d))) := id rfl
theorem bT_tup (ts : List T) (ds : List D) : bindT (.tup ts) (.tuple ds) ρ = (guard (decide (ds.length = ts.length)) >>= fun _ => bindTs ts ds ρ) := id rfl
theorem bTs_nil : bindTs [] [] ρ = .ret ρ := id rfl
theorem bTs_cons (t : T) (ts : List T) (d : D) (ds : List D) : bindTs (t :: ts) (d :: ds) ρ = (bindT t d ρ >>= fun ρ' => bindTs ts ds ρ') := id rfl
theorem lcD_map {f : D → Tree (Option D)} {g : D → Option D} : ∀ {xs : List D}, (∀ x ∈ xs, f x = .ret (g x)) → lcD f xs = .ret (xs.filterMap g)
  | [], _ => rfl
  | x :: r, h => by
    show (f x >>= fun o => _) = _
    rw [h x List.mem_cons_self, rb, List.filterMap_cons]
    have ih := lcD_map (f := f) (g := g) (xs := r) fun y hy => h y (List.mem_cons_of_mem _ hy)
    cases g x with
    | none => exact ih
    | some y =>
      show (lcD f r >>= fun ys => Tree.ret (y :: ys)) = _
      rw [ih, rb]
theorem lcP_map {f : D → Tree (Option (D × D))} {g : D → Option (D × D)} : ∀ {xs : List D}, (∀ x ∈ xs, f x = .ret (g x)) → lcD f xs = .ret (xs.filterMap g)
  | [], _ => rfl
  | x :: r, h => by
    show (f x >>= fun o => _) = _
    rw [h x List.mem_cons_self, rb, List.filterMap_cons]
    have ih := lcP_map (f := f) (g := g) (xs := r) fun y hy => h y (List.mem_cons_of_mem _ hy)
    cases g x with
    | none => exact ih
    | some y =>
      show (lcD f r >>= fun ys => Tree.ret (y :: ys)) = _
      rw [ih, rb]
theorem lcD2_map {f : D → Tree (List D)} {g : D → List D} : ∀ {xs : List D}, (∀ x ∈ xs, f x = .ret (g x)) → lcD2 f xs = .ret (xs.flatMap g)
  | [], _ => rfl
  | x :: r, h => by
    show (f x >>= fun ys => lcD2 f r >>= fun zs => Tree.ret (ys ++ zs)) = _
    rw [h x List.mem_cons_self, rb, lcD2_map (g := g) (xs := r) fun y hy => h y (List.mem_cons_of_mem _ hy), rb, List.flatMap_cons]
/-- a for that goes through all its turns: the slots by the items taken -/
theorem forD_run {f : D → Env → Tree Out} {I : List D → Env} : ∀ {xs done : List D}, (∀ (a : List D) (x : D) (b : List D), xs = a ++ x :: b → f x (I (done ++ a)) = .ret (.nx (I (done ++ a ++ [x])))) → forD f xs (I done) = .ret (.nx (I (done ++ xs)))
  | [], done, _ => by rw [List.append_nil]; rfl
  | x :: r, done, h => by
    show (f x (I done) >>= fun o => _) = _
    have h0 := h [] x r rfl
    rw [List.append_nil] at h0
    rw [h0, rb]
    have ih := forD_run (f := f) (I := I) (xs := r) (done := done ++ [x]) fun a y b e => by
      have := h (x :: a) y b (by rw [e]; rfl)
      simpa using this
    rw [List.append_assoc] at ih
    exact ih
end
end Pd

namespace Pd
open PySem PySem.Spec PyProof.Rows L2
def top (i : Nat) : Stmt := PySem.Challenge.pw_lettergrids_k48_whole_walks_of_a_length.main.body.getD i (.Pass ⟨0, 0, 0, 0⟩)
abbrev s_are_neighbours : Stmt := top 3
abbrev s_table_squares : Stmt := top 4
abbrev s_neighbours : Stmt := top 5
abbrev s_text_of : Stmt := top 6
abbrev s_longer_walks : Stmt := top 7
abbrev s_walks_of_length : Stmt := top 8
abbrev s_count_length : Stmt := top 9
abbrev s_texts_of_length : Stmt := top 10
abbrev s_short_letters : Stmt := top 11
abbrev s_prefix_walks : Stmt := top 13
abbrev s_walks_of : Stmt := top 14
abbrev s_first_walk : Stmt := top 15
abbrev s_walked : Stmt := top 16
abbrev s_beginnings : Stmt := top 17
abbrev s_walked_beginnings : Stmt := top 18
abbrev s__law_flat : Stmt := top 20
abbrev s__law_box : Stmt := top 21
abbrev s__law_load : Stmt := top 22
abbrev s__law_draw : Stmt := top 23
abbrev s__law_same : Stmt := top 24
abbrev s__law_table : Stmt := top 25
abbrev s__law_near : Stmt := top 26
abbrev s__law_count : Stmt := top 27
abbrev s_law : Stmt := top 28
def fns : List (Str × Nat) := [("are_neighbours", 0), ("table_squares", 1), ("neighbours", 2), ("text_of", 3), ("longer_walks", 4), ("walks_of_length", 5), ("count_length", 6), ("texts_of_length", 7), ("short_letters", 8), ("prefix_walks", 9), ("walks_of", 10), ("first_walk", 11), ("walked", 12), ("beginnings", 13), ("walked_beginnings", 14), ("_law_flat", 15), ("_law_draw", 16), ("_law_same", 17), ("_law_table", 18), ("_law_near", 19), ("_law_count", 20)]
def cons : List (Str × D) := [("MAX_LONG_WALK", .int 6), ("MAX_LONG_TEXT", .int 4)]
def bis : List Str := ["len", "tuple", "list", "sorted", "abs", "max", "min", "all", "int", "str", "dict", "range", "isinstance", "bool"]
abbrev n_are_neighbours : List Str := ["one", "other"]
def b_are_neighbours : List S := [.ret (.and (.cmp .NotEq (.var 0) (.var 1)) (.and (.cmp .LtE (.bi .abs [(.bin .Sub (.idx (.var 0) (.con (.int (0)))) (.idx (.var 1) (.con (.int (0)))))]) (.con (.int (1)))) (.cmp .LtE (.bi .abs [(.bin .Sub (.idx (.var 0) (.con (.int (1)))) (.idx (.var 1) (.con (.int (1)))))]) (.con (.int (1))))))]
abbrev n_table_squares : List Str := ["table", "i", "j"]
def b_table_squares : List S := [.ret (.lc2 (.name 1) [1, 2] (.bi .range [(.bi .len [(.var 0)])]) [] (.name 2) [2] (.bi .range [(.bi .len [(.idx (.var 0) (.con (.int (0))))])]) [] (.tup [(.var 1), (.var 2)]))]
abbrev n_neighbours : List Str := ["table", "square", "other"]
def b_neighbours : List S := [.frz 0, .frz 1, .ret (.bi .tuple [(.lc (.name 2) [2] (.call 1 [(.var 0)]) [(.call 0 [(.var 1), (.var 2)])] (.var 2))])]
abbrev n_text_of : List Str := ["table", "walk", "i", "j"]
def b_text_of : List S := [.frz 1, .ret (.me .join (.con (.str ("" : Str))) [(.lc (.tup [.name 2, .name 3]) [2, 3] (.var 1) [] (.idx (.idx (.var 0) (.var 2)) (.var 3)))])]
abbrev n_longer_walks : List Str := ["table", "walks", "found", "walk", "square"]
def b_longer_walks : List S := [.own 2 (.lst []), .frz 1, .for_ (.name 3) (.var 1) [.frz 0, .frz 3, .ext 2 (.lc (.name 4) [4] (.call 2 [(.var 0), (.idx (.var 3) (.neg (.con (.int (1)))))]) [(.cmp .NotIn (.var 4) (.var 3))] (.bin .Add (.var 3) (.tup [(.var 4)])))], .frz 2, .ret (.var 2)]
abbrev n_walks_of_length : List Str := ["table", "length", "walks", "square", "_"]
def b_walks_of_length : List S := [.frz 0, .own 2 (.lc (.name 3) [3] (.call 1 [(.var 0)]) [] (.tup [(.var 3)])), .frz 1, .for_ (.name 4) (.bi .range [(.bin .Sub (.var 1) (.con (.int (1))))]) [.frz 0, .frz 2, .asg (.name 2) (.call 4 [(.var 0), (.var 2)])], .frz 2, .ret (.var 2)]
abbrev n_count_length : List Str := ["table", "length"]
def b_count_length : List S := [.frz 0, .frz 1, .ret (.bi .len [(.call 5 [(.var 0), (.var 1)])])]
abbrev n_texts_of_length : List Str := ["table", "length", "walk"]
def b_texts_of_length : List S := [.frz 0, .frz 1, .ret (.bi .tuple [(.bi .sorted [(.dc (.name 2) [2] (.call 5 [(.var 0), (.var 1)]) [] (.call 3 [(.var 0), (.var 2)]) (.con (.bool true)))])])]
abbrev n_short_letters : List Str := ["table", "word", "every", "letter"]
def b_short_letters : List S := [.asg (.name 2) (.me .join (.con (.str ("" : Str))) [(.var 0)]), .frz 1, .ret (.me .join (.con (.str ("" : Str))) [(.bi .sorted [(.dc (.name 3) [3] (.var 1) [(.cmp .Gt (.me .count (.var 1) [(.var 3)]) (.me .count (.var 2) [(.var 3)]))] (.var 3) (.con (.bool true)))])])]
abbrev n_prefix_walks : List Str := ["table", "word", "walks", "square", "found", "letter", "walk"]
def b_prefix_walks : List S := [.frz 0, .own 2 (.lc (.name 3) [3] (.call 1 [(.var 0)]) [(.cmp .Eq (.idx (.idx (.var 0) (.idx (.var 3) (.con (.int (0))))) (.idx (.var 3) (.con (.int (1))))) (.idx (.var 1) (.con (.int (0)))))] (.tup [(.var 3)])), .own 4 (.lst []), .for_ (.name 5) (.bin .Add (.slc (.var 1) (some (.con (.int (1)))) none) (.con (.str (" " : Str)))) [.ite (.not (.var 2)) [.frz 4, .ret (.var 4)] [], .frz 2, .app 4 (.var 2), .frz 0, .frz 2, .own 2 (.lc (.name 6) [6] (.call 4 [(.var 0), (.var 2)]) [(.cmp .Eq (.idx (.idx (.var 0) (.idx (.idx (.var 6) (.neg (.con (.int (1))))) (.con (.int (0))))) (.idx (.idx (.var 6) (.neg (.con (.int (1))))) (.con (.int (1))))) (.var 5))] (.var 6))], .frz 4, .ret (.var 4)]
abbrev n_walks_of : List Str := ["table", "word", "rows"]
def b_walks_of : List S := [.frz 0, .frz 1, .asg (.name 2) (.call 9 [(.var 0), (.var 1)]), .ret (.ite (.cmp .Eq (.bi .len [(.var 2)]) (.bi .len [(.var 1)])) (.bi .tuple [(.idx (.var 2) (.neg (.con (.int (1)))))]) (.tup []))]
abbrev n_first_walk : List Str := ["table", "word", "rows"]
def b_first_walk : List S := [.frz 0, .frz 1, .asg (.name 2) (.call 10 [(.var 0), (.var 1)]), .ret (.ite (.var 2) (.idx (.var 2) (.con (.int (0)))) (.con (.none)))]
abbrev n_walked : List Str := ["table", "words", "found", "text", "word"]
def b_walked : List S := [.frz 0, .frz 1, .own 2 (.dc (.name 3) [3] (.call 14 [(.var 0), (.var 1)]) [] (.var 3) (.con (.bool true))), .frz 1, .ret (.bi .tuple [(.lc (.name 4) [4] (.var 1) [(.cmp .In (.var 4) (.var 2))] (.var 4))])]
abbrev n_beginnings : List Str := ["words", "found", "word", "k"]
def b_beginnings : List S := [.own 1 (.dic [(.con (.str ("" : Str))), (.con (.bool true))]), .frz 0, .for_ (.name 2) (.var 0) [.upd 1 (.dc (.name 3) [3] (.bi .range [(.con (.int (1))), (.bin .Add (.bi .len [(.var 2)]) (.con (.int (1))))]) [] (.slc (.var 2) none (some (.var 3))) (.con (.bool true)))], .ret (.bi .tuple [(.bi .sorted [(.var 1)])])]
abbrev n_walked_beginnings : List Str := ["table", "words", "known", "text", "walks", "walk", "square", "found"]
def b_walked_beginnings : List S := [.frz 1, .own 2 (.dc (.name 3) [3] (.call 13 [(.var 1)]) [] (.var 3) (.con (.bool true))), .frz 0, .own 4 (.lc (.name 5) [5] (.lc (.name 6) [6] (.call 1 [(.var 0)]) [] (.tup [(.var 6)])) [(.cmp .In (.call 3 [(.var 0), (.var 5)]) (.var 2))] (.var 5)), .own 7 (.dic []), .whl (.var 4) [.frz 4, .frz 0, .upd 7 (.dc (.name 5) [5] (.var 4) [] (.call 3 [(.var 0), (.var 5)]) (.con (.bool true))), .frz 0, .frz 4, .own 4 (.lc (.name 5) [5] (.call 4 [(.var 0), (.var 4)]) [(.cmp .In (.call 3 [(.var 0), (.var 5)]) (.var 2))] (.var 5))], .ret (.bi .tuple [(.bi .sorted [(.var 7)])])]
abbrev n__law_flat : List Str := ["rows", "found", "row"]
def b__law_flat : List S := [.own 1 (.lst []), .frz 0, .for_ (.name 2) (.var 0) [.frz 2, .ext 1 (.var 2)], .frz 1, .ret (.var 1)]
abbrev n__law_same : List Str := ["a", "b", "k"]
def b__law_same : List S := [.ite (.or (.and (.isa (.var 0) "tuple") (.isa (.var 1) "tuple")) (.and (.isa (.var 0) "list") (.isa (.var 1) "list"))) [.ret (.and (.cmp .Eq (.bi .len [(.var 0)]) (.bi .len [(.var 1)])) (.bi .all [(.lc (.name 2) [2] (.bi .range [(.bi .len [(.var 0)])]) [] (.call 17 [(.idx (.var 0) (.var 2)), (.idx (.var 1) (.var 2))]))]))] [], .ite (.or (.isa (.var 0) "bool") (.isa (.var 1) "bool")) [.ret (.and (.isa (.var 0) "bool") (.and (.isa (.var 1) "bool") (.cmp .Eq (.var 0) (.var 1))))] [], .ite (.or (.and (.isa (.var 0) "int") (.isa (.var 1) "int")) (.and (.isa (.var 0) "str") (.isa (.var 1) "str"))) [.ret (.cmp .Eq (.var 0) (.var 1))] [], .ret (.and (.cmp .Is (.var 0) (.con (.none))) (.cmp .Is (.var 1) (.con (.none))))]
abbrev n__law_table : List Str := ["box", "most", "letters", "rows", "columns", "j", "i"]
def b__law_table : List S := [.frz 0, .frz 1, .asg (.tup [.name 3, .name 4]) (.tup [(.bin .Add (.con (.int (1))) (.call 16 [(.var 0), (.var 1)])), (.bin .Add (.con (.int (1))) (.call 16 [(.var 0), (.var 1)]))]), .frz 0, .ret (.bi .tuple [(.lc (.name 6) [6] (.bi .range [(.var 3)]) [] (.me .join (.con (.str ("" : Str))) [(.lc (.name 5) [5] (.bi .range [(.var 4)]) [] (.idx (.var 2) (.call 16 [(.var 0), (.bi .len [(.var 2)])])))]))])]
abbrev n__law_near : List Str := ["one", "other"]
def b__law_near : List S := [.ret (.and (.cmp .NotEq (.var 0) (.var 1)) (.cmp .Lt (.bi .max [(.bi .abs [(.bin .Sub (.idx (.var 0) (.con (.int (0)))) (.idx (.var 1) (.con (.int (0)))))]), (.bi .abs [(.bin .Sub (.idx (.var 0) (.con (.int (1)))) (.idx (.var 1) (.con (.int (1)))))])]) (.con (.int (2)))))]
abbrev n__law_count : List Str := ["table", "length", "squares", "j", "i", "rows", "square", "step", "row"]
def b__law_count : List S := [.asg (.name 2) (.call 15 [(.lc (.name 4) [4] (.bi .range [(.bi .len [(.var 0)])]) [] (.lc (.name 3) [3] (.bi .range [(.bi .len [(.idx (.var 0) (.con (.int (0))))])]) [] (.tup [(.var 4), (.var 3)])))]), .frz 2, .own 5 (.lc (.name 6) [6] (.var 2) [] (.tup [(.var 6)])), .frz 1, .for_ (.name 7) (.bi .range [(.bin .Sub (.var 1) (.con (.int (1))))]) [.frz 5, .frz 2, .asg (.name 5) (.call 15 [(.lc (.name 8) [8] (.var 5) [] (.lc (.name 6) [6] (.var 2) [(.and (.cmp .NotIn (.var 6) (.var 8)) (.call 19 [(.idx (.var 8) (.neg (.con (.int (1))))), (.var 6)]))] (.bin .Add (.var 8) (.tup [(.var 6)]))))])], .frz 5, .ret (.var 5)]
abbrev n_law : List Str := ["script", "box", "turn", "table", "length", "rows", "turned", "i", "j", "plain", "row", "same_one", "size", "texts", "told", "text", "n", "k", "many", "square"]
def tab : List Fd := [.fn ⟨2, 2, b_are_neighbours⟩, .fn ⟨1, 3, b_table_squares⟩, .fn ⟨2, 3, b_neighbours⟩, .fn ⟨2, 4, b_text_of⟩, .fn ⟨2, 5, b_longer_walks⟩, .fn ⟨2, 5, b_walks_of_length⟩, .fn ⟨2, 2, b_count_length⟩, .fn ⟨2, 3, b_texts_of_length⟩, .fn ⟨2, 4, b_short_letters⟩, .fn ⟨2, 7, b_prefix_walks⟩, .fn ⟨2, 3, b_walks_of⟩, .fn ⟨2, 3, b_first_walk⟩, .fn ⟨2, 5, b_walked⟩, .fn ⟨1, 4, b_beginnings⟩, .fn ⟨2, 8, b_walked_beginnings⟩, .fn ⟨1, 3, b__law_flat⟩, .prim Tdraw, .fn ⟨2, 3, b__law_same⟩, .fn ⟨3, 7, b__law_table⟩, .fn ⟨2, 2, b__law_near⟩, .fn ⟨2, 9, b__law_count⟩]
theorem sc_are_neighbours : FnScope n_are_neighbours ["one", "other"] (defScope s_are_neighbours) := ⟨rfl, rfl, rfl, by decide +kernel, rfl, by decide +kernel, by decide +kernel⟩
theorem sc_table_squares : FnScope n_table_squares ["table"] (defScope s_table_squares) := ⟨rfl, rfl, rfl, by decide +kernel, rfl, by decide +kernel, by decide +kernel⟩
theorem sc_neighbours : FnScope n_neighbours ["table", "square"] (defScope s_neighbours) := ⟨rfl, rfl, rfl, by decide +kernel, rfl, by decide +kernel, by decide +kernel⟩
theorem sc_text_of : FnScope n_text_of ["table", "walk"] (defScope s_text_of) := ⟨rfl, rfl, rfl, by decide +kernel, rfl, by decide +kernel, by decide +kernel⟩
theorem sc_longer_walks : FnScope n_longer_walks ["table", "walks"] (defScope s_longer_walks) := ⟨rfl, rfl, rfl, by decide +kernel, rfl, by decide +kernel, by decide +kernel⟩
theorem sc_walks_of_length : FnScope n_walks_of_length ["table", "length"] (defScope s_walks_of_length) := ⟨rfl, rfl, rfl, by decide +kernel, rfl, by decide +kernel, by decide +kernel⟩
theorem sc_count_length : FnScope n_count_length ["table", "length"] (defScope s_count_length) := ⟨rfl, rfl, rfl, by decide +kernel, rfl, by decide +kernel, by decide +kernel⟩
theorem sc_texts_of_length : FnScope n_texts_of_length ["table", "length"] (defScope s_texts_of_length) := ⟨rfl, rfl, rfl, by decide +kernel, rfl, by decide +kernel, by decide +kernel⟩
theorem sc_short_letters : FnScope n_short_letters ["table", "word"] (defScope s_short_letters) := ⟨rfl, rfl, rfl, by decide +kernel, rfl, by decide +kernel, by decide +kernel⟩
theorem sc_prefix_walks : FnScope n_prefix_walks ["table", "word"] (defScope s_prefix_walks) := ⟨rfl, rfl, rfl, by decide +kernel, rfl, by decide +kernel, by decide +kernel⟩
theorem sc_walks_of : FnScope n_walks_of ["table", "word"] (defScope s_walks_of) := ⟨rfl, rfl, rfl, by decide +kernel, rfl, by decide +kernel, by decide +kernel⟩
theorem sc_first_walk : FnScope n_first_walk ["table", "word"] (defScope s_first_walk) := ⟨rfl, rfl, rfl, by decide +kernel, rfl, by decide +kernel, by decide +kernel⟩
theorem sc_walked : FnScope n_walked ["table", "words"] (defScope s_walked) := ⟨rfl, rfl, rfl, by decide +kernel, rfl, by decide +kernel, by decide +kernel⟩
theorem sc_beginnings : FnScope n_beginnings ["words"] (defScope s_beginnings) := ⟨rfl, rfl, rfl, by decide +kernel, rfl, by decide +kernel, by decide +kernel⟩
theorem sc_walked_beginnings : FnScope n_walked_beginnings ["table", "words"] (defScope s_walked_beginnings) := ⟨rfl, rfl, rfl, by decide +kernel, rfl, by decide +kernel, by decide +kernel⟩
theorem sc__law_flat : FnScope n__law_flat ["rows"] (defScope s__law_flat) := ⟨rfl, rfl, rfl, by decide +kernel, rfl, by decide +kernel, by decide +kernel⟩
theorem sc__law_box : FnScope ["script"] ["script"] (defScope s__law_box) := ⟨rfl, rfl, rfl, by decide +kernel, rfl, by decide +kernel, by decide +kernel⟩
theorem sc__law_load : FnScope nLoad ["box"] (defScope s__law_load) := ⟨rfl, rfl, rfl, by decide +kernel, rfl, by decide +kernel, by decide +kernel⟩
theorem sc__law_draw : FnScope nDraw ["box", "many"] (defScope s__law_draw) := ⟨rfl, rfl, rfl, by decide +kernel, rfl, by decide +kernel, by decide +kernel⟩
theorem sc__law_same : FnScope n__law_same ["a", "b"] (defScope s__law_same) := ⟨rfl, rfl, rfl, by decide +kernel, rfl, by decide +kernel, by decide +kernel⟩
theorem sc__law_table : FnScope n__law_table ["box", "most", "letters"] (defScope s__law_table) := ⟨rfl, rfl, rfl, by decide +kernel, rfl, by decide +kernel, by decide +kernel⟩
theorem sc__law_near : FnScope n__law_near ["one", "other"] (defScope s__law_near) := ⟨rfl, rfl, rfl, by decide +kernel, rfl, by decide +kernel, by decide +kernel⟩
theorem sc__law_count : FnScope n__law_count ["table", "length"] (defScope s__law_count) := ⟨rfl, rfl, rfl, by decide +kernel, rfl, by decide +kernel, by decide +kernel⟩
theorem sc_law : FnScope n_law ["script"] (defScope s_law) := ⟨rfl, rfl, rfl, by decide +kernel, rfl, by decide +kernel, by decide +kernel⟩
def dd (x : Str) (s : Stmt) : He.DefD := ⟨(x, none), x, x, defArgs s, defBody s, defScope s, [], []⟩
def fn : List He.DefD := [dd "are_neighbours" s_are_neighbours, dd "table_squares" s_table_squares, dd "neighbours" s_neighbours, dd "text_of" s_text_of, dd "longer_walks" s_longer_walks, dd "walks_of_length" s_walks_of_length, dd "count_length" s_count_length, dd "texts_of_length" s_texts_of_length, dd "short_letters" s_short_letters, dd "prefix_walks" s_prefix_walks, dd "walks_of" s_walks_of, dd "first_walk" s_first_walk, dd "walked" s_walked, dd "beginnings" s_beginnings, dd "walked_beginnings" s_walked_beginnings, dd "_law_flat" s__law_flat, dd "_law_box" s__law_box, dd "_law_load" s__law_load, dd "_law_draw" s__law_draw, dd "_law_same" s__law_same, dd "_law_table" s__law_table, dd "_law_near" s__law_near, dd "_law_count" s__law_count, dd "law" s_law]
def fa : List He.Fa := [.glo "are_neighbours", .glo "table_squares", .glo "neighbours", .glo "text_of", .glo "longer_walks", .glo "walks_of_length", .glo "count_length", .glo "texts_of_length", .glo "short_letters", .glo "prefix_walks", .glo "walks_of", .glo "first_walk", .glo "walked", .glo "beginnings", .glo "walked_beginnings", .glo "_law_flat", .glo "_law_box", .glo "_law_load", .glo "_law_draw", .glo "_law_same", .glo "_law_table", .glo "_law_near", .glo "_law_count", .glo "law", .free "len", .free "tuple", .free "list", .free "sorted", .free "abs", .free "max", .free "min", .free "all", .free "int", .free "str", .free "dict", .free "range", .free "isinstance", .free "bool", .int "MAX_LONG_WALK" 6, .int "MAX_LONG_TEXT" 4]
abbrev R : PySem.W.OpenRow := PySem.W.OpenLaw.row PySem.Challenge.rw_lettergrids_k48_whole_walks_of_a_length
abbrev hk : PySem.W.Hook := He.hookD 4 fa fn
def ob (s : PySem.W.SharedT) : He.AlD := He.obsDG 4 fa fn (HandSHeadRun.getT s)
theorem ob_eq (s : PySem.W.SharedT) : ob s = hk.obs s.abs := He.obsDG_eq (HandSHeadRun.getT_eq s)
def loose : List PySem.Str := ["are_neighbours", "table_squares", "neighbours", "text_of", "longer_walks", "walks_of_length", "count_length", "texts_of_length", "short_letters", "prefix_walks", "walks_of", "first_walk", "walked", "beginnings", "walked_beginnings", "_law_flat", "_law_box", "_law_load", "_law_draw", "_law_same", "_law_table", "_law_near", "_law_count", "MAX_LONG_WALK", "MAX_LONG_TEXT"]
theorem run (w : World) : HandSHeadRun.RunEq R (PySem.W.view R.prog [28]) hk ob 6000 loose w := by
  intro os
  kernel_rfl
def lawS : List S := [.ite (.cmp .NotEq (.tup [(.con (.int (6))), (.con (.int (4)))]) (.tup [(.con (.int (6))), (.con (.int (4)))])) [.ret (.con (.bool false))] [], .for_ (.name 2) (.bi .range [(.con (.int (3)))]) [.frz 1, .asg (.name 3) (.call 18 [(.var 1), (.con (.int (3))), (.idx (.lst [(.con (.str ("ab" : Str))), (.con (.str ("abc" : Str))), (.con (.str ("abcdefgh" : Str)))]) (.call 16 [(.var 1), (.con (.int (3)))]))]), .frz 1, .asg (.name 4) (.bin .Add (.con (.int (1))) (.call 16 [(.var 1), (.ite (.cmp .Lt (.bin .Mult (.bi .len [(.var 3)]) (.bi .len [(.idx (.var 3) (.con (.int (0))))])) (.con (.int (7)))) (.idx (.lst [(.con (.int (5))), (.con (.int (6)))]) (.call 16 [(.var 1), (.con (.int (2)))])) (.con (.int (4))))])), .frz 3, .frz 4, .asg (.name 5) (.call 20 [(.var 3), (.var 4)]), .frz 3, .frz 4, .ite (.not (.call 17 [(.call 6 [(.var 3), (.var 4)]), (.bi .len [(.var 5)])])) [.ret (.con (.bool false))] [], .asg (.name 6) (.bi .tuple [(.lc (.name 8) [8] (.bi .range [(.bi .len [(.idx (.var 3) (.con (.int (0))))])]) [] (.me .join (.con (.str ("" : Str))) [(.lc (.name 7) [7] (.bi .range [(.bi .len [(.var 3)])]) [] (.idx (.idx (.var 3) (.bin .Sub (.bin .Sub (.bi .len [(.var 3)]) (.con (.int (1)))) (.var 7))) (.var 8)))]))]), .frz 3, .asg (.name 9) (.bi .tuple [(.lc (.name 10) [10] (.var 3) [] (.bin .Mult (.con (.str ("a" : Str))) (.bi .len [(.var 10)])))]), .frz 6, .frz 3, .frz 9, .for_ (.name 11) (.tup [(.var 6), (.rev (.var 3)), (.bi .tuple [(.lc (.name 10) [10] (.var 3) [] (.rev (.var 10)))]), (.var 9)]) [.frz 11, .frz 4, .ite (.cmp .NotEq (.call 6 [(.var 11), (.var 4)]) (.bi .len [(.var 5)])) [.ret (.con (.bool false))] []], .asg (.name 12) (.bi .min [(.var 4), (.con (.int (4)))]), .frz 3, .frz 12, .asg (.name 13) (.bi .tuple [(.bi .sorted [(.bi .dict [(.lc (.name 10) [10] (.call 20 [(.var 3), (.var 12)]) [] (.tup [(.me .join (.con (.str ("" : Str))) [(.lc (.tup [.name 7, .name 8]) [7, 8] (.var 10) [] (.idx (.idx (.var 3) (.var 7)) (.var 8)))]), (.con (.int (1)))]))])])]), .frz 3, .frz 12, .asg (.name 14) (.call 7 [(.var 3), (.var 12)]), .frz 14, .frz 13, .frz 9, .frz 12, .ite (.or (.not (.call 17 [(.var 14), (.var 13)])) (.not (.call 17 [(.call 7 [(.var 9), (.var 12)]), (.ite (.cmp .Gt (.bi .len [(.var 13)]) (.con (.int (0)))) (.tup [(.bin .Mult (.con (.str ("a" : Str))) (.var 12))]) (.tup []))]))) [.ret (.con (.bool false))] [], .for_ (.name 15) (.slc (.var 14) none (some (.con (.int (40))))) [.frz 3, .frz 15, .ite (.or (.cmp .NotEq (.call 8 [(.var 3), (.var 15)]) (.con (.str ("" : Str)))) (.or (.cmp .Is (.call 11 [(.var 3), (.var 15)]) (.con (.none))) (.cmp .NotIn (.rev (.var 15)) (.var 14)))) [.ret (.con (.bool false))] []], .frz 14, .frz 3, .frz 12, .ite (.and (.cmp .Gt (.var 12) (.con (.int (1)))) (.not (.bi .all [(.lc (.name 15) [15] (.var 14) [] (.cmp .In (.slc (.var 15) none (some (.neg (.con (.int (1)))))) (.call 7 [(.var 3), (.bin .Sub (.var 12) (.con (.int (1))))])))]))) [.ret (.con (.bool false))] [], .frz 3, .ite (.not (.call 17 [(.call 12 [(.var 3), (.slc (.var 14) none (some (.con (.int (20)))))]), (.slc (.var 14) none (some (.con (.int (20)))))])) [.ret (.con (.bool false))] [], .frz 1, .asg (.name 16) (.bin .Add (.con (.int (1))) (.call 16 [(.var 1), (.con (.int (6)))])), .frz 1, .asg (.name 10) (.tup [(.me .join (.con (.str ("" : Str))) [(.lc (.name 17) [17] (.bi .range [(.var 16)]) [] (.idx (.con (.str ("abc" : Str))) (.call 16 [(.var 1), (.con (.int (3)))])))])]), .frz 16, .for_ (.name 18) (.bi .range [(.con (.int (1))), (.bin .Add (.var 16) (.con (.int (2))))]) [.frz 10, .frz 18, .frz 16, .ite (.and (.cmp .LtE (.var 18) (.con (.int (6)))) (.cmp .NotEq (.call 6 [(.var 10), (.var 18)]) (.ite (.cmp .Eq (.var 18) (.con (.int (1)))) (.var 16) (.bin .Mult (.con (.int (2))) (.bi .max [(.con (.int (0))), (.bin .Add (.bin .Sub (.var 16) (.var 18)) (.con (.int (1))))]))))) [.ret (.con (.bool false))] []]], .asg (.name 19) (.tup [(.con (.str ("ab" : Str))), (.con (.str ("cd" : Str)))]), .frz 19, .ret (.and (.cmp .Eq (.lc (.name 17) [17] (.bi .range [(.con (.int (1))), (.con (.int (6)))]) [] (.call 6 [(.var 19), (.var 17)])) (.lst [(.con (.int (4))), (.con (.int (12))), (.con (.int (24))), (.con (.int (24))), (.con (.int (0)))])) (.cmp .Eq (.bi .len [(.call 7 [(.var 19), (.con (.int (4)))])]) (.con (.int (24)))))]
def AllL {α : Type} (Q : Str → α → Prop) : List (Str × α) → Prop
  | [] => True
  | (y, j) :: r => Q y j ∧ AllL Q r
theorem allL_look {α : Type} {Q : Str → α → Prop} {x : Str} {d : α} : ∀ {l : List (Str × α)}, AllL Q l → l.lookup x = some d → Q x d
  | [], _, h => by cases h
  | (y, j) :: r, a, h => by
    rw [List.lookup_cons] at h
    cases hb : x == y with
    | true =>
      rw [hb] at h
      cases h
      have e : x = y := eq_of_beq hb
      rw [e]; exact a.1
    | false =>
      rw [hb] at h
      exact allL_look a.2 h
def AllM (Q : Str → Prop) : List Str → Prop
  | [] => True
  | y :: r => Q y ∧ AllM Q r
theorem allM_look {Q : Str → Prop} {x : Str} : ∀ {l : List Str}, AllM Q l → l.contains x = true → Q x
  | [], _, h => by cases h
  | y :: r, a, h => by
    rw [List.contains_cons, Bool.or_eq_true] at h
    rcases h with h | h
    · have e : x = y := eq_of_beq h
      rw [e]; exact a.1
    · exact allM_look a.2 h
theorem trSs_some (C : Ctx) : ∀ b : List Stmt, trSs C b = some ((trSs C b).getD [])
  | [] => rfl
  | s :: r => by
    have ih := trSs_some C r
    show (trSs C r >>= fun y => some ((trS C s).getD [.bad] ++ y)) = some ((trSs C r >>= fun y => some ((trS C s).getD [.bad] ++ y)).getD [])
    rw [ih]
    rfl

theorem tr_are_neighbours : trSs (ctxOf fns cons bis n_are_neighbours (defScope s_are_neighbours)) (defBody s_are_neighbours) = some b_are_neighbours := by kernel_rfl
theorem tr_table_squares : trSs (ctxOf fns cons bis n_table_squares (defScope s_table_squares)) (defBody s_table_squares) = some b_table_squares := by kernel_rfl
theorem tr_neighbours : trSs (ctxOf fns cons bis n_neighbours (defScope s_neighbours)) (defBody s_neighbours) = some b_neighbours := by kernel_rfl
theorem tr_text_of : trSs (ctxOf fns cons bis n_text_of (defScope s_text_of)) (defBody s_text_of) = some b_text_of := by kernel_rfl
theorem tr_longer_walks : trSs (ctxOf fns cons bis n_longer_walks (defScope s_longer_walks)) (defBody s_longer_walks) = some b_longer_walks := by kernel_rfl
theorem tr_walks_of_length : trSs (ctxOf fns cons bis n_walks_of_length (defScope s_walks_of_length)) (defBody s_walks_of_length) = some b_walks_of_length := by kernel_rfl
theorem tr_count_length : trSs (ctxOf fns cons bis n_count_length (defScope s_count_length)) (defBody s_count_length) = some b_count_length := by kernel_rfl
theorem tr_texts_of_length : trSs (ctxOf fns cons bis n_texts_of_length (defScope s_texts_of_length)) (defBody s_texts_of_length) = some b_texts_of_length := by kernel_rfl
theorem tr_short_letters : trSs (ctxOf fns cons bis n_short_letters (defScope s_short_letters)) (defBody s_short_letters) = some b_short_letters := by kernel_rfl
theorem tr_prefix_walks : trSs (ctxOf fns cons bis n_prefix_walks (defScope s_prefix_walks)) (defBody s_prefix_walks) = some b_prefix_walks := by kernel_rfl
theorem tr_walks_of : trSs (ctxOf fns cons bis n_walks_of (defScope s_walks_of)) (defBody s_walks_of) = some b_walks_of := by kernel_rfl
theorem tr_first_walk : trSs (ctxOf fns cons bis n_first_walk (defScope s_first_walk)) (defBody s_first_walk) = some b_first_walk := by kernel_rfl
theorem tr_walked : trSs (ctxOf fns cons bis n_walked (defScope s_walked)) (defBody s_walked) = some b_walked := by kernel_rfl
theorem tr_beginnings : trSs (ctxOf fns cons bis n_beginnings (defScope s_beginnings)) (defBody s_beginnings) = some b_beginnings := by kernel_rfl
theorem tr_walked_beginnings : trSs (ctxOf fns cons bis n_walked_beginnings (defScope s_walked_beginnings)) (defBody s_walked_beginnings) = some b_walked_beginnings := by kernel_rfl
theorem tr__law_flat : trSs (ctxOf fns cons bis n__law_flat (defScope s__law_flat)) (defBody s__law_flat) = some b__law_flat := by kernel_rfl
theorem tr__law_same : trSs (ctxOf fns cons bis n__law_same (defScope s__law_same)) (defBody s__law_same) = some b__law_same := by kernel_rfl
theorem tr__law_table : trSs (ctxOf fns cons bis n__law_table (defScope s__law_table)) (defBody s__law_table) = some b__law_table := by kernel_rfl
theorem tr__law_near : trSs (ctxOf fns cons bis n__law_near (defScope s__law_near)) (defBody s__law_near) = some b__law_near := by kernel_rfl
theorem tr__law_count : trSs (ctxOf fns cons bis n__law_count (defScope s__law_count)) (defBody s__law_count) = some b__law_count := by kernel_rfl
theorem tr_law : trSs (ctxOf fns cons bis n_law (defScope s_law)) (defBody s_law).tail = some lawS := by kernel_rfl
def LawTrue : Prop := (exs (callN tab 200) lawS (lawEnv 20 1)).All fun o => o = .ret (.bool true)
theorem facts (hall : LawTrue) {P : Program} {w : World} {K : PySem.W.Frag} {h : Heap} {mg : Str → Option Value} {f : Addr} (X : K.In h) (G : h.Ns mainGlobals mg) (hfa : mg ("law" : Str) = some (.ref f)) (c : He.SaysD fa fn K) :
    ∃ fd : FuncData, (∀ (s : Shared) (v : Value), BindsTo s fd ⟨[v], []⟩ [("script", v)]) ∧ ∀ base : Heap, K.In base → base.Ns mainGlobals mg → FnOk P w K mg base CX0 201 f fd ["script"] (spLaw K) := by
  obtain ⟨fd0, F0⟩ := c.def_ 0 (d := dd "are_neighbours" s_are_neighbours) rfl
  have g0 : mg ("are_neighbours" : Str) = _ := He.glo_ok X G (c.fact 0 (f := .glo "are_neighbours") rfl)
  obtain ⟨fd1, F1⟩ := c.def_ 1 (d := dd "table_squares" s_table_squares) rfl
  have g1 : mg ("table_squares" : Str) = _ := He.glo_ok X G (c.fact 1 (f := .glo "table_squares") rfl)
  obtain ⟨fd2, F2⟩ := c.def_ 2 (d := dd "neighbours" s_neighbours) rfl
  have g2 : mg ("neighbours" : Str) = _ := He.glo_ok X G (c.fact 2 (f := .glo "neighbours") rfl)
  obtain ⟨fd3, F3⟩ := c.def_ 3 (d := dd "text_of" s_text_of) rfl
  have g3 : mg ("text_of" : Str) = _ := He.glo_ok X G (c.fact 3 (f := .glo "text_of") rfl)
  obtain ⟨fd4, F4⟩ := c.def_ 4 (d := dd "longer_walks" s_longer_walks) rfl
  have g4 : mg ("longer_walks" : Str) = _ := He.glo_ok X G (c.fact 4 (f := .glo "longer_walks") rfl)
  obtain ⟨fd5, F5⟩ := c.def_ 5 (d := dd "walks_of_length" s_walks_of_length) rfl
  have g5 : mg ("walks_of_length" : Str) = _ := He.glo_ok X G (c.fact 5 (f := .glo "walks_of_length") rfl)
  obtain ⟨fd6, F6⟩ := c.def_ 6 (d := dd "count_length" s_count_length) rfl
  have g6 : mg ("count_length" : Str) = _ := He.glo_ok X G (c.fact 6 (f := .glo "count_length") rfl)
  obtain ⟨fd7, F7⟩ := c.def_ 7 (d := dd "texts_of_length" s_texts_of_length) rfl
  have g7 : mg ("texts_of_length" : Str) = _ := He.glo_ok X G (c.fact 7 (f := .glo "texts_of_length") rfl)
  obtain ⟨fd8, F8⟩ := c.def_ 8 (d := dd "short_letters" s_short_letters) rfl
  have g8 : mg ("short_letters" : Str) = _ := He.glo_ok X G (c.fact 8 (f := .glo "short_letters") rfl)
  obtain ⟨fd9, F9⟩ := c.def_ 9 (d := dd "prefix_walks" s_prefix_walks) rfl
  have g9 : mg ("prefix_walks" : Str) = _ := He.glo_ok X G (c.fact 9 (f := .glo "prefix_walks") rfl)
  obtain ⟨fd10, F10⟩ := c.def_ 10 (d := dd "walks_of" s_walks_of) rfl
  have g10 : mg ("walks_of" : Str) = _ := He.glo_ok X G (c.fact 10 (f := .glo "walks_of") rfl)
  obtain ⟨fd11, F11⟩ := c.def_ 11 (d := dd "first_walk" s_first_walk) rfl
  have g11 : mg ("first_walk" : Str) = _ := He.glo_ok X G (c.fact 11 (f := .glo "first_walk") rfl)
  obtain ⟨fd12, F12⟩ := c.def_ 12 (d := dd "walked" s_walked) rfl
  have g12 : mg ("walked" : Str) = _ := He.glo_ok X G (c.fact 12 (f := .glo "walked") rfl)
  obtain ⟨fd13, F13⟩ := c.def_ 13 (d := dd "beginnings" s_beginnings) rfl
  have g13 : mg ("beginnings" : Str) = _ := He.glo_ok X G (c.fact 13 (f := .glo "beginnings") rfl)
  obtain ⟨fd14, F14⟩ := c.def_ 14 (d := dd "walked_beginnings" s_walked_beginnings) rfl
  have g14 : mg ("walked_beginnings" : Str) = _ := He.glo_ok X G (c.fact 14 (f := .glo "walked_beginnings") rfl)
  obtain ⟨fd15, F15⟩ := c.def_ 15 (d := dd "_law_flat" s__law_flat) rfl
  have g15 : mg ("_law_flat" : Str) = _ := He.glo_ok X G (c.fact 15 (f := .glo "_law_flat") rfl)
  obtain ⟨fd16, F16⟩ := c.def_ 16 (d := dd "_law_box" s__law_box) rfl
  have g16 : mg ("_law_box" : Str) = _ := He.glo_ok X G (c.fact 16 (f := .glo "_law_box") rfl)
  obtain ⟨fd17, F17⟩ := c.def_ 17 (d := dd "_law_load" s__law_load) rfl
  have g17 : mg ("_law_load" : Str) = _ := He.glo_ok X G (c.fact 17 (f := .glo "_law_load") rfl)
  obtain ⟨fd18, F18⟩ := c.def_ 18 (d := dd "_law_draw" s__law_draw) rfl
  have g18 : mg ("_law_draw" : Str) = _ := He.glo_ok X G (c.fact 18 (f := .glo "_law_draw") rfl)
  obtain ⟨fd19, F19⟩ := c.def_ 19 (d := dd "_law_same" s__law_same) rfl
  have g19 : mg ("_law_same" : Str) = _ := He.glo_ok X G (c.fact 19 (f := .glo "_law_same") rfl)
  obtain ⟨fd20, F20⟩ := c.def_ 20 (d := dd "_law_table" s__law_table) rfl
  have g20 : mg ("_law_table" : Str) = _ := He.glo_ok X G (c.fact 20 (f := .glo "_law_table") rfl)
  obtain ⟨fd21, F21⟩ := c.def_ 21 (d := dd "_law_near" s__law_near) rfl
  have g21 : mg ("_law_near" : Str) = _ := He.glo_ok X G (c.fact 21 (f := .glo "_law_near") rfl)
  obtain ⟨fd22, F22⟩ := c.def_ 22 (d := dd "_law_count" s__law_count) rfl
  have g22 : mg ("_law_count" : Str) = _ := He.glo_ok X G (c.fact 22 (f := .glo "_law_count") rfl)
  obtain ⟨fd23, F23⟩ := c.def_ 23 (d := dd "law" s_law) rfl
  have g23 : mg ("law" : Str) = _ := He.glo_ok X G (c.fact 23 (f := .glo "law") rfl)
  have m_len : mg ("len" : Str) = none := He.free_ok X G (c.fact 24 (f := .free "len") rfl)
  have m_tuple : mg ("tuple" : Str) = none := He.free_ok X G (c.fact 25 (f := .free "tuple") rfl)
  have m_list : mg ("list" : Str) = none := He.free_ok X G (c.fact 26 (f := .free "list") rfl)
  have m_sorted : mg ("sorted" : Str) = none := He.free_ok X G (c.fact 27 (f := .free "sorted") rfl)
  have m_abs : mg ("abs" : Str) = none := He.free_ok X G (c.fact 28 (f := .free "abs") rfl)
  have m_max : mg ("max" : Str) = none := He.free_ok X G (c.fact 29 (f := .free "max") rfl)
  have m_min : mg ("min" : Str) = none := He.free_ok X G (c.fact 30 (f := .free "min") rfl)
  have m_all : mg ("all" : Str) = none := He.free_ok X G (c.fact 31 (f := .free "all") rfl)
  have m_int : mg ("int" : Str) = none := He.free_ok X G (c.fact 32 (f := .free "int") rfl)
  have m_str : mg ("str" : Str) = none := He.free_ok X G (c.fact 33 (f := .free "str") rfl)
  have m_dict : mg ("dict" : Str) = none := He.free_ok X G (c.fact 34 (f := .free "dict") rfl)
  have m_range : mg ("range" : Str) = none := He.free_ok X G (c.fact 35 (f := .free "range") rfl)
  have m_isinstance : mg ("isinstance" : Str) = none := He.free_ok X G (c.fact 36 (f := .free "isinstance") rfl)
  have m_bool : mg ("bool" : Str) = none := He.free_ok X G (c.fact 37 (f := .free "bool") rfl)
  obtain ⟨t0, e0⟩ := He.int_ok X G (c.fact 38 (f := .int "MAX_LONG_WALK" 6) rfl)
  obtain ⟨t1, e1⟩ := He.int_ok X G (c.fact 39 (f := .int "MAX_LONG_TEXT" 4) rfl)
  have e := hfa.symm.trans g23
  cases e
  have bL := FunD.bindsA (ps := ["script"]) F23 fun _ _ _ _ _ _ us hl => match us, hl with | [_], _ => rfl
  have b0 : Binds K fd0 ["one", "other"] [] := FunD.bindsN F0 fun _ _ _ _ _ _ us hl => match us, hl with | [_, _], _ => rfl
  have b1 : Binds K fd1 ["table"] [] := FunD.bindsN F1 fun _ _ _ _ _ _ us hl => match us, hl with | [_], _ => rfl
  have b2 : Binds K fd2 ["table", "square"] [] := FunD.bindsN F2 fun _ _ _ _ _ _ us hl => match us, hl with | [_, _], _ => rfl
  have b3 : Binds K fd3 ["table", "walk"] [] := FunD.bindsN F3 fun _ _ _ _ _ _ us hl => match us, hl with | [_, _], _ => rfl
  have b4 : Binds K fd4 ["table", "walks"] [] := FunD.bindsN F4 fun _ _ _ _ _ _ us hl => match us, hl with | [_, _], _ => rfl
  have b5 : Binds K fd5 ["table", "length"] [] := FunD.bindsN F5 fun _ _ _ _ _ _ us hl => match us, hl with | [_, _], _ => rfl
  have b6 : Binds K fd6 ["table", "length"] [] := FunD.bindsN F6 fun _ _ _ _ _ _ us hl => match us, hl with | [_, _], _ => rfl
  have b7 : Binds K fd7 ["table", "length"] [] := FunD.bindsN F7 fun _ _ _ _ _ _ us hl => match us, hl with | [_, _], _ => rfl
  have b8 : Binds K fd8 ["table", "word"] [] := FunD.bindsN F8 fun _ _ _ _ _ _ us hl => match us, hl with | [_, _], _ => rfl
  have b9 : Binds K fd9 ["table", "word"] [] := FunD.bindsN F9 fun _ _ _ _ _ _ us hl => match us, hl with | [_, _], _ => rfl
  have b10 : Binds K fd10 ["table", "word"] [] := FunD.bindsN F10 fun _ _ _ _ _ _ us hl => match us, hl with | [_, _], _ => rfl
  have b11 : Binds K fd11 ["table", "word"] [] := FunD.bindsN F11 fun _ _ _ _ _ _ us hl => match us, hl with | [_, _], _ => rfl
  have b12 : Binds K fd12 ["table", "words"] [] := FunD.bindsN F12 fun _ _ _ _ _ _ us hl => match us, hl with | [_, _], _ => rfl
  have b13 : Binds K fd13 ["words"] [] := FunD.bindsN F13 fun _ _ _ _ _ _ us hl => match us, hl with | [_], _ => rfl
  have b14 : Binds K fd14 ["table", "words"] [] := FunD.bindsN F14 fun _ _ _ _ _ _ us hl => match us, hl with | [_, _], _ => rfl
  have b15 : Binds K fd15 ["rows"] [] := FunD.bindsN F15 fun _ _ _ _ _ _ us hl => match us, hl with | [_], _ => rfl
  have b16 : Binds K fd16 ["script"] [] := FunD.bindsN F16 fun _ _ _ _ _ _ us hl => match us, hl with | [_], _ => rfl
  have b17 : Binds K fd17 ["box"] [] := FunD.bindsN F17 fun _ _ _ _ _ _ us hl => match us, hl with | [_], _ => rfl
  have b18 : Binds K fd18 ["box", "many"] [] := FunD.bindsN F18 fun _ _ _ _ _ _ us hl => match us, hl with | [_, _], _ => rfl
  have b19 : Binds K fd19 ["a", "b"] [] := FunD.bindsN F19 fun _ _ _ _ _ _ us hl => match us, hl with | [_, _], _ => rfl
  have b20 : Binds K fd20 ["box", "most", "letters"] [] := FunD.bindsN F20 fun _ _ _ _ _ _ us hl => match us, hl with | [_, _, _], _ => rfl
  have b21 : Binds K fd21 ["one", "other"] [] := FunD.bindsN F21 fun _ _ _ _ _ _ us hl => match us, hl with | [_, _], _ => rfl
  have b22 : Binds K fd22 ["table", "length"] [] := FunD.bindsN F22 fun _ _ _ _ _ _ us hl => match us, hl with | [_, _], _ => rfl
  have b23 : Binds K fd23 ["script"] [] := FunD.bindsN F23 fun _ _ _ _ _ _ us hl => match us, hl with | [_], _ => rfl
  refine ⟨fd23, fun s v => bL s [v] rfl, fun base _ _ => ?_⟩
  have gl : Glob K mg cons bis := ⟨fun x d hx => allL_look (Q := fun x d => ∃ u v, mg x = some u ∧ RelV v u ∧ ∀ G, Rp K G v d) (l := cons) (by exact ⟨⟨_, .int _, e0, ⟨_, rfl⟩, fun _ => .int _⟩, ⟨_, .int _, e1, ⟨_, rfl⟩, fun _ => .int _⟩, trivial⟩) hx,
    fun x hx => allM_look (Q := fun x => mg x = none) (l := bis) (by exact ⟨m_len, m_tuple, m_list, m_sorted, m_abs, m_max, m_min, m_all, m_int, m_str, m_dict, m_range, m_isinstance, m_bool, trivial⟩) hx⟩
  have FL : FnOk P w K mg base CX0 1 _ fd17 ["box"] spLoad := ok_load F17 rfl sc__law_load (by decide +kernel) rfl rfl m_len m_int
  have FD : FnOk P w K mg base CX0 2 _ fd18 ["box", "many"] (spT K Tdraw) := ok_draw F18 sc__law_draw (by decide +kernel) rfl rfl m_int g17 F17.kp b17 FL
  have FB : FnOk P w K mg base CX0 1 _ fd16 ["script"] (spBox K) := ok_box F16 sc__law_box rfl rfl rfl m_len m_list
  have hd : AllL (fun y j => ∃ f fd ps, DefAt P w K mg base fns cons bis tab y j f fd ps) fns := by
    exact ⟨⟨_, fd0, _, g0, F0.kp, b0, .inl ⟨_, n_are_neighbours, _, _, _, _, rfl, F0, sc_are_neighbours, tr_are_neighbours, rfl, rfl⟩⟩,
      ⟨_, fd1, _, g1, F1.kp, b1, .inl ⟨_, n_table_squares, _, _, _, _, rfl, F1, sc_table_squares, tr_table_squares, rfl, rfl⟩⟩,
      ⟨_, fd2, _, g2, F2.kp, b2, .inl ⟨_, n_neighbours, _, _, _, _, rfl, F2, sc_neighbours, tr_neighbours, rfl, rfl⟩⟩,
      ⟨_, fd3, _, g3, F3.kp, b3, .inl ⟨_, n_text_of, _, _, _, _, rfl, F3, sc_text_of, tr_text_of, rfl, rfl⟩⟩,
      ⟨_, fd4, _, g4, F4.kp, b4, .inl ⟨_, n_longer_walks, _, _, _, _, rfl, F4, sc_longer_walks, tr_longer_walks, rfl, rfl⟩⟩,
      ⟨_, fd5, _, g5, F5.kp, b5, .inl ⟨_, n_walks_of_length, _, _, _, _, rfl, F5, sc_walks_of_length, tr_walks_of_length, rfl, rfl⟩⟩,
      ⟨_, fd6, _, g6, F6.kp, b6, .inl ⟨_, n_count_length, _, _, _, _, rfl, F6, sc_count_length, tr_count_length, rfl, rfl⟩⟩,
      ⟨_, fd7, _, g7, F7.kp, b7, .inl ⟨_, n_texts_of_length, _, _, _, _, rfl, F7, sc_texts_of_length, tr_texts_of_length, rfl, rfl⟩⟩,
      ⟨_, fd8, _, g8, F8.kp, b8, .inl ⟨_, n_short_letters, _, _, _, _, rfl, F8, sc_short_letters, tr_short_letters, rfl, rfl⟩⟩,
      ⟨_, fd9, _, g9, F9.kp, b9, .inl ⟨_, n_prefix_walks, _, _, _, _, rfl, F9, sc_prefix_walks, tr_prefix_walks, rfl, rfl⟩⟩,
      ⟨_, fd10, _, g10, F10.kp, b10, .inl ⟨_, n_walks_of, _, _, _, _, rfl, F10, sc_walks_of, tr_walks_of, rfl, rfl⟩⟩,
      ⟨_, fd11, _, g11, F11.kp, b11, .inl ⟨_, n_first_walk, _, _, _, _, rfl, F11, sc_first_walk, tr_first_walk, rfl, rfl⟩⟩,
      ⟨_, fd12, _, g12, F12.kp, b12, .inl ⟨_, n_walked, _, _, _, _, rfl, F12, sc_walked, tr_walked, rfl, rfl⟩⟩,
      ⟨_, fd13, _, g13, F13.kp, b13, .inl ⟨_, n_beginnings, _, _, _, _, rfl, F13, sc_beginnings, tr_beginnings, rfl, rfl⟩⟩,
      ⟨_, fd14, _, g14, F14.kp, b14, .inl ⟨_, n_walked_beginnings, _, _, _, _, rfl, F14, sc_walked_beginnings, tr_walked_beginnings, rfl, rfl⟩⟩,
      ⟨_, fd15, _, g15, F15.kp, b15, .inl ⟨_, n__law_flat, _, _, _, _, rfl, F15, sc__law_flat, tr__law_flat, rfl, rfl⟩⟩,
      ⟨_, fd18, _, g18, F18.kp, b18, .inr ⟨Tdraw, rfl, FD.mono (by decide)⟩⟩,
      ⟨_, fd19, _, g19, F19.kp, b19, .inl ⟨_, n__law_same, _, _, _, _, rfl, F19, sc__law_same, tr__law_same, rfl, rfl⟩⟩,
      ⟨_, fd20, _, g20, F20.kp, b20, .inl ⟨_, n__law_table, _, _, _, _, rfl, F20, sc__law_table, tr__law_table, rfl, rfl⟩⟩,
      ⟨_, fd21, _, g21, F21.kp, b21, .inl ⟨_, n__law_near, _, _, _, _, rfl, F21, sc__law_near, tr__law_near, rfl, rfl⟩⟩,
      ⟨_, fd22, _, g22, F22.kp, b22, .inl ⟨_, n__law_count, _, _, _, _, rfl, F22, sc__law_count, tr__law_count, rfl, rfl⟩⟩,
      trivial⟩
  exact ok_law (rest := (defBody s_law).tail) (N := n_law) (i := 1) F23 sc_law gl (fun y j h => all_defs gl (fun y j h => allL_look hd h) 200 y j h) rfl rfl (by first | exact .inl (by rfl) | exact .inr (by rfl)) (by first | exact .inl (by rfl) | exact .inr (.inl (by rfl))) rfl g16 F16.kp b16 FB tr_law (by decide) hall

end Pd
open PySem PySem.W PySem.Calls PyProof.Rows
theorem holds_of (hall : Pd.LawTrue) : PySem.Challenge.rw_lettergrids_k48_whole_walks_of_a_length.Holds := by
  w_on; o_law
  refine HandSHeadRun.head_any (r := OpenLaw.row PySem.Challenge.rw_lettergrids_k48_whole_walks_of_a_length) (q := view (OpenLaw.row PySem.Challenge.rw_lettergrids_k48_whole_walks_of_a_length).prog [28]) (H := Pd.hk) (ob := Pd.ob) (M := 6000) (loose := Pd.loose) (d := HandSHeadRun.topDef (OpenLaw.row PySem.Challenge.rw_lettergrids_k48_whole_walks_of_a_length).prog 28) (kwd := []) Pd.ob_eq
    (by kernel_rfl) (fun s => by kernel_rfl) Pd.run (by kernel_rfl) (by kernel_rfl) (by kernel_rfl) (by rfl) (by first | assumption | decide +kernel) (by decide +kernel) ⟨rfl, rfl, rfl, rfl, rfl, by decide +kernel⟩ ?hw ?hc
  case hw => w_witness2
  case hc =>
    refine L2.walk_ofE (l := PySem.Challenge.rw_lettergrids_k48_whole_walks_of_a_length) (n := 63) (k := 201) (x := "script") (CX := L2.CX0) rfl (by decide) (by kernel_rfl) ⟨rfl, by decide, by decide⟩ ?F (fun _ _ _ _ z => z)
    intro w mg fa h Y G hmg0
    obtain ⟨K, KX, c⟩ := Y
    have hmg : mg ("law" : PySem.Str) = some (.ref fa) := by
      have e : (HandSHeadRun.topDef (OpenLaw.row PySem.Challenge.rw_lettergrids_k48_whole_walks_of_a_length).prog 28).name = ("law" : PySem.Str) := by kernel_rfl
      rw [← e]
      exact hmg0
    obtain ⟨fd, hb, hF⟩ := Pd.facts hall (P := (PySem.Challenge.rw_lettergrids_k48_whole_walks_of_a_length).prog) (w := w) KX G hmg c
    exact ⟨K, fd, Pd.spLaw K, KX, hb, fun H a ns hl _ hS => ⟨a, ns, rfl, hS, hl, fun _ => rfl⟩, hF⟩

namespace Pd
open PySem L2
abbrev Sq := Nat × Nat
def sq (a : Sq) : D := .tuple [.int a.1, .int a.2]
def wk (w : List Sq) : D := .tuple (w.map sq)
theorem eqv_int (i j : Int) : PyData.eqv (.int i) (.int j) = decide (i = j) := by
  show (i == j) = _
  by_cases h : i = j <;> simp [h]
theorem eqv_sq (a b : Sq) : PyData.eqv (sq a) (sq b) = decide (a = b) := by
  obtain ⟨a1, a2⟩ := a
  obtain ⟨b1, b2⟩ := b
  show PyData.eqv (.tuple [.int a1, .int a2]) (.tuple [.int b1, .int b2]) = _
  simp only [PyData.eqv, PyData.eqvAll]
  have e : ∀ x y : Nat, ((x : Int) == (y : Int)) = decide (x = y) := fun x y => by
    by_cases h : x = y
    · subst h; simp
    · rw [decide_eq_false h]
      exact beq_eq_false_iff_ne.mpr fun z => h (Int.ofNat.inj z)
  rw [e, e, Bool.and_true]
  by_cases h1 : a1 = b1 <;> by_cases h2 : a2 = b2 <;> simp [h1, h2]
theorem canLay_sq (a : Sq) : (sq a).canLay0 = true := by
  simp [sq, PyData.canLay0, PyData.canLayAll0]
theorem depth_sq (a : Sq) : (sq a).depth = 1 := by
  simp [sq, PyData.depth, PyData.depthAll]
theorem shaped_sq (a : Sq) : SeqAt.shaped (sq a) = true := by
  unfold SeqAt.shaped
  rw [canLay_sq, depth_sq]
  rfl
def ab (i : Int) : Int := if i < 0 then -i else i
def nb (a b : Sq) : Bool := !decide (a = b) && (decide (ab ((a.1 : Int) - b.1) ≤ 1) && decide (ab ((a.2 : Int) - b.2) ≤ 1))
theorem dEq_sq (a b : Sq) : dEq (sq a) (sq b) = .ret (decide (a = b)) := by
  show (guard (SeqAt.shaped (sq a) && SeqAt.shaped (sq b)) >>= fun _ => Tree.ret (PyData.eqv (sq a) (sq b))) = _
  rw [shaped_sq, shaped_sq, eqv_sq]
  rfl
theorem sq_0 (a : Sq) : dIdx (sq a) (.int 0) = .ret (.int a.1) := id rfl
theorem sq_1 (a : Sq) : dIdx (sq a) (.int 1) = .ret (.int a.2) := id rfl
theorem c_ne (x y : D) : dCmp .NotEq x y = (dEq x y >>= fun k => .ret (!k)) := id rfl
theorem b_sub (i j : Int) : dBin .Sub (.int i) (.int j) = .ret (.int (i - j)) := id rfl
theorem bi_abs (i : Int) : dBi .abs [.int i] = .ret (.int (ab i)) := id rfl
theorem c_le (i j : Int) : dCmp .LtE (.int i) (.int j) = .ret (decide (i ≤ j)) := id rfl
theorem asB (b : Bool) : asBool (.bool b) = .ret b := id rfl
theorem m_nb (k : Nat) (a b : Sq) : callN tab (k + 1) 0 [.v (sq a), .v (sq b)] = .ret (.bool (nb a b)) := by
  show runF (callN tab k) ⟨2, 2, b_are_neighbours⟩ [.v (sq a), .v (sq b)] = _
  unfold runF b_are_neighbours nb
  rw [if_pos (show ([B.v (sq a), B.v (sq b)] : List B).length = 2 from rfl)]
  simp only [tr_b, as_b, decide_true, ite_true, ite_false, Bool.false_eq_true, rd, rdW, rdB, List.getElem?_cons_zero, List.getElem?_cons_succ, List.set_cons_zero, List.set_cons_succ, List.replicate, List.cons_append, List.nil_append, List.append_nil, List.length_cons, List.length_nil, List.map_cons, List.map_nil, Nat.sub_self, frzAt, e_var_v, e_var_w, e_var_t, e_var_i, e_con, e_tup, e_lst, e_bin, e_neg, e_not_v, e_not_t, e_and_v, e_and_t, e_or_v, e_or_t, e_ite_v, e_ite_w, e_ite_t, e_cmp, e_cmp2, e_idx, e_slc, e_rev, e_call, e_isa, e_bi_v, e_bi_w, e_bi_t, e_rng1, e_rng2, e_join, e_count, e_ws_nil, e_ws_cons, e_s_nil, e_s_cons, e_b_nil, e_b_cons, e_B_var, e_B_con, e_B_tup, e_B_lst, e_B_bin, e_B_idx, e_B_slc, e_B_call, e_B_bi, e_B_ite, e_B_lc, e_B_rev, e_o_none, e_o_some, e_if_nil, e_if_one, e_T, e_I, x_nil, x_cons, x_asg, x_own, x_ret, x_ite, x_for, x_frz, bT_name, bT_tup, bTs_nil, bTs_cons, post_v, post_w, post_t', post_i', rb, gtrue, sq_0, sq_1, c_ne, dEq_sq, b_sub, bi_abs, c_le, asB]
  cases decide (a = b)
  · cases decide (ab ((a.1 : Int) - b.1) ≤ 1) <;> rfl
  · rfl
def tbl (rows : List Str) : D := .tuple (rows.map .str)
def sqs (r c : Nat) : List Sq := (List.range r).flatMap fun i => (List.range c).map fun j => (i, j)
theorem e_lc (Φ : Phi) (ρ : Env) (m : Md) (t : T) (vs : List Nat) (it : E) (ifs : List E) (el : E) : ev Φ m (.lc t vs it ifs el) ρ = post m (do
    let xs ← evI Φ it ρ
    guard (decide (xs.length ≤ lim))
    let ys ← lcD (fun x => do let ρ' ← bindT t x (wip ρ vs); let k ← evIfs Φ ifs ρ'; if k then let y ← ev Φ .v el ρ'; .ret (some y) else .ret none) xs
    .ret (.list ys)) := by
  rw [← ev_lc]
  cases m <;> rfl
theorem e_lc2 (Φ : Phi) (ρ : Env) (m : Md) {t t1 : T} {vs vs1 : List Nat} {it it1 el : E} {ifs ifs1 : List E} : ev Φ m (.lc2 t vs it ifs t1 vs1 it1 ifs1 el) ρ = post m (do
      let xs ← evI Φ it ρ
      guard (decide (xs.length ≤ 4096))
      let ys ← lcD2 (fun x => do
        let ρ' ← bindT t x (wip ρ vs)
        let k ← evIfs Φ ifs ρ'
        if k then
          let xs1 ← evI Φ it1 ρ'
          guard (decide (xs1.length ≤ 4096))
          lcD (fun x1 => do
            let ρ2 ← bindT t1 x1 (wip ρ' vs1)
            let k1 ← evIfs Φ ifs1 ρ2
            if k1 then let y ← ev Φ .v el ρ2; .ret (some y) else .ret none) xs1
        else .ret []) xs
      .ret (.list ys)) := by
  rw [← ev_lc2]
  cases m <;> rfl
theorem bi_len_tup (xs : List D) : dBi .len [.tuple xs] = .ret (.int xs.length) := id rfl
theorem bi_len_lst (xs : List D) : dBi .len [.list xs] = .ret (.int xs.length) := id rfl
theorem asI (i : Int) : asInt (.int i) = .ret i := id rfl
theorem asL (xs : List D) : asLst (.list xs) = .ret xs := id rfl
theorem len_tbl (rows : List Str) : dBi .len [tbl rows] = .ret (.int rows.length) := by
  unfold tbl
  rw [bi_len_tup, List.length_map]
/-- a table: its rows, its width -/
structure Tb (rows : List Str) (r c : Nat) : Prop where
  hr : rows.length = r
  hc : ∀ x ∈ rows, x.length = c
  r0 : 1 ≤ r
  r4 : r ≤ 4096
  c0 : 1 ≤ c
  c4 : c ≤ 4096
theorem atI_0 {α : Type} {xs : List α} {i : Nat} {x : α} (h : xs[i]? = some x) : L2.atI xs (i : Int) = some x := L2.atI_nat h
theorem idx_tup {xs : List D} {i : Nat} {x : D} (h : xs[i]? = some x) : dIdx (.tuple xs) (.int (i : Int)) = .ret x := by
  show (match L2.atI xs (i : Int) with | some d => Tree.ret d | none => Tree.err) = _
  rw [atI_0 h]
theorem tbl_row {rows : List Str} {i : Nat} {x : Str} (h : rows[i]? = some x) : dIdx (tbl rows) (.int (i : Int)) = .ret (.str x) := idx_tup (by rw [List.getElem?_map, h]; rfl)
theorem Tb.first {rows : List Str} {r c : Nat} (t : Tb rows r c) : ∃ r0, rows[0]? = some r0 ∧ r0.length = c ∧ dIdx (tbl rows) (.int 0) = .ret (.str r0) := by
  have h : 0 < rows.length := by have := t.hr; have := t.r0; omega
  refine ⟨rows[0], by simp [h], t.hc _ (List.getElem_mem h), tbl_row (i := 0) (by simp [h])⟩
theorem len_str {x : Str} (h : x.length ≤ lim) : dBi .len [.str x] = .ret (.int x.length) := by
  show (guard (decide (x.length ≤ lim)) >>= fun _ => Tree.ret (PyData.int x.length)) = _
  rw [decide_eq_true h]
  rfl
theorem near_nat {n : Nat} (h : n ≤ 4096) : near62 (n : Int) = true := by
  unfold near62
  rw [Bool.and_eq_true]
  exact ⟨decide_eq_true (by omega), decide_eq_true (by omega)⟩
theorem rng_len (lo : Int) (n : Nat) : (rng lo n).length = n := by unfold rng; rw [List.length_map, List.length_range]
theorem rng_mem {n : Nat} {x : D} (h : x ∈ rng 0 n) : ∃ i, i < n ∧ x = .int (i : Nat) := by
  unfold rng at h
  obtain ⟨i, hi, e⟩ := List.mem_map.mp h
  exact ⟨i, List.mem_range.mp hi, by rw [← e]; simp⟩
theorem rng_0 (n : Nat) : rng 0 n = (List.range n).map fun (i : Nat) => PyData.int (i : Int) := by
  unfold rng
  congr 1; funext i; simp
/-- the item of a list display's loop over numbers -/
def onI {α : Type} (z : α) (f : Nat → α) : D → α
  | .int i => f i.toNat
  | _ => z
theorem d2lim : decide (0 + 1 + 1 ≤ lim) = true := id rfl
theorem fm_some {α β : Type} {f : α → β} : ∀ {l : List α}, (l.filterMap fun y => some (f y)) = l.map f
  | [] => rfl
  | x :: l => by rw [List.filterMap_cons, List.map_cons, fm_some]
theorem map_eq {α β : Type} {f g : α → β} {l : List α} (h : ∀ x ∈ l, f x = g x) : l.map f = l.map g := by
  induction l with
  | nil => rfl
  | cons x l ih => rw [List.map_cons, List.map_cons, h x List.mem_cons_self, ih fun y hy => h y (List.mem_cons_of_mem _ hy)]
theorem m_squares (k : Nat) {rows : List Str} {r c : Nat} (t : Tb rows r c) : callN tab (k + 1) 1 [.v (tbl rows)] = .ret (.list ((sqs r c).map sq)) := by
  show runF (callN tab k) ⟨1, 3, b_table_squares⟩ [.v (tbl rows)] = _
  obtain ⟨r0, _, hc, h0⟩ := t.first
  have l2 : r0.length ≤ lim := by rw [hc]; exact Nat.le_trans t.c4 (by decide)
  unfold runF b_table_squares
  rw [if_pos (show ([B.v (tbl rows)] : List B).length = 1 from rfl)]
  simp only [tr_b, as_b, decide_true, ite_true, ite_false, Bool.false_eq_true, rd, rdW, rdB, List.getElem?_cons_zero, List.getElem?_cons_succ, List.set_cons_zero, List.set_cons_succ, List.replicate, List.cons_append, List.nil_append, List.append_nil, List.length_cons, List.length_nil, List.map_cons, List.map_nil, Nat.sub_self, frzAt, e_var_v, e_var_w, e_var_t, e_var_i, e_con, e_tup, e_lst, e_bin, e_neg, e_not_v, e_not_t, e_and_v, e_and_t, e_or_v, e_or_t, e_ite_v, e_ite_w, e_ite_t, e_cmp, e_cmp2, e_idx, e_slc, e_rev, e_call, e_isa, e_bi_v, e_bi_w, e_bi_t, e_rng1, e_rng2, e_join, e_count, e_ws_nil, e_ws_cons, e_s_nil, e_s_cons, e_b_nil, e_b_cons, e_B_var, e_B_con, e_B_tup, e_B_lst, e_B_bin, e_B_idx, e_B_slc, e_B_call, e_B_bi, e_B_ite, e_B_lc, e_B_rev, e_o_none, e_o_some, e_if_nil, e_if_one, e_T, e_I, x_nil, x_cons, x_asg, x_own, x_ret, x_ite, x_for, x_frz, bT_name, bT_tup, bTs_nil, bTs_cons, post_v, post_w, post_t', post_i', rb, gtrue, e_lc2, len_tbl, h0, len_str l2, hc, t.hr, asI, asL, near_nat t.r4, near_nat t.c4, rng_len, Int.toNat_natCast, Pd.wip, decide_eq_true t.r4, decide_eq_true t.c4, d2lim]
  rw [lcD2_map (g := onI [] fun i => (List.range c).map fun j => sq (i, j)) fun x hx => ?_]
  · simp only [rb]
    rw [rng_0, List.flatMap_map]
    unfold sqs
    rw [List.map_flatMap]
    congr 2
    congr 1
    funext i
    show (List.range c).map _ = ((List.range c).map _).map sq
    rw [List.map_map]
    rfl
  · obtain ⟨i, hi, rfl⟩ := rng_mem hx
    rw [lcD_map (g := fun y => some (.tuple [.int (i : Int), y])) fun y _ => rfl]
    show Tree.ret ((rng 0 c).filterMap fun y => some (PyData.tuple [.int (i : Int), y])) = _
    rw [fm_some, rng_0, List.map_map]
    rfl
theorem runF_eq {Φ : Phi} {F : Fn} {bs : List B} (h : bs.length = F.np) : runF Φ F bs = (exs Φ F.body (bs.map some ++ List.replicate (F.ns - F.np) none) >>= fun o => match o with
    | .ret d => .ret d
    | .nx _ => .ret .none
    | _ => .err) := if_pos h
theorem len_sqs (r c : Nat) : (sqs r c).length = r * c := by
  unfold sqs
  rw [List.length_flatMap]
  have : ((List.range r).map fun i => ((List.range c).map fun j => (i, j)).length) = (List.range r).map fun _ => c := map_eq fun i _ => by rw [List.length_map, List.length_range]
  rw [this]
  clear this
  induction r with
  | zero => simp
  | succ r ih => rw [List.range_succ, List.map_append, List.sum_append, ih]; simp [Nat.succ_mul]
theorem mem_sqs {r c : Nat} {a : Sq} : a ∈ sqs r c ↔ a.1 < r ∧ a.2 < c := by
  unfold sqs
  rw [List.mem_flatMap]
  constructor
  · rintro ⟨i, hi, h⟩
    obtain ⟨j, hj, rfl⟩ := List.mem_map.mp h
    exact ⟨List.mem_range.mp hi, List.mem_range.mp hj⟩
  · rintro ⟨h1, h2⟩
    exact ⟨a.1, List.mem_range.mpr h1, List.mem_map.mpr ⟨a.2, List.mem_range.mpr h2, rfl⟩⟩
theorem it_lst (xs : List D) : items (.list xs) = .ret xs := id rfl
theorem it_tup (xs : List D) : items (.tuple xs) = .ret xs := id rfl
theorem bi_tup_lst (xs : List D) : dBi .tuple [.list xs] = .ret (.tuple xs) := id rfl
theorem fm_filter {α β : Type} {f : α → β} {p : α → Bool} : ∀ {l : List α}, (l.filterMap fun y => if p y = true then some (f y) else none) = (l.filter p).map f
  | [] => rfl
  | x :: l => by
    rw [List.filterMap_cons, List.filter_cons, fm_filter]
    cases p x <;> rfl
/-- squares of the table beside a -/
def nbs (r c : Nat) (a : Sq) : List Sq := (sqs r c).filter (nb a)
def unsq : D → Sq
  | .tuple [.int i, .int j] => (i.toNat, j.toNat)
  | _ => (0, 0)
theorem unsq_sq (a : Sq) : unsq (sq a) = a := by obtain ⟨i, j⟩ := a; rfl
theorem lim_eq' : lim = 16777216 := rfl
theorem fm_map {α : Type} {f : D → Option α} {g : Sq → Option α} {l : List Sq} (h : ∀ a ∈ l, f (sq a) = g a) : (l.map sq).filterMap f = l.filterMap g := by
  induction l with
  | nil => rfl
  | cons a l ih => rw [List.map_cons, List.filterMap_cons, List.filterMap_cons, h a List.mem_cons_self, ih fun b hb => h b (List.mem_cons_of_mem _ hb)]
theorem m_nbs (k : Nat) {rows : List Str} {r c : Nat} (t : Tb rows r c) (a : Sq) : callN tab (k + 2) 2 [.v (tbl rows), .v (sq a)] = .ret (.tuple ((nbs r c a).map sq)) := by
  show runF (callN tab (k + 1)) ⟨2, 3, b_neighbours⟩ [.v (tbl rows), .v (sq a)] = _
  rw [runF_eq (show ([B.v (tbl rows), B.v (sq a)] : List B).length = 2 from rfl)]
  have hl : decide (((sqs r c).map sq).length ≤ lim) = true := by
    rw [List.length_map, len_sqs]
    exact decide_eq_true (Nat.le_trans (Nat.mul_le_mul t.r4 t.c4) (by rw [lim_eq']; decide))
  unfold b_neighbours
  simp only [tr_b, as_b, decide_true, ite_true, ite_false, Bool.false_eq_true, rd, rdW, rdB, List.getElem?_cons_zero, List.getElem?_cons_succ, List.set_cons_zero, List.set_cons_succ, List.replicate, List.cons_append, List.nil_append, List.append_nil, List.length_cons, List.length_nil, List.map_cons, List.map_nil, Nat.sub_self, frzAt, e_var_v, e_var_w, e_var_t, e_var_i, e_con, e_tup, e_lst, e_bin, e_neg, e_not_v, e_not_t, e_and_v, e_and_t, e_or_v, e_or_t, e_ite_v, e_ite_w, e_ite_t, e_cmp, e_cmp2, e_idx, e_slc, e_rev, e_call, e_isa, e_bi_v, e_bi_w, e_bi_t, e_rng1, e_rng2, e_join, e_count, e_ws_nil, e_ws_cons, e_s_nil, e_s_cons, e_b_nil, e_b_cons, e_B_var, e_B_con, e_B_tup, e_B_lst, e_B_bin, e_B_idx, e_B_slc, e_B_call, e_B_bi, e_B_ite, e_B_lc, e_B_rev, e_o_none, e_o_some, e_if_nil, e_if_one, e_T, e_I, x_nil, x_cons, x_asg, x_own, x_ret, x_ite, x_for, x_frz, bT_name, bT_tup, bTs_nil, bTs_cons, post_v, post_w, post_t', post_i', rb, gtrue, e_lc, m_squares k t, it_lst, asL, hl, Pd.wip]
  rw [lcD_map (g := fun y => if nb a (unsq y) = true then some y else none) fun x hx => ?_]
  · simp only [rb, bi_tup_lst]
    rw [fm_map (g := fun b => if nb a b = true then some (sq b) else none) fun b _ => by rw [unsq_sq], fm_filter]
    rfl
  · obtain ⟨b, hb, rfl⟩ := List.mem_map.mp hx
    rw [m_nb, unsq_sq]
    simp only [rb, asB, post_t']
    cases nb a b <;> rfl
theorem e_not_in (x y : D) : dCmp .NotIn x y = (dIn x y >>= fun k => .ret (!k)) := id rfl
theorem canLay_all (w : List Sq) : PyData.canLayAll0 (w.map sq) = true := by
  induction w with
  | nil => simp [PyData.canLayAll0]
  | cons a w ih => simp [PyData.canLayAll0, canLay_sq, ih]
theorem depth_all (w : List Sq) : PyData.depthAll (w.map sq) ≤ 1 := by
  induction w with
  | nil => simp [PyData.depthAll]
  | cons a w ih => simp only [List.map_cons, PyData.depthAll, depth_sq]; omega
theorem shaped_wk (w : List Sq) : SeqAt.shaped (wk w) = true := by
  unfold SeqAt.shaped wk
  rw [Bool.and_eq_true]
  refine ⟨by simp only [PyData.canLay0]; exact canLay_all w, decide_eq_true ?_⟩
  have := depth_all w
  simp only [PyData.depth]
  omega
theorem in_wk (a : Sq) (w : List Sq) : dIn (sq a) (wk w) = .ret (decide (a ∈ w)) := by
  show (guard (SeqAt.shaped (sq a) && SeqAt.shaped (wk w)) >>= fun _ => Tree.ret ((w.map sq).any fun z => PyData.eqv z (sq a))) = _
  rw [shaped_sq, shaped_wk]
  show Tree.ret _ = _
  congr 1
  rw [List.any_map]
  induction w with
  | nil => simp
  | cons b w ih =>
    rw [List.any_cons, ih]
    show (PyData.eqv (sq b) (sq a) || _) = _
    rw [eqv_sq]
    by_cases h : b = a
    · subst h; simp
    · simp [h, Ne.symm h]
theorem wk_last {w : List Sq} {a : Sq} (h : w.getLast? = some a) : dIdx (wk w) (.int (-1)) = .ret (sq a) := by
  obtain ⟨ys, rfl⟩ : ∃ ys, w = ys ++ [a] := by
    rw [List.getLast?_eq_some_iff] at h
    exact h
  show (match L2.atI ((ys ++ [a]).map sq) (-1) with | some d => Tree.ret d | none => Tree.err) = _
  rw [List.map_append, show L2.atI (ys.map sq ++ [a].map sq) (-1) = some (sq a) from L2.atI_last _ _]
theorem wk_add {w : List Sq} {a : Sq} (h : w.length ≤ 1000) : dBin .Add (wk w) (.tuple [sq a]) = .ret (wk (w ++ [a])) := by
  show (guard (decide ((w.map sq).length + [sq a].length ≤ lim)) >>= fun _ => Tree.ret (PyData.tuple (w.map sq ++ [sq a]))) = _
  rw [guard_of (decide_eq_true (by rw [List.length_map, lim_eq']; simp; omega))]
  unfold wk
  rw [List.map_append]
  rfl
/-- the ways on from a walk -/
def ons (r c : Nat) (w : List Sq) : List (List Sq) := match w.getLast? with
  | some a => ((nbs r c a).filter fun b => !decide (b ∈ w)).map fun b => w ++ [b]
  | none => []
def longer (r c : Nat) (ws : List (List Sq)) : List (List Sq) := ws.flatMap (ons r c)
def wks (ws : List (List Sq)) : D := .list (ws.map wk)
theorem d1lim : decide (0 + 1 ≤ lim) = true := decide_eq_true (by rw [lim_eq']; decide)
/-- one turn's list -/
theorem turn_list (k : Nat) {rows : List Str} {r c : Nat} (t : Tb rows r c) {w : List Sq} {a : Sq} (ha : w.getLast? = some a) (hw : w.length ≤ 1000) {x2 x4 : Option B} :
    ev (callN tab (k + 2)) .v (.lc (.name 4) [4] (.call 2 [(.var 0), (.idx (.var 3) (.neg (.con (.int (1)))))]) [(.cmp .NotIn (.var 4) (.var 3))] (.bin .Add (.var 3) (.tup [(.var 4)]))) [some (.v (tbl rows)), x2, x4, some (.v (wk w)), none] = .ret (.list ((ons r c w).map wk)) := by
  have hl : decide (((nbs r c a).map sq).length ≤ lim) = true := by
    rw [List.length_map]
    refine decide_eq_true (Nat.le_trans (List.length_filter_le _ _) ?_)
    rw [len_sqs]
    exact Nat.le_trans (Nat.mul_le_mul t.r4 t.c4) (by rw [lim_eq']; decide)
  simp only [tr_b, as_b, decide_true, ite_true, ite_false, Bool.false_eq_true, rd, rdW, rdB, List.getElem?_cons_zero, List.getElem?_cons_succ, List.set_cons_zero, List.set_cons_succ, List.replicate, List.cons_append, List.nil_append, List.append_nil, List.length_cons, List.length_nil, List.map_cons, List.map_nil, Nat.sub_self, frzAt, e_var_v, e_var_w, e_var_t, e_var_i, e_con, e_tup, e_lst, e_bin, e_neg, e_not_v, e_not_t, e_and_v, e_and_t, e_or_v, e_or_t, e_ite_v, e_ite_w, e_ite_t, e_cmp, e_cmp2, e_idx, e_slc, e_rev, e_call, e_isa, e_bi_v, e_bi_w, e_bi_t, e_rng1, e_rng2, e_join, e_count, e_ws_nil, e_ws_cons, e_s_nil, e_s_cons, e_b_nil, e_b_cons, e_B_var, e_B_con, e_B_tup, e_B_lst, e_B_bin, e_B_idx, e_B_slc, e_B_call, e_B_bi, e_B_ite, e_B_lc, e_B_rev, e_o_none, e_o_some, e_if_nil, e_if_one, e_T, e_I, x_nil, x_cons, x_asg, x_own, x_ret, x_ite, x_for, x_frz, bT_name, bT_tup, bTs_nil, bTs_cons, post_v, post_w, post_t', post_i', rb, gtrue, e_lc, asI, wk_last ha, m_nbs k t, it_tup, asL, hl, Pd.wip]
  rw [lcD_map (g := fun y => if (!decide (unsq y ∈ w)) = true then some (wk (w ++ [unsq y])) else none) fun x hx => ?_]
  · simp only [rb]
    rw [fm_map (g := fun b => if (!decide (b ∈ w)) = true then some (wk (w ++ [b])) else none) fun b _ => by rw [unsq_sq], fm_filter]
    unfold ons
    rw [ha]
    simp only [List.map_map]
    rfl
  · obtain ⟨b, hb, rfl⟩ := List.mem_map.mp hx
    simp only [tr_b, as_b, decide_true, ite_true, ite_false, Bool.false_eq_true, rd, rdW, rdB, List.getElem?_cons_zero, List.getElem?_cons_succ, List.set_cons_zero, List.set_cons_succ, List.replicate, List.cons_append, List.nil_append, List.append_nil, List.length_cons, List.length_nil, List.map_cons, List.map_nil, Nat.sub_self, frzAt, e_var_v, e_var_w, e_var_t, e_var_i, e_con, e_tup, e_lst, e_bin, e_neg, e_not_v, e_not_t, e_and_v, e_and_t, e_or_v, e_or_t, e_ite_v, e_ite_w, e_ite_t, e_cmp, e_cmp2, e_idx, e_slc, e_rev, e_call, e_isa, e_bi_v, e_bi_w, e_bi_t, e_rng1, e_rng2, e_join, e_count, e_ws_nil, e_ws_cons, e_s_nil, e_s_cons, e_b_nil, e_b_cons, e_B_var, e_B_con, e_B_tup, e_B_lst, e_B_bin, e_B_idx, e_B_slc, e_B_call, e_B_bi, e_B_ite, e_B_lc, e_B_rev, e_o_none, e_o_some, e_if_nil, e_if_one, e_T, e_I, x_nil, x_cons, x_asg, x_own, x_ret, x_ite, x_for, x_frz, bT_name, bT_tup, bTs_nil, bTs_cons, post_v, post_w, post_t', post_i', rb, gtrue, e_not_in, in_wk, unsq_sq, asB, d1lim, wk_add hw]
    cases decide (b ∈ w) <;> rfl
theorem x_ext {Φ : Phi} {ρ : Env} {i : Nat} {e : E} {xs : List D} (h : ρ[i]? = some (some (.own (.list xs)))) : ex Φ (.ext i e) ρ = (ev Φ .v e ρ >>= fun y => asLst y >>= fun ys => guard (decide (xs.length + ys.length ≤ lim)) >>= fun _ => .ret (.nx (ρ.set i (some (.own (.list (xs ++ ys))))))) := by
  show (match ρ[i]? with | some (some (.own (.list xs))) => _ | _ => Tree.err) = _
  rw [h]
def unwk : D → List Sq
  | .tuple xs => xs.map unsq
  | _ => []
theorem unwk_wk (w : List Sq) : unwk (wk w) = w := by
  show (w.map sq).map unsq = w
  rw [List.map_map]
  have : (unsq ∘ sq) = id := funext fun a => unsq_sq a
  rw [this, List.map_id]
theorem app_pre {α β : Type} (f : α → List β) (a : List α) (x : α) (b : List α) : (a.flatMap f).length + (f x).length ≤ ((a ++ x :: b).flatMap f).length := by
  rw [List.flatMap_append, List.flatMap_cons, List.length_append, List.length_append]; omega
theorem fl_map (r c : Nat) (ws : List (List Sq)) : (ws.map wk).flatMap (fun d => (ons r c (unwk d)).map wk) = (longer r c ws).map wk := by
  unfold longer
  rw [List.flatMap_map, List.map_flatMap]
  congr 1; funext w
  rw [unwk_wk]
def lwB : List S := [.frz 0, .frz 3, .ext 2 (.lc (.name 4) [4] (.call 2 [(.var 0), (.idx (.var 3) (.neg (.con (.int (1)))))]) [(.cmp .NotIn (.var 4) (.var 3))] (.bin .Add (.var 3) (.tup [(.var 4)])))]
/-- slots of longer_walks -/
def lwI (rows : List Str) (ws : List (List Sq)) (r c : Nat) (done : List D) : Env :=
  [some (.v (tbl rows)), some (.v (wks ws)), some (.own (.list (done.flatMap fun d => (ons r c (unwk d)).map wk))), done.getLast?.map B.v, none]
theorem m_longer (k : Nat) {rows : List Str} {r c : Nat} (t : Tb rows r c) {ws : List (List Sq)} (hw : ∀ w ∈ ws, w ≠ [] ∧ w.length ≤ 1000) (hb : (longer r c ws).length ≤ lim) : callN tab (k + 3) 4 [.v (tbl rows), .v (wks ws)] = .ret (wks (longer r c ws)) := by
  show runF (callN tab (k + 2)) ⟨2, 5, b_longer_walks⟩ [.v (tbl rows), .v (wks ws)] = _
  rw [runF_eq (show ([B.v (tbl rows), B.v (wks ws)] : List B).length = 2 from rfl)]
  have d0 : decide (0 ≤ lim) = true := decide_eq_true (Nat.zero_le _)
  have loop := forD_run (f := fun x ρ' => bindT (.name 3) x ρ' >>= fun ρ2 => exs (callN tab (k + 2)) lwB ρ2)
    (I := lwI rows ws r c) (xs := ws.map wk) (done := []) fun a x b e => by
      have hx : x ∈ ws.map wk := by rw [e]; exact List.mem_append_right _ List.mem_cons_self
      obtain ⟨w, hmem, rfl⟩ := List.mem_map.mp hx
      obtain ⟨h1, h2⟩ := hw w hmem
      have hl : w.getLast? = some (w.getLast h1) := List.getLast?_eq_getLast h1
      have g : decide ((a.flatMap fun d => (ons r c (unwk d)).map wk).length + ((ons r c w).map wk).length ≤ lim) = true := by
        have := app_pre (fun d => (ons r c (unwk d)).map wk) a (wk w) b
        rw [← e, fl_map] at this
        simp only [unwk_wk, List.length_map] at this
        exact decide_eq_true (Nat.le_trans (by simp only [List.length_map]; exact this) hb)
      rw [List.nil_append]
      unfold lwI lwB
      simp only [tr_b, as_b, decide_true, ite_true, ite_false, Bool.false_eq_true, rd, rdW, rdB, List.getElem?_cons_zero, List.getElem?_cons_succ, List.set_cons_zero, List.set_cons_succ, List.replicate, List.cons_append, List.nil_append, List.append_nil, List.length_cons, List.length_nil, List.map_cons, List.map_nil, Nat.sub_self, frzAt, e_var_v, e_var_w, e_var_t, e_var_i, e_con, e_tup, e_lst, e_bin, e_neg, e_not_v, e_not_t, e_and_v, e_and_t, e_or_v, e_or_t, e_ite_v, e_ite_w, e_ite_t, e_cmp, e_cmp2, e_idx, e_slc, e_rev, e_call, e_isa, e_bi_v, e_bi_w, e_bi_t, e_rng1, e_rng2, e_join, e_count, e_ws_nil, e_ws_cons, e_s_nil, e_s_cons, e_b_nil, e_b_cons, e_B_var, e_B_con, e_B_tup, e_B_lst, e_B_bin, e_B_idx, e_B_slc, e_B_call, e_B_bi, e_B_ite, e_B_lc, e_B_rev, e_o_none, e_o_some, e_if_nil, e_if_one, e_T, e_I, x_nil, x_cons, x_asg, x_own, x_ret, x_ite, x_for, x_frz, bT_name, bT_tup, bTs_nil, bTs_cons, post_v, post_w, post_t', post_i', rb, gtrue]
      rw [x_ext (xs := a.flatMap fun d => (ons r c (unwk d)).map wk) rfl, turn_list k t hl h2]
      simp only [tr_b, as_b, decide_true, ite_true, ite_false, Bool.false_eq_true, rd, rdW, rdB, List.getElem?_cons_zero, List.getElem?_cons_succ, List.set_cons_zero, List.set_cons_succ, List.replicate, List.cons_append, List.nil_append, List.append_nil, List.length_cons, List.length_nil, List.map_cons, List.map_nil, Nat.sub_self, frzAt, e_var_v, e_var_w, e_var_t, e_var_i, e_con, e_tup, e_lst, e_bin, e_neg, e_not_v, e_not_t, e_and_v, e_and_t, e_or_v, e_or_t, e_ite_v, e_ite_w, e_ite_t, e_cmp, e_cmp2, e_idx, e_slc, e_rev, e_call, e_isa, e_bi_v, e_bi_w, e_bi_t, e_rng1, e_rng2, e_join, e_count, e_ws_nil, e_ws_cons, e_s_nil, e_s_cons, e_b_nil, e_b_cons, e_B_var, e_B_con, e_B_tup, e_B_lst, e_B_bin, e_B_idx, e_B_slc, e_B_call, e_B_bi, e_B_ite, e_B_lc, e_B_rev, e_o_none, e_o_some, e_if_nil, e_if_one, e_T, e_I, x_nil, x_cons, x_asg, x_own, x_ret, x_ite, x_for, x_frz, bT_name, bT_tup, bTs_nil, bTs_cons, post_v, post_w, post_t', post_i', rb, gtrue, asL, g, List.flatMap_append, List.flatMap_cons, List.flatMap_nil, unwk_wk, List.getLast?_append, List.getLast?_singleton, Option.map_some, Option.some_or]
  show (exs (callN tab (k + 2)) [.own 2 (.lst []), .frz 1, .for_ (.name 3) (.var 1) lwB, .frz 2, .ret (.var 2)] _ >>= _) = _
  simp only [tr_b, as_b, decide_true, ite_true, ite_false, Bool.false_eq_true, rd, rdW, rdB, List.getElem?_cons_zero, List.getElem?_cons_succ, List.set_cons_zero, List.set_cons_succ, List.replicate, List.cons_append, List.nil_append, List.append_nil, List.length_cons, List.length_nil, List.map_cons, List.map_nil, Nat.sub_self, frzAt, e_var_v, e_var_w, e_var_t, e_var_i, e_con, e_tup, e_lst, e_bin, e_neg, e_not_v, e_not_t, e_and_v, e_and_t, e_or_v, e_or_t, e_ite_v, e_ite_w, e_ite_t, e_cmp, e_cmp2, e_idx, e_slc, e_rev, e_call, e_isa, e_bi_v, e_bi_w, e_bi_t, e_rng1, e_rng2, e_join, e_count, e_ws_nil, e_ws_cons, e_s_nil, e_s_cons, e_b_nil, e_b_cons, e_B_var, e_B_con, e_B_tup, e_B_lst, e_B_bin, e_B_idx, e_B_slc, e_B_call, e_B_bi, e_B_ite, e_B_lc, e_B_rev, e_o_none, e_o_some, e_if_nil, e_if_one, e_T, e_I, x_nil, x_cons, x_asg, x_own, x_ret, x_ite, x_for, x_frz, post_v, post_w, post_t', post_i', rb, gtrue, wks, it_lst, asL, d0]
  have e0 : ([some (B.v (tbl rows)), some (B.v (PyData.list (ws.map wk))), some (B.own (PyData.list [])), none, none] : Env) = lwI rows ws r c [] := rfl
  rw [e0, loop, List.nil_append]
  unfold lwI
  simp only [tr_b, as_b, decide_true, ite_true, ite_false, Bool.false_eq_true, rd, rdW, rdB, List.getElem?_cons_zero, List.getElem?_cons_succ, List.set_cons_zero, List.set_cons_succ, List.replicate, List.cons_append, List.nil_append, List.append_nil, List.length_cons, List.length_nil, List.map_cons, List.map_nil, Nat.sub_self, frzAt, e_var_v, e_var_w, e_var_t, e_var_i, e_con, e_tup, e_lst, e_bin, e_neg, e_not_v, e_not_t, e_and_v, e_and_t, e_or_v, e_or_t, e_ite_v, e_ite_w, e_ite_t, e_cmp, e_cmp2, e_idx, e_slc, e_rev, e_call, e_isa, e_bi_v, e_bi_w, e_bi_t, e_rng1, e_rng2, e_join, e_count, e_ws_nil, e_ws_cons, e_s_nil, e_s_cons, e_b_nil, e_b_cons, e_B_var, e_B_con, e_B_tup, e_B_lst, e_B_bin, e_B_idx, e_B_slc, e_B_call, e_B_bi, e_B_ite, e_B_lc, e_B_rev, e_o_none, e_o_some, e_if_nil, e_if_one, e_T, e_I, x_nil, x_cons, x_asg, x_own, x_ret, x_ite, x_for, x_frz, bT_name, bT_tup, bTs_nil, bTs_cons, post_v, post_w, post_t', post_i', rb, gtrue, fl_map, wks]
def ones (r c : Nat) : List (List Sq) := (sqs r c).map fun a => [a]
/-- walks of m + 1 squares -/
def walks (r c : Nat) : Nat → List (List Sq)
  | 0 => ones r c
  | m + 1 => longer r c (walks r c m)
theorem ons_len {r c : Nat} {w v : List Sq} (h : v ∈ ons r c w) : v.length = w.length + 1 := by
  unfold ons at h
  split at h
  · obtain ⟨b, _, rfl⟩ := List.mem_map.mp h
    simp
  · cases h
theorem walks_len {r c : Nat} : ∀ {m : Nat} {w : List Sq}, w ∈ walks r c m → w.length = m + 1
  | 0, w, h => by
    obtain ⟨a, _, rfl⟩ := List.mem_map.mp h
    rfl
  | m + 1, w, h => by
    obtain ⟨v, hv, h⟩ := List.mem_flatMap.mp h
    rw [ons_len h, walks_len hv]
theorem ons_few {r c : Nat} (w : List Sq) : (ons r c w).length ≤ r * c := by
  unfold ons
  split
  · rw [List.length_map]
    refine Nat.le_trans (List.length_filter_le _ _) (Nat.le_trans (List.length_filter_le _ _) ?_)
    rw [len_sqs]
    exact Nat.le_refl _
  · exact Nat.zero_le _
theorem flat_few {α β : Type} {f : α → List β} {n : Nat} : ∀ {l : List α}, (∀ x ∈ l, (f x).length ≤ n) → (l.flatMap f).length ≤ l.length * n
  | [], _ => by simp
  | x :: l, h => by
    rw [List.flatMap_cons, List.length_append, List.length_cons, Nat.succ_mul]
    have h1 := h x List.mem_cons_self
    have h2 := flat_few (f := f) (n := n) (l := l) fun y hy => h y (List.mem_cons_of_mem _ hy)
    omega
theorem walks_few {r c : Nat} : ∀ m : Nat, (walks r c m).length ≤ (r * c) ^ (m + 1)
  | 0 => by
    show ((sqs r c).map _).length ≤ _
    rw [List.length_map, len_sqs, Nat.pow_one]
    exact Nat.le_refl _
  | m + 1 => by
    show ((walks r c m).flatMap (ons r c)).length ≤ _
    refine Nat.le_trans (flat_few fun w _ => ons_few w) ?_
    rw [Nat.pow_succ]
    exact Nat.mul_le_mul_right _ (walks_few m)
def wlB : List S := [.frz 0, .frz 2, .asg (.name 2) (.call 4 [(.var 0), (.var 2)])]
/-- slots of walks_of_length -/
def wlI (rows : List Str) (n : Int) (r c : Nat) (done : List D) : Env :=
  [some (.v (tbl rows)), some (.v (.int n)), if done.isEmpty then some (.own (wks (walks r c 0))) else some (.v (wks (walks r c done.length))), none, done.getLast?.map B.v]
theorem lim_pow {x m : Nat} (h1 : x ≤ 9) (h2 : m ≤ 6) : x ^ m ≤ lim := by
  refine Nat.le_trans (Nat.pow_le_pow_left h1 m) (Nat.le_trans (Nat.pow_le_pow_right (by omega) h2) ?_)
  rw [lim_eq']
  decide
theorem m_walks (k : Nat) {rows : List Str} {r c : Nat} (t : Tb rows r c) {m : Nat} (h9 : r * c ≤ 9) (hm : m ≤ 5) : callN tab (k + 4) 5 [.v (tbl rows), .v (.int ((m : Int) + 1))] = .ret (wks (walks r c m)) := by
  show runF (callN tab (k + 3)) ⟨2, 5, b_walks_of_length⟩ [.v (tbl rows), .v (.int ((m : Int) + 1))] = _
  rw [runF_eq (show ([B.v (tbl rows), B.v (.int ((m : Int) + 1))] : List B).length = 2 from rfl)]
  have hl : decide (((sqs r c).map sq).length ≤ lim) = true := by
    rw [List.length_map, len_sqs]
    exact decide_eq_true (Nat.le_trans h9 (by rw [lim_eq']; decide))
  have own : ev (callN tab (k + 3)) .v (.lc (.name 3) [3] (.call 1 [(.var 0)]) [] (.tup [(.var 3)])) [some (.v (tbl rows)), some (.v (.int ((m : Int) + 1))), none, none, none] = .ret (wks (walks r c 0)) := by
    simp only [tr_b, as_b, decide_true, ite_true, ite_false, Bool.false_eq_true, rd, rdW, rdB, List.getElem?_cons_zero, List.getElem?_cons_succ, List.set_cons_zero, List.set_cons_succ, List.replicate, List.cons_append, List.nil_append, List.append_nil, List.length_cons, List.length_nil, List.map_cons, List.map_nil, Nat.sub_self, frzAt, e_var_v, e_var_w, e_var_t, e_var_i, e_con, e_tup, e_lst, e_bin, e_neg, e_not_v, e_not_t, e_and_v, e_and_t, e_or_v, e_or_t, e_ite_v, e_ite_w, e_ite_t, e_cmp, e_cmp2, e_idx, e_slc, e_rev, e_call, e_isa, e_bi_v, e_bi_w, e_bi_t, e_rng1, e_rng2, e_join, e_count, e_ws_nil, e_ws_cons, e_s_nil, e_s_cons, e_b_nil, e_b_cons, e_B_var, e_B_con, e_B_tup, e_B_lst, e_B_bin, e_B_idx, e_B_slc, e_B_call, e_B_bi, e_B_ite, e_B_lc, e_B_rev, e_o_none, e_o_some, e_if_nil, e_if_one, e_T, e_I, x_nil, x_cons, x_asg, x_own, x_ret, x_ite, x_for, x_frz, bT_name, bT_tup, bTs_nil, bTs_cons, post_v, post_w, post_t', post_i', rb, gtrue, e_lc, m_squares (k + 2) t, it_lst, asL, hl, Pd.wip, d1lim]
    rw [lcD_map (g := fun y => some (.tuple [y])) fun x hx => rfl, fm_some, List.map_map]
    show Tree.ret _ = Tree.ret (PyData.list (((sqs r c).map fun a => [a]).map wk))
    rw [List.map_map]
    rfl
  have loop := forD_run (f := fun x ρ' => bindT (.name 4) x ρ' >>= fun ρ2 => exs (callN tab (k + 3)) wlB ρ2)
    (I := wlI rows ((m : Int) + 1) r c) (xs := rng 0 m) (done := []) fun a x b e => by
      have hlen : a.length < m := by
        have := congrArg List.length e
        rw [rng_len, List.length_append, List.length_cons] at this
        omega
      have call := m_longer k t (ws := walks r c a.length) (fun w hw => by
        have := walks_len hw
        exact ⟨fun z => by rw [z] at this; simp at this, by omega⟩) (by
        refine Nat.le_trans (walks_few (r := r) (c := c) (a.length + 1)) (lim_pow h9 (by omega)))
      have call : callN tab (k + 3) 4 [.v (tbl rows), .v (wks (walks r c a.length))] = .ret (wks (walks r c (a.length + 1))) := call
      rw [List.nil_append]
      unfold wlI wlB
      cases a with
      | nil =>
        simp only [tr_b, as_b, decide_true, ite_true, ite_false, Bool.false_eq_true, rd, rdW, rdB, List.getElem?_cons_zero, List.getElem?_cons_succ, List.set_cons_zero, List.set_cons_succ, List.replicate, List.cons_append, List.nil_append, List.append_nil, List.length_cons, List.length_nil, List.map_cons, List.map_nil, Nat.sub_self, frzAt, e_var_v, e_var_w, e_var_t, e_var_i, e_con, e_tup, e_lst, e_bin, e_neg, e_not_v, e_not_t, e_and_v, e_and_t, e_or_v, e_or_t, e_ite_v, e_ite_w, e_ite_t, e_cmp, e_cmp2, e_idx, e_slc, e_rev, e_call, e_isa, e_bi_v, e_bi_w, e_bi_t, e_rng1, e_rng2, e_join, e_count, e_ws_nil, e_ws_cons, e_s_nil, e_s_cons, e_b_nil, e_b_cons, e_B_var, e_B_con, e_B_tup, e_B_lst, e_B_bin, e_B_idx, e_B_slc, e_B_call, e_B_bi, e_B_ite, e_B_lc, e_B_rev, e_o_none, e_o_some, e_if_nil, e_if_one, e_T, e_I, x_nil, x_cons, x_asg, x_own, x_ret, x_ite, x_for, x_frz, bT_name, bT_tup, bTs_nil, bTs_cons, post_v, post_w, post_t', post_i', rb, gtrue, List.isEmpty_nil, List.length_nil] at call ⊢
        simp only [tr_b, as_b, decide_true, ite_true, ite_false, Bool.false_eq_true, rd, rdW, rdB, List.getElem?_cons_zero, List.getElem?_cons_succ, List.set_cons_zero, List.set_cons_succ, List.replicate, List.cons_append, List.nil_append, List.append_nil, List.length_cons, List.length_nil, List.map_cons, List.map_nil, Nat.sub_self, frzAt, e_var_v, e_var_w, e_var_t, e_var_i, e_con, e_tup, e_lst, e_bin, e_neg, e_not_v, e_not_t, e_and_v, e_and_t, e_or_v, e_or_t, e_ite_v, e_ite_w, e_ite_t, e_cmp, e_cmp2, e_idx, e_slc, e_rev, e_call, e_isa, e_bi_v, e_bi_w, e_bi_t, e_rng1, e_rng2, e_join, e_count, e_ws_nil, e_ws_cons, e_s_nil, e_s_cons, e_b_nil, e_b_cons, e_B_var, e_B_con, e_B_tup, e_B_lst, e_B_bin, e_B_idx, e_B_slc, e_B_call, e_B_bi, e_B_ite, e_B_lc, e_B_rev, e_o_none, e_o_some, e_if_nil, e_if_one, e_T, e_I, x_nil, x_cons, x_asg, x_own, x_ret, x_ite, x_for, x_frz, bT_name, bT_tup, bTs_nil, bTs_cons, post_v, post_w, post_t', post_i', rb, gtrue, call]
        rfl
      | cons a0 a =>
        simp only [tr_b, as_b, decide_true, ite_true, ite_false, Bool.false_eq_true, rd, rdW, rdB, List.getElem?_cons_zero, List.getElem?_cons_succ, List.set_cons_zero, List.set_cons_succ, List.replicate, List.cons_append, List.nil_append, List.append_nil, List.length_cons, List.length_nil, List.map_cons, List.map_nil, Nat.sub_self, frzAt, e_var_v, e_var_w, e_var_t, e_var_i, e_con, e_tup, e_lst, e_bin, e_neg, e_not_v, e_not_t, e_and_v, e_and_t, e_or_v, e_or_t, e_ite_v, e_ite_w, e_ite_t, e_cmp, e_cmp2, e_idx, e_slc, e_rev, e_call, e_isa, e_bi_v, e_bi_w, e_bi_t, e_rng1, e_rng2, e_join, e_count, e_ws_nil, e_ws_cons, e_s_nil, e_s_cons, e_b_nil, e_b_cons, e_B_var, e_B_con, e_B_tup, e_B_lst, e_B_bin, e_B_idx, e_B_slc, e_B_call, e_B_bi, e_B_ite, e_B_lc, e_B_rev, e_o_none, e_o_some, e_if_nil, e_if_one, e_T, e_I, x_nil, x_cons, x_asg, x_own, x_ret, x_ite, x_for, x_frz, bT_name, bT_tup, bTs_nil, bTs_cons, post_v, post_w, post_t', post_i', rb, gtrue, List.isEmpty_cons] at call ⊢
        have gl : (a0 :: (a ++ [x])).getLast? = some x := by rw [← List.cons_append, List.getLast?_append]; rfl
        simp only [tr_b, as_b, decide_true, ite_true, ite_false, Bool.false_eq_true, rd, rdW, rdB, List.getElem?_cons_zero, List.getElem?_cons_succ, List.set_cons_zero, List.set_cons_succ, List.replicate, List.cons_append, List.nil_append, List.append_nil, List.length_cons, List.length_nil, List.map_cons, List.map_nil, Nat.sub_self, frzAt, e_var_v, e_var_w, e_var_t, e_var_i, e_con, e_tup, e_lst, e_bin, e_neg, e_not_v, e_not_t, e_and_v, e_and_t, e_or_v, e_or_t, e_ite_v, e_ite_w, e_ite_t, e_cmp, e_cmp2, e_idx, e_slc, e_rev, e_call, e_isa, e_bi_v, e_bi_w, e_bi_t, e_rng1, e_rng2, e_join, e_count, e_ws_nil, e_ws_cons, e_s_nil, e_s_cons, e_b_nil, e_b_cons, e_B_var, e_B_con, e_B_tup, e_B_lst, e_B_bin, e_B_idx, e_B_slc, e_B_call, e_B_bi, e_B_ite, e_B_lc, e_B_rev, e_o_none, e_o_some, e_if_nil, e_if_one, e_T, e_I, x_nil, x_cons, x_asg, x_own, x_ret, x_ite, x_for, x_frz, bT_name, bT_tup, bTs_nil, bTs_cons, post_v, post_w, post_t', post_i', rb, gtrue, call, gl, Option.map_some, List.length_append, Nat.zero_add]
  have hn : near62 (((m : Int) + 1) - 1) = true := by
    have : ((m : Int) + 1) - 1 = ((m : Nat) : Int) := by omega
    rw [this]
    exact near_nat (by omega)
  have hm2 : (((m : Int) + 1) - 1).toNat = m := by omega
  show (exs (callN tab (k + 3)) [.frz 0, .own 2 (.lc (.name 3) [3] (.call 1 [(.var 0)]) [] (.tup [(.var 3)])), .frz 1, .for_ (.name 4) (.bi .range [(.bin .Sub (.var 1) (.con (.int (1))))]) wlB, .frz 2, .ret (.var 2)] _ >>= _) = _
  simp only [tr_b, as_b, decide_true, ite_true, ite_false, Bool.false_eq_true, rd, rdW, rdB, List.getElem?_cons_zero, List.getElem?_cons_succ, List.set_cons_zero, List.set_cons_succ, List.replicate, List.cons_append, List.nil_append, List.append_nil, List.length_cons, List.length_nil, List.map_cons, List.map_nil, Nat.sub_self, frzAt, e_var_v, e_var_w, e_var_t, e_var_i, e_con, e_tup, e_lst, e_bin, e_neg, e_not_v, e_not_t, e_and_v, e_and_t, e_or_v, e_or_t, e_ite_v, e_ite_w, e_ite_t, e_cmp, e_cmp2, e_idx, e_slc, e_rev, e_call, e_isa, e_bi_v, e_bi_w, e_bi_t, e_rng1, e_rng2, e_join, e_count, e_ws_nil, e_ws_cons, e_s_nil, e_s_cons, e_b_nil, e_b_cons, e_B_var, e_B_con, e_B_tup, e_B_lst, e_B_bin, e_B_idx, e_B_slc, e_B_call, e_B_bi, e_B_ite, e_B_lc, e_B_rev, e_o_none, e_o_some, e_if_nil, e_if_one, e_T, e_I, x_nil, x_cons, x_asg, x_own, x_ret, x_ite, x_for, x_frz, post_v, post_w, post_t', post_i', rb, gtrue, own, asI, b_sub, hn, hm2, asL]
  have e0 : ([some (B.v (tbl rows)), some (B.v (PyData.int ((m : Int) + 1))), some (B.own (wks (walks r c 0))), none, none] : Env) = wlI rows ((m : Int) + 1) r c [] := rfl
  rw [e0, loop, List.nil_append]
  unfold wlI
  rw [rng_len]
  cases m with
  | zero =>
    have : rng 0 0 = [] := rfl
    rw [this]
    simp only [tr_b, as_b, decide_true, ite_true, ite_false, Bool.false_eq_true, rd, rdW, rdB, List.getElem?_cons_zero, List.getElem?_cons_succ, List.set_cons_zero, List.set_cons_succ, List.replicate, List.cons_append, List.nil_append, List.append_nil, List.length_cons, List.length_nil, List.map_cons, List.map_nil, Nat.sub_self, frzAt, e_var_v, e_var_w, e_var_t, e_var_i, e_con, e_tup, e_lst, e_bin, e_neg, e_not_v, e_not_t, e_and_v, e_and_t, e_or_v, e_or_t, e_ite_v, e_ite_w, e_ite_t, e_cmp, e_cmp2, e_idx, e_slc, e_rev, e_call, e_isa, e_bi_v, e_bi_w, e_bi_t, e_rng1, e_rng2, e_join, e_count, e_ws_nil, e_ws_cons, e_s_nil, e_s_cons, e_b_nil, e_b_cons, e_B_var, e_B_con, e_B_tup, e_B_lst, e_B_bin, e_B_idx, e_B_slc, e_B_call, e_B_bi, e_B_ite, e_B_lc, e_B_rev, e_o_none, e_o_some, e_if_nil, e_if_one, e_T, e_I, x_nil, x_cons, x_asg, x_own, x_ret, x_ite, x_for, x_frz, bT_name, bT_tup, bTs_nil, bTs_cons, post_v, post_w, post_t', post_i', rb, gtrue, List.isEmpty_nil, wks]
  | succ m =>
    have : (rng 0 (m + 1)).isEmpty = false := by
      cases q : rng 0 (m + 1) with
      | nil => have := rng_len 0 (m + 1); rw [q] at this; simp at this
      | cons _ _ => rfl
    rw [this]
    simp only [tr_b, as_b, decide_true, ite_true, ite_false, Bool.false_eq_true, rd, rdW, rdB, List.getElem?_cons_zero, List.getElem?_cons_succ, List.set_cons_zero, List.set_cons_succ, List.replicate, List.cons_append, List.nil_append, List.append_nil, List.length_cons, List.length_nil, List.map_cons, List.map_nil, Nat.sub_self, frzAt, e_var_v, e_var_w, e_var_t, e_var_i, e_con, e_tup, e_lst, e_bin, e_neg, e_not_v, e_not_t, e_and_v, e_and_t, e_or_v, e_or_t, e_ite_v, e_ite_w, e_ite_t, e_cmp, e_cmp2, e_idx, e_slc, e_rev, e_call, e_isa, e_bi_v, e_bi_w, e_bi_t, e_rng1, e_rng2, e_join, e_count, e_ws_nil, e_ws_cons, e_s_nil, e_s_cons, e_b_nil, e_b_cons, e_B_var, e_B_con, e_B_tup, e_B_lst, e_B_bin, e_B_idx, e_B_slc, e_B_call, e_B_bi, e_B_ite, e_B_lc, e_B_rev, e_o_none, e_o_some, e_if_nil, e_if_one, e_T, e_I, x_nil, x_cons, x_asg, x_own, x_ret, x_ite, x_for, x_frz, bT_name, bT_tup, bTs_nil, bTs_cons, post_v, post_w, post_t', post_i', rb, gtrue]
theorem m_count (k : Nat) {rows : List Str} {r c : Nat} (t : Tb rows r c) {m : Nat} (h9 : r * c ≤ 9) (hm : m ≤ 5) : callN tab (k + 5) 6 [.v (tbl rows), .v (.int ((m : Int) + 1))] = .ret (.int (walks r c m).length) := by
  show runF (callN tab (k + 4)) ⟨2, 2, b_count_length⟩ [.v (tbl rows), .v (.int ((m : Int) + 1))] = _
  rw [runF_eq (show ([B.v (tbl rows), B.v (.int ((m : Int) + 1))] : List B).length = 2 from rfl)]
  unfold b_count_length
  simp only [tr_b, as_b, decide_true, ite_true, ite_false, Bool.false_eq_true, rd, rdW, rdB, List.getElem?_cons_zero, List.getElem?_cons_succ, List.set_cons_zero, List.set_cons_succ, List.replicate, List.cons_append, List.nil_append, List.append_nil, List.length_cons, List.length_nil, List.map_cons, List.map_nil, Nat.sub_self, frzAt, e_var_v, e_var_w, e_var_t, e_var_i, e_con, e_tup, e_lst, e_bin, e_neg, e_not_v, e_not_t, e_and_v, e_and_t, e_or_v, e_or_t, e_ite_v, e_ite_w, e_ite_t, e_cmp, e_cmp2, e_idx, e_slc, e_rev, e_call, e_isa, e_bi_v, e_bi_w, e_bi_t, e_rng1, e_rng2, e_join, e_count, e_ws_nil, e_ws_cons, e_s_nil, e_s_cons, e_b_nil, e_b_cons, e_B_var, e_B_con, e_B_tup, e_B_lst, e_B_bin, e_B_idx, e_B_slc, e_B_call, e_B_bi, e_B_ite, e_B_lc, e_B_rev, e_o_none, e_o_some, e_if_nil, e_if_one, e_T, e_I, x_nil, x_cons, x_asg, x_own, x_ret, x_ite, x_for, x_frz, bT_name, bT_tup, bTs_nil, bTs_cons, post_v, post_w, post_t', post_i', rb, gtrue, m_walks k t h9 hm]
  unfold wks
  simp only [bi_len_lst, rb, List.length_map]
def unl : D → List D
  | .list xs => xs
  | _ => []
def flB : List S := [.frz 2, .ext 1 (.var 2)]
def flI (xss : List (List D)) (done : List D) : Env := [some (.v (.list (xss.map .list))), some (.own (.list (done.flatMap unl))), done.getLast?.map B.v]
theorem m_flat (k : Nat) {xss : List (List D)} (hb : xss.flatten.length ≤ lim) : callN tab (k + 1) 15 [.v (.list (xss.map .list))] = .ret (.list xss.flatten) := by
  show runF (callN tab k) ⟨1, 3, b__law_flat⟩ [.v (.list (xss.map .list))] = _
  rw [runF_eq (show ([B.v (.list (xss.map .list))] : List B).length = 1 from rfl)]
  have d0 : decide (0 ≤ lim) = true := decide_eq_true (Nat.zero_le _)
  have fl : (xss.map PyData.list).flatMap unl = xss.flatten := by
    rw [List.flatMap_map]
    show xss.flatMap (fun x => x) = _
    rw [← List.flatMap_id]
    rfl
  have loop := forD_run (f := fun x ρ' => bindT (.name 2) x ρ' >>= fun ρ2 => exs (callN tab k) flB ρ2) (I := flI xss) (xs := xss.map .list) (done := []) fun a x b e => by
    have hx : x ∈ xss.map PyData.list := by rw [e]; exact List.mem_append_right _ List.mem_cons_self
    obtain ⟨xs, _, rfl⟩ := List.mem_map.mp hx
    have g : decide ((a.flatMap unl).length + xs.length ≤ lim) = true := by
      have := app_pre unl a (.list xs) b
      rw [← e, fl] at this
      exact decide_eq_true (Nat.le_trans this hb)
    have u : unl (.list xs) = xs := rfl
    rw [List.nil_append]
    unfold flI flB
    simp only [tr_b, as_b, decide_true, ite_true, ite_false, Bool.false_eq_true, rd, rdW, rdB, List.getElem?_cons_zero, List.getElem?_cons_succ, List.set_cons_zero, List.set_cons_succ, List.replicate, List.cons_append, List.nil_append, List.append_nil, List.length_cons, List.length_nil, List.map_cons, List.map_nil, Nat.sub_self, frzAt, e_var_v, e_var_w, e_var_t, e_var_i, e_con, e_tup, e_lst, e_bin, e_neg, e_not_v, e_not_t, e_and_v, e_and_t, e_or_v, e_or_t, e_ite_v, e_ite_w, e_ite_t, e_cmp, e_cmp2, e_idx, e_slc, e_rev, e_call, e_isa, e_bi_v, e_bi_w, e_bi_t, e_rng1, e_rng2, e_join, e_count, e_ws_nil, e_ws_cons, e_s_nil, e_s_cons, e_b_nil, e_b_cons, e_B_var, e_B_con, e_B_tup, e_B_lst, e_B_bin, e_B_idx, e_B_slc, e_B_call, e_B_bi, e_B_ite, e_B_lc, e_B_rev, e_o_none, e_o_some, e_if_nil, e_if_one, e_T, e_I, x_nil, x_cons, x_asg, x_own, x_ret, x_ite, x_for, x_frz, bT_name, bT_tup, bTs_nil, bTs_cons, post_v, post_w, post_t', post_i', rb, gtrue]
    rw [x_ext (xs := a.flatMap unl) rfl]
    simp only [tr_b, as_b, decide_true, ite_true, ite_false, Bool.false_eq_true, rd, rdW, rdB, List.getElem?_cons_zero, List.getElem?_cons_succ, List.set_cons_zero, List.set_cons_succ, List.replicate, List.cons_append, List.nil_append, List.append_nil, List.length_cons, List.length_nil, List.map_cons, List.map_nil, Nat.sub_self, frzAt, e_var_v, e_var_w, e_var_t, e_var_i, e_con, e_tup, e_lst, e_bin, e_neg, e_not_v, e_not_t, e_and_v, e_and_t, e_or_v, e_or_t, e_ite_v, e_ite_w, e_ite_t, e_cmp, e_cmp2, e_idx, e_slc, e_rev, e_call, e_isa, e_bi_v, e_bi_w, e_bi_t, e_rng1, e_rng2, e_join, e_count, e_ws_nil, e_ws_cons, e_s_nil, e_s_cons, e_b_nil, e_b_cons, e_B_var, e_B_con, e_B_tup, e_B_lst, e_B_bin, e_B_idx, e_B_slc, e_B_call, e_B_bi, e_B_ite, e_B_lc, e_B_rev, e_o_none, e_o_some, e_if_nil, e_if_one, e_T, e_I, x_nil, x_cons, x_asg, x_own, x_ret, x_ite, x_for, x_frz, bT_name, bT_tup, bTs_nil, bTs_cons, post_v, post_w, post_t', post_i', rb, gtrue, asL, g, List.flatMap_append, List.flatMap_cons, List.flatMap_nil, u, List.getLast?_append, List.getLast?_singleton, Option.map_some, Option.some_or]
  show (exs (callN tab k) [.own 1 (.lst []), .frz 0, .for_ (.name 2) (.var 0) flB, .frz 1, .ret (.var 1)] _ >>= _) = _
  simp only [tr_b, as_b, decide_true, ite_true, ite_false, Bool.false_eq_true, rd, rdW, rdB, List.getElem?_cons_zero, List.getElem?_cons_succ, List.set_cons_zero, List.set_cons_succ, List.replicate, List.cons_append, List.nil_append, List.append_nil, List.length_cons, List.length_nil, List.map_cons, List.map_nil, Nat.sub_self, frzAt, e_var_v, e_var_w, e_var_t, e_var_i, e_con, e_tup, e_lst, e_bin, e_neg, e_not_v, e_not_t, e_and_v, e_and_t, e_or_v, e_or_t, e_ite_v, e_ite_w, e_ite_t, e_cmp, e_cmp2, e_idx, e_slc, e_rev, e_call, e_isa, e_bi_v, e_bi_w, e_bi_t, e_rng1, e_rng2, e_join, e_count, e_ws_nil, e_ws_cons, e_s_nil, e_s_cons, e_b_nil, e_b_cons, e_B_var, e_B_con, e_B_tup, e_B_lst, e_B_bin, e_B_idx, e_B_slc, e_B_call, e_B_bi, e_B_ite, e_B_lc, e_B_rev, e_o_none, e_o_some, e_if_nil, e_if_one, e_T, e_I, x_nil, x_cons, x_asg, x_own, x_ret, x_ite, x_for, x_frz, post_v, post_w, post_t', post_i', rb, gtrue, it_lst, asL, d0]
  have e0 : ([some (B.v (.list (xss.map .list))), some (B.own (.list [])), none] : Env) = flI xss [] := rfl
  rw [e0, loop, List.nil_append]
  unfold flI
  simp only [tr_b, as_b, decide_true, ite_true, ite_false, Bool.false_eq_true, rd, rdW, rdB, List.getElem?_cons_zero, List.getElem?_cons_succ, List.set_cons_zero, List.set_cons_succ, List.replicate, List.cons_append, List.nil_append, List.append_nil, List.length_cons, List.length_nil, List.map_cons, List.map_nil, Nat.sub_self, frzAt, e_var_v, e_var_w, e_var_t, e_var_i, e_con, e_tup, e_lst, e_bin, e_neg, e_not_v, e_not_t, e_and_v, e_and_t, e_or_v, e_or_t, e_ite_v, e_ite_w, e_ite_t, e_cmp, e_cmp2, e_idx, e_slc, e_rev, e_call, e_isa, e_bi_v, e_bi_w, e_bi_t, e_rng1, e_rng2, e_join, e_count, e_ws_nil, e_ws_cons, e_s_nil, e_s_cons, e_b_nil, e_b_cons, e_B_var, e_B_con, e_B_tup, e_B_lst, e_B_bin, e_B_idx, e_B_slc, e_B_call, e_B_bi, e_B_ite, e_B_lc, e_B_rev, e_o_none, e_o_some, e_if_nil, e_if_one, e_T, e_I, x_nil, x_cons, x_asg, x_own, x_ret, x_ite, x_for, x_frz, bT_name, bT_tup, bTs_nil, bTs_cons, post_v, post_w, post_t', post_i', rb, gtrue, fl]
theorem bi_max (i j : Int) : dBi .max [.int i, .int j] = .ret (.int (if j > i then j else i)) := id rfl
theorem c_lt (i j : Int) : dCmp .Lt (.int i) (.int j) = .ret (decide (i < j)) := id rfl
theorem m_near (k : Nat) (a b : Sq) : callN tab (k + 1) 19 [.v (sq a), .v (sq b)] = .ret (.bool (nb a b)) := by
  show runF (callN tab k) ⟨2, 2, b__law_near⟩ [.v (sq a), .v (sq b)] = _
  rw [runF_eq (show ([B.v (sq a), B.v (sq b)] : List B).length = 2 from rfl)]
  unfold b__law_near nb
  simp only [tr_b, as_b, decide_true, ite_true, ite_false, Bool.false_eq_true, rd, rdW, rdB, List.getElem?_cons_zero, List.getElem?_cons_succ, List.set_cons_zero, List.set_cons_succ, List.replicate, List.cons_append, List.nil_append, List.append_nil, List.length_cons, List.length_nil, List.map_cons, List.map_nil, Nat.sub_self, frzAt, e_var_v, e_var_w, e_var_t, e_var_i, e_con, e_tup, e_lst, e_bin, e_neg, e_not_v, e_not_t, e_and_v, e_and_t, e_or_v, e_or_t, e_ite_v, e_ite_w, e_ite_t, e_cmp, e_cmp2, e_idx, e_slc, e_rev, e_call, e_isa, e_bi_v, e_bi_w, e_bi_t, e_rng1, e_rng2, e_join, e_count, e_ws_nil, e_ws_cons, e_s_nil, e_s_cons, e_b_nil, e_b_cons, e_B_var, e_B_con, e_B_tup, e_B_lst, e_B_bin, e_B_idx, e_B_slc, e_B_call, e_B_bi, e_B_ite, e_B_lc, e_B_rev, e_o_none, e_o_some, e_if_nil, e_if_one, e_T, e_I, x_nil, x_cons, x_asg, x_own, x_ret, x_ite, x_for, x_frz, bT_name, bT_tup, bTs_nil, bTs_cons, post_v, post_w, post_t', post_i', rb, gtrue, sq_0, sq_1, c_ne, dEq_sq, b_sub, bi_abs, bi_max, c_lt, asB]
  generalize ab ((a.1 : Int) - b.1) = x
  generalize ab ((a.2 : Int) - b.2) = y
  have e : decide ((if y > x then y else x) < 2) = (decide (x ≤ 1) && decide (y ≤ 1)) := by
    by_cases h1 : x ≤ 1 <;> by_cases h2 : y ≤ 1 <;> simp only [h1, h2, decide_true, decide_false, Bool.and_true, Bool.and_false, Bool.true_and, Bool.false_and, decide_eq_true_eq, decide_eq_false_iff_not] <;> split <;> omega
  rw [e]
  cases decide (a = b)
  · rfl
  · rfl
theorem rng_map {n : Nat} {α : Type} {f : D → α} : (rng 0 n).map f = (List.range n).map fun (i : Nat) => f (.int (i : Int)) := by
  rw [rng_0, List.map_map]
  rfl
/-- one row's ways on, the law's way -/
theorem lc_row (k : Nat) {r c : Nat} {w : List Sq} {a : Sq} (ha : w.getLast? = some a) (hw : w.length ≤ 1000) (hq : r * c ≤ lim) {x0 x1 x3 x4 x5 x7 : Option B} :
    ev (callN tab (k + 1)) .v (.lc (.name 6) [6] (.var 2) [(.and (.cmp .NotIn (.var 6) (.var 8)) (.call 19 [(.idx (.var 8) (.neg (.con (.int (1))))), (.var 6)]))] (.bin .Add (.var 8) (.tup [(.var 6)]))) [x0, x1, some (.v (.list ((sqs r c).map sq))), x3, x4, x5, none, x7, some (.v (wk w))] = .ret (.list ((ons r c w).map wk)) := by
  have hl : decide (((sqs r c).map sq).length ≤ lim) = true := by
    rw [List.length_map, len_sqs]
    exact decide_eq_true hq
  simp only [tr_b, as_b, decide_true, ite_true, ite_false, Bool.false_eq_true, rd, rdW, rdB, List.getElem?_cons_zero, List.getElem?_cons_succ, List.set_cons_zero, List.set_cons_succ, List.replicate, List.cons_append, List.nil_append, List.append_nil, List.length_cons, List.length_nil, List.map_cons, List.map_nil, Nat.sub_self, frzAt, e_var_v, e_var_w, e_var_t, e_var_i, e_con, e_tup, e_lst, e_bin, e_neg, e_not_v, e_not_t, e_and_v, e_and_t, e_or_v, e_or_t, e_ite_v, e_ite_w, e_ite_t, e_cmp, e_cmp2, e_idx, e_slc, e_rev, e_call, e_isa, e_bi_v, e_bi_w, e_bi_t, e_rng1, e_rng2, e_join, e_count, e_ws_nil, e_ws_cons, e_s_nil, e_s_cons, e_b_nil, e_b_cons, e_B_var, e_B_con, e_B_tup, e_B_lst, e_B_bin, e_B_idx, e_B_slc, e_B_call, e_B_bi, e_B_ite, e_B_lc, e_B_rev, e_o_none, e_o_some, e_if_nil, e_if_one, e_T, e_I, x_nil, x_cons, x_asg, x_own, x_ret, x_ite, x_for, x_frz, bT_name, bT_tup, bTs_nil, bTs_cons, post_v, post_w, post_t', post_i', rb, gtrue, e_lc, it_lst, asL, hl, Pd.wip]
  rw [lcD_map (g := fun y => if (!decide (unsq y ∈ w) && nb a (unsq y)) = true then some (wk (w ++ [unsq y])) else none) fun x hx => ?_]
  · simp only [rb]
    rw [fm_map (g := fun b => if (!decide (b ∈ w) && nb a b) = true then some (wk (w ++ [b])) else none) fun b _ => by rw [unsq_sq], fm_filter]
    unfold ons nbs
    rw [ha]
    simp only [List.map_map, List.filter_filter]
    rfl
  · obtain ⟨b, hb, rfl⟩ := List.mem_map.mp hx
    simp only [tr_b, as_b, decide_true, ite_true, ite_false, Bool.false_eq_true, rd, rdW, rdB, List.getElem?_cons_zero, List.getElem?_cons_succ, List.set_cons_zero, List.set_cons_succ, List.replicate, List.cons_append, List.nil_append, List.append_nil, List.length_cons, List.length_nil, List.map_cons, List.map_nil, Nat.sub_self, frzAt, e_var_v, e_var_w, e_var_t, e_var_i, e_con, e_tup, e_lst, e_bin, e_neg, e_not_v, e_not_t, e_and_v, e_and_t, e_or_v, e_or_t, e_ite_v, e_ite_w, e_ite_t, e_cmp, e_cmp2, e_idx, e_slc, e_rev, e_call, e_isa, e_bi_v, e_bi_w, e_bi_t, e_rng1, e_rng2, e_join, e_count, e_ws_nil, e_ws_cons, e_s_nil, e_s_cons, e_b_nil, e_b_cons, e_B_var, e_B_con, e_B_tup, e_B_lst, e_B_bin, e_B_idx, e_B_slc, e_B_call, e_B_bi, e_B_ite, e_B_lc, e_B_rev, e_o_none, e_o_some, e_if_nil, e_if_one, e_T, e_I, x_nil, x_cons, x_asg, x_own, x_ret, x_ite, x_for, x_frz, bT_name, bT_tup, bTs_nil, bTs_cons, post_v, post_w, post_t', post_i', rb, gtrue, e_not_in, in_wk, unsq_sq, asB, d1lim, asI, wk_last ha, m_near, wk_add hw]
    cases decide (b ∈ w)
    · simp only [Bool.not_false, tr_b, as_b, decide_true, ite_true, ite_false, Bool.false_eq_true, rd, rdW, rdB, List.getElem?_cons_zero, List.getElem?_cons_succ, List.set_cons_zero, List.set_cons_succ, List.replicate, List.cons_append, List.nil_append, List.append_nil, List.length_cons, List.length_nil, List.map_cons, List.map_nil, Nat.sub_self, frzAt, e_var_v, e_var_w, e_var_t, e_var_i, e_con, e_tup, e_lst, e_bin, e_neg, e_not_v, e_not_t, e_and_v, e_and_t, e_or_v, e_or_t, e_ite_v, e_ite_w, e_ite_t, e_cmp, e_cmp2, e_idx, e_slc, e_rev, e_call, e_isa, e_bi_v, e_bi_w, e_bi_t, e_rng1, e_rng2, e_join, e_count, e_ws_nil, e_ws_cons, e_s_nil, e_s_cons, e_b_nil, e_b_cons, e_B_var, e_B_con, e_B_tup, e_B_lst, e_B_bin, e_B_idx, e_B_slc, e_B_call, e_B_bi, e_B_ite, e_B_lc, e_B_rev, e_o_none, e_o_some, e_if_nil, e_if_one, e_T, e_I, x_nil, x_cons, x_asg, x_own, x_ret, x_ite, x_for, x_frz, bT_name, bT_tup, bTs_nil, bTs_cons, post_v, post_w, post_t', post_i', rb, gtrue, asI, wk_last ha, m_near, asB, Bool.true_and]
      cases nb a b <;> rfl
    · rfl
def lcB : List S := [.frz 5, .frz 2, .asg (.name 5) (.call 15 [(.lc (.name 8) [8] (.var 5) [] (.lc (.name 6) [6] (.var 2) [(.and (.cmp .NotIn (.var 6) (.var 8)) (.call 19 [(.idx (.var 8) (.neg (.con (.int (1))))), (.var 6)]))] (.bin .Add (.var 8) (.tup [(.var 6)]))))])]
def lcI (rows : List Str) (n : Int) (r c : Nat) (done : List D) : Env :=
  [some (.v (tbl rows)), some (.v (.int n)), some (.v (.list ((sqs r c).map sq))), none, none, if done.isEmpty then some (.own (wks (walks r c 0))) else some (.v (wks (walks r c done.length))), none, done.getLast?.map B.v, none]
theorem m_step (k : Nat) {r c : Nat} {ws : List (List Sq)} (hw : ∀ w ∈ ws, w ≠ [] ∧ w.length ≤ 1000) (hq : r * c ≤ lim) (hws : ws.length ≤ lim) (hb : (longer r c ws).length ≤ lim) {x0 x1 x3 x4 x7 : Option B} :
    ev (callN tab (k + 1)) .v (.call 15 [(.lc (.name 8) [8] (.var 5) [] (.lc (.name 6) [6] (.var 2) [(.and (.cmp .NotIn (.var 6) (.var 8)) (.call 19 [(.idx (.var 8) (.neg (.con (.int (1))))), (.var 6)]))] (.bin .Add (.var 8) (.tup [(.var 6)]))))]) [x0, x1, some (.v (.list ((sqs r c).map sq))), x3, x4, some (.v (wks ws)), none, x7, none] = .ret (wks (longer r c ws)) := by
  have hl : decide ((ws.map wk).length ≤ lim) = true := by
    rw [List.length_map]; exact decide_eq_true hws
  have hi : items (wks ws) = .ret (ws.map wk) := id rfl
  have core : ev (callN tab (k + 1)) .v (.lc (.name 8) [8] (.var 5) [] (.lc (.name 6) [6] (.var 2) [(.and (.cmp .NotIn (.var 6) (.var 8)) (.call 19 [(.idx (.var 8) (.neg (.con (.int (1))))), (.var 6)]))] (.bin .Add (.var 8) (.tup [(.var 6)])))) [x0, x1, some (.v (.list ((sqs r c).map sq))), x3, x4, some (.v (wks ws)), none, x7, none] = .ret (.list ((ws.map fun w => (ons r c w).map wk).map .list)) := by
    rw [e_lc]
    simp only [e_I, e_var_i, rd, List.getElem?_cons_zero, List.getElem?_cons_succ, post_i', hi, rb, asL, hl, gtrue, Pd.wip, bT_name, List.set_cons_zero, List.set_cons_succ, e_if_nil, ite_true, post_v]
    rw [lcD_map (g := fun y => some (.list ((ons r c (unwk y)).map wk))) fun x hx => ?_]
    · rw [fm_some, List.map_map, List.map_map]
      simp only [rb]
      congr 2
      refine map_eq fun w _ => ?_
      show PyData.list ((ons r c (unwk (wk w))).map wk) = _
      rw [unwk_wk]
      rfl
    · obtain ⟨w, hmem, rfl⟩ := List.mem_map.mp hx
      obtain ⟨h1, h2⟩ := hw w hmem
      rw [lc_row k (List.getLast?_eq_getLast h1) h2 hq, unwk_wk]
      rfl
  have fl : (ws.map fun w => (ons r c w).map wk).flatten = (longer r c ws).map wk := by
    unfold longer
    rw [List.map_flatMap, List.flatMap_def]
  rw [e_call, e_b_cons, e_B_lc, core]
  simp only [rb, e_b_nil, post_v]
  rw [m_flat k (by rw [fl, List.length_map]; exact hb), fl]
  rfl
theorem flat_sqs (r c : Nat) : ((List.range r).map fun i => ((List.range c).map fun j => sq (i, j))).flatten = (sqs r c).map sq := by
  unfold sqs
  rw [List.map_flatMap, List.flatMap_def]
  congr 1
  refine map_eq fun i _ => ?_
  rw [List.map_map]
  rfl
theorem m_lcount (k : Nat) {rows : List Str} {r c : Nat} (t : Tb rows r c) {m : Nat} (h9 : r * c ≤ 9) (hm : m ≤ 5) : callN tab (k + 2) 20 [.v (tbl rows), .v (.int ((m : Int) + 1))] = .ret (wks (walks r c m)) := by
  show runF (callN tab (k + 1)) ⟨2, 9, b__law_count⟩ [.v (tbl rows), .v (.int ((m : Int) + 1))] = _
  rw [runF_eq (show ([B.v (tbl rows), B.v (.int ((m : Int) + 1))] : List B).length = 2 from rfl)]
  obtain ⟨r0, _, hc, h0⟩ := t.first
  have l2 : r0.length ≤ lim := by rw [hc]; exact Nat.le_trans t.c4 (by rw [lim_eq']; decide)
  have hq : r * c ≤ lim := Nat.le_trans h9 (by rw [lim_eq']; decide)
  have hl : decide (((sqs r c).map sq).length ≤ lim) = true := by
    rw [List.length_map, len_sqs]
    exact decide_eq_true hq
  have rl : decide (r ≤ lim) = true := decide_eq_true (Nat.le_trans t.r4 (by rw [lim_eq']; decide))
  have cl : decide (c ≤ lim) = true := decide_eq_true (Nat.le_trans t.c4 (by rw [lim_eq']; decide))
  have squares : ev (callN tab (k + 1)) .v (.call 15 [(.lc (.name 4) [4] (.bi .range [(.bi .len [(.var 0)])]) [] (.lc (.name 3) [3] (.bi .range [(.bi .len [(.idx (.var 0) (.con (.int (0))))])]) [] (.tup [(.var 4), (.var 3)])))]) [some (.v (tbl rows)), some (.v (.int ((m : Int) + 1))), none, none, none, none, none, none, none] = .ret (.list ((sqs r c).map sq)) := by
    rw [e_call, e_b_cons, e_B_lc, e_lc]
    simp only [e_I, e_rng1, e_bi_v, e_ws_cons, e_ws_nil, e_var_w, rdW, List.getElem?_cons_zero, len_tbl, t.hr, asI, rb, near_nat t.r4, gtrue, Int.toNat_natCast, asL, rng_len, rl, Pd.wip, bT_name, List.set_cons_zero, List.set_cons_succ, e_if_nil, ite_true, post_v]
    rw [lcD_map (g := onI none fun i => some (.list ((List.range c).map fun j => sq (i, j)))) fun x hx => ?_]
    · simp only [rb, e_b_nil]
      rw [rng_0, List.filterMap_map]
      have e1 : (List.range r).filterMap ((onI none fun i => some (PyData.list ((List.range c).map fun j => sq (i, j)))) ∘ fun (i : Nat) => PyData.int (i : Int)) = ((List.range r).map fun i => (List.range c).map fun j => sq (i, j)).map .list := by
        rw [List.map_map, ← fm_some]
        rfl
      rw [e1, m_flat k (by rw [flat_sqs, List.length_map, len_sqs]; exact hq), flat_sqs]
    · obtain ⟨i, hi, rfl⟩ := rng_mem hx
      simp only [tr_b, as_b, decide_true, ite_true, ite_false, Bool.false_eq_true, rd, rdW, rdB, List.getElem?_cons_zero, List.getElem?_cons_succ, List.set_cons_zero, List.set_cons_succ, List.replicate, List.cons_append, List.nil_append, List.append_nil, List.length_cons, List.length_nil, List.map_cons, List.map_nil, Nat.sub_self, frzAt, e_var_v, e_var_w, e_var_t, e_var_i, e_con, e_tup, e_lst, e_bin, e_neg, e_not_v, e_not_t, e_and_v, e_and_t, e_or_v, e_or_t, e_ite_v, e_ite_w, e_ite_t, e_cmp, e_cmp2, e_idx, e_slc, e_rev, e_call, e_isa, e_bi_v, e_bi_w, e_bi_t, e_rng1, e_rng2, e_join, e_count, e_ws_nil, e_ws_cons, e_s_nil, e_s_cons, e_b_nil, e_b_cons, e_B_var, e_B_con, e_B_tup, e_B_lst, e_B_bin, e_B_idx, e_B_slc, e_B_call, e_B_bi, e_B_ite, e_B_lc, e_B_rev, e_o_none, e_o_some, e_if_nil, e_if_one, e_T, e_I, x_nil, x_cons, x_asg, x_own, x_ret, x_ite, x_for, x_frz, bT_name, bT_tup, bTs_nil, bTs_cons, post_v, post_w, post_t', post_i', rb, gtrue, e_lc, h0, len_str l2, hc, asI, asL, near_nat t.c4, rng_len, Int.toNat_natCast, Pd.wip, cl, d2lim]
      rw [lcD_map (g := fun y => some (.tuple [.int (i : Int), y])) fun y _ => rfl, fm_some, rng_0, List.map_map]
      rfl
  have own : ev (callN tab (k + 1)) .v (.lc (.name 6) [6] (.var 2) [] (.tup [(.var 6)])) [some (.v (tbl rows)), some (.v (.int ((m : Int) + 1))), some (.v (.list ((sqs r c).map sq))), none, none, none, none, none, none] = .ret (wks (walks r c 0)) := by
    simp only [tr_b, as_b, decide_true, ite_true, ite_false, Bool.false_eq_true, rd, rdW, rdB, List.getElem?_cons_zero, List.getElem?_cons_succ, List.set_cons_zero, List.set_cons_succ, List.replicate, List.cons_append, List.nil_append, List.append_nil, List.length_cons, List.length_nil, List.map_cons, List.map_nil, Nat.sub_self, frzAt, e_var_v, e_var_w, e_var_t, e_var_i, e_con, e_tup, e_lst, e_bin, e_neg, e_not_v, e_not_t, e_and_v, e_and_t, e_or_v, e_or_t, e_ite_v, e_ite_w, e_ite_t, e_cmp, e_cmp2, e_idx, e_slc, e_rev, e_call, e_isa, e_bi_v, e_bi_w, e_bi_t, e_rng1, e_rng2, e_join, e_count, e_ws_nil, e_ws_cons, e_s_nil, e_s_cons, e_b_nil, e_b_cons, e_B_var, e_B_con, e_B_tup, e_B_lst, e_B_bin, e_B_idx, e_B_slc, e_B_call, e_B_bi, e_B_ite, e_B_lc, e_B_rev, e_o_none, e_o_some, e_if_nil, e_if_one, e_T, e_I, x_nil, x_cons, x_asg, x_own, x_ret, x_ite, x_for, x_frz, bT_name, bT_tup, bTs_nil, bTs_cons, post_v, post_w, post_t', post_i', rb, gtrue, e_lc, it_lst, asL, hl, Pd.wip, d1lim]
    rw [lcD_map (g := fun y => some (.tuple [y])) fun x hx => rfl, fm_some, List.map_map]
    show Tree.ret _ = Tree.ret (PyData.list (((sqs r c).map fun a => [a]).map wk))
    rw [List.map_map]
    rfl
  have loop := forD_run (f := fun x ρ' => bindT (.name 7) x ρ' >>= fun ρ2 => exs (callN tab (k + 1)) lcB ρ2)
    (I := lcI rows ((m : Int) + 1) r c) (xs := rng 0 m) (done := []) fun a x b e => by
      have hlen : a.length < m := by
        have := congrArg List.length e
        rw [rng_len, List.length_append, List.length_cons] at this
        omega
      have call := fun x0 x1 x3 x4 x7 => m_step k (r := r) (c := c) (ws := walks r c a.length) (x0 := x0) (x1 := x1) (x3 := x3) (x4 := x4) (x7 := x7) (fun w hw => by
        have := walks_len hw
        exact ⟨fun z => by rw [z] at this; simp at this, by omega⟩) hq (Nat.le_trans (walks_few (r := r) (c := c) a.length) (lim_pow h9 (by omega))) (by
        refine Nat.le_trans (walks_few (r := r) (c := c) (a.length + 1)) (lim_pow h9 (by omega)))
      have hstep : longer r c (walks r c a.length) = walks r c (a.length + 1) := rfl
      rw [hstep] at call
      rw [List.nil_append]
      unfold lcI lcB
      cases a with
      | nil =>
        simp only [bT_name, rb, x_cons, x_nil, x_frz, x_asg, frzAt, List.set_cons_zero, List.set_cons_succ, List.getElem?_cons_zero, List.getElem?_cons_succ, List.isEmpty_nil, ite_true, List.length_nil] at call ⊢
        rw [call]
        rfl
      | cons a0 a =>
        have gl : (a0 :: (a ++ [x])).getLast? = some x := by rw [← List.cons_append, List.getLast?_append]; rfl
        simp only [bT_name, rb, x_cons, x_nil, x_frz, x_asg, frzAt, List.set_cons_zero, List.set_cons_succ, List.getElem?_cons_zero, List.getElem?_cons_succ, List.isEmpty_cons, Bool.false_eq_true, ite_false, List.cons_append, List.length_cons] at call ⊢
        rw [call]
        simp only [rb, bT_name, gl, Option.map_some, List.length_append, List.length_cons, List.length_nil, Nat.zero_add, List.set_cons_zero, List.set_cons_succ]
  have hn : near62 (((m : Int) + 1) - 1) = true := by
    have : ((m : Int) + 1) - 1 = ((m : Nat) : Int) := by omega
    rw [this]
    exact near_nat (by omega)
  have hm2 : (((m : Int) + 1) - 1).toNat = m := by omega
  show (exs (callN tab (k + 1)) [.asg (.name 2) (.call 15 [(.lc (.name 4) [4] (.bi .range [(.bi .len [(.var 0)])]) [] (.lc (.name 3) [3] (.bi .range [(.bi .len [(.idx (.var 0) (.con (.int (0))))])]) [] (.tup [(.var 4), (.var 3)])))]), .frz 2, .own 5 (.lc (.name 6) [6] (.var 2) [] (.tup [(.var 6)])), .frz 1, .for_ (.name 7) (.bi .range [(.bin .Sub (.var 1) (.con (.int (1))))]) lcB, .frz 5, .ret (.var 5)] _ >>= _) = _
  rw [x_cons, x_asg]
  simp only [List.map_cons, List.map_nil, List.replicate, List.cons_append, List.nil_append]
  rw [squares]
  simp only [rb, bT_name, List.set_cons_zero, List.set_cons_succ]
  simp only [rb, x_cons, x_frz, frzAt, List.set_cons_zero, List.set_cons_succ, List.getElem?_cons_zero, List.getElem?_cons_succ, x_own, own, x_for, e_I, e_rng1, e_bin, e_var_v, rd, e_con, post_v, b_sub, asI, hn, hm2, gtrue, asL]
  have e0 : ([some (B.v (tbl rows)), some (B.v (PyData.int ((m : Int) + 1))), some (B.v (.list ((sqs r c).map sq))), none, none, some (B.own (wks (walks r c 0))), none, none, none] : Env) = lcI rows ((m : Int) + 1) r c [] := rfl
  rw [e0, loop, List.nil_append]
  unfold lcI
  rw [rng_len]
  cases m with
  | zero =>
    have : rng 0 0 = [] := rfl
    rw [this]
    simp only [tr_b, as_b, decide_true, ite_true, ite_false, Bool.false_eq_true, rd, rdW, rdB, List.getElem?_cons_zero, List.getElem?_cons_succ, List.set_cons_zero, List.set_cons_succ, List.replicate, List.cons_append, List.nil_append, List.append_nil, List.length_cons, List.length_nil, List.map_cons, List.map_nil, Nat.sub_self, frzAt, e_var_v, e_var_w, e_var_t, e_var_i, e_con, e_tup, e_lst, e_bin, e_neg, e_not_v, e_not_t, e_and_v, e_and_t, e_or_v, e_or_t, e_ite_v, e_ite_w, e_ite_t, e_cmp, e_cmp2, e_idx, e_slc, e_rev, e_call, e_isa, e_bi_v, e_bi_w, e_bi_t, e_rng1, e_rng2, e_join, e_count, e_ws_nil, e_ws_cons, e_s_nil, e_s_cons, e_b_nil, e_b_cons, e_B_var, e_B_con, e_B_tup, e_B_lst, e_B_bin, e_B_idx, e_B_slc, e_B_call, e_B_bi, e_B_ite, e_B_lc, e_B_rev, e_o_none, e_o_some, e_if_nil, e_if_one, e_T, e_I, x_nil, x_cons, x_asg, x_own, x_ret, x_ite, x_for, x_frz, bT_name, bT_tup, bTs_nil, bTs_cons, post_v, post_w, post_t', post_i', rb, gtrue, List.isEmpty_nil, wks]
  | succ m =>
    have : (rng 0 (m + 1)).isEmpty = false := by
      cases q : rng 0 (m + 1) with
      | nil => have := rng_len 0 (m + 1); rw [q] at this; simp at this
      | cons _ _ => rfl
    rw [this]
    simp only [tr_b, as_b, decide_true, ite_true, ite_false, Bool.false_eq_true, rd, rdW, rdB, List.getElem?_cons_zero, List.getElem?_cons_succ, List.set_cons_zero, List.set_cons_succ, List.replicate, List.cons_append, List.nil_append, List.append_nil, List.length_cons, List.length_nil, List.map_cons, List.map_nil, Nat.sub_self, frzAt, e_var_v, e_var_w, e_var_t, e_var_i, e_con, e_tup, e_lst, e_bin, e_neg, e_not_v, e_not_t, e_and_v, e_and_t, e_or_v, e_or_t, e_ite_v, e_ite_w, e_ite_t, e_cmp, e_cmp2, e_idx, e_slc, e_rev, e_call, e_isa, e_bi_v, e_bi_w, e_bi_t, e_rng1, e_rng2, e_join, e_count, e_ws_nil, e_ws_cons, e_s_nil, e_s_cons, e_b_nil, e_b_cons, e_B_var, e_B_con, e_B_tup, e_B_lst, e_B_bin, e_B_idx, e_B_slc, e_B_call, e_B_bi, e_B_ite, e_B_lc, e_B_rev, e_o_none, e_o_some, e_if_nil, e_if_one, e_T, e_I, x_nil, x_cons, x_asg, x_own, x_ret, x_ite, x_for, x_frz, bT_name, bT_tup, bTs_nil, bTs_cons, post_v, post_w, post_t', post_i', rb, gtrue]
def mk (l : List Nat) : Str := ⟨l.toArray⟩
theorem mk_len (l : List Nat) : (mk l).length = l.length := by
  show l.toArray.size = _
  exact List.size_toArray ..
theorem str_cps_inj {x y : Str} (h : x.cps.toList = y.cps.toList) : x = y := by
  cases x; cases y
  congr 1
  exact Array.toList_inj.mp h
theorem join_one : ∀ l : List Nat, Str.join (Str.ofString "") (l.map fun c => (⟨#[c]⟩ : Str)) = mk l
  | [] => rfl
  | [c] => rfl
  | c :: d :: l => by
    have ih := join_one (d :: l)
    show (⟨#[c]⟩ : Str) ++ Str.ofString "" ++ Str.join (Str.ofString "") ((d :: l).map fun c => (⟨#[c]⟩ : Str)) = _
    rw [ih]
    apply str_cps_inj
    show (#[c] ++ (Str.ofString "").cps ++ (mk (d :: l)).cps).toList = _
    have e : (Str.ofString "").cps = #[] := rfl
    rw [e]
    simp [mk]
/-- the letter at a square -/
def lt (rows : List Str) (a : Sq) : Nat := (((rows[a.1]?.map fun x => x.cps.toList).getD [])[a.2]?).getD 0
def txt (rows : List Str) (w : List Sq) : Str := mk (w.map (lt rows))
def onTab (r c : Nat) (w : List Sq) : Prop := ∀ a ∈ w, a.1 < r ∧ a.2 < c
theorem lt_at {rows : List Str} {r c : Nat} (t : Tb rows r c) {a : Sq} (h : a.1 < r ∧ a.2 < c) : ∃ x : Str, rows[a.1]? = some x ∧ x.length = c ∧ x.cps.toList[a.2]? = some (lt rows a) := by
  have h1 : a.1 < rows.length := by rw [t.hr]; exact h.1
  have hx : rows[a.1]? = some rows[a.1] := by simp [h1]
  have hc := t.hc _ (List.getElem_mem h1)
  refine ⟨_, hx, hc, ?_⟩
  have h2 : a.2 < (rows[a.1]).cps.toList.length := by
    rw [Array.length_toList]
    show a.2 < (rows[a.1]).length
    rw [hc]; exact h.2
  unfold lt
  rw [hx]
  simp only [Option.map_some, Option.getD_some]
  rw [List.getElem?_eq_getElem h2]
  rfl
theorem str_idx {x : Str} {i c : Nat} (h : x.length ≤ lim) (hi : x.cps.toList[i]? = some c) : dIdx (.str x) (.int (i : Int)) = .ret (.str ⟨#[c]⟩) := by
  show (guard (decide (x.length ≤ lim)) >>= fun _ => (match L2.atI x.cps.toList (i : Int) with | some c => Tree.ret (PyData.str ⟨#[c]⟩) | none => Tree.err)) = _
  rw [guard_of (decide_eq_true h), atI_0 hi]
theorem strsD_map : ∀ l : List Str, strsD (l.map .str) = .ret l
  | [] => rfl
  | x :: l => by
    show (strsD (l.map .str) >>= fun xs => Tree.ret (x :: xs)) = _
    rw [strsD_map l, rb]
theorem join_ones (l : List Nat) (h : l.length ≤ lim) : dMe .join (.str (Str.ofString "")) [.list ((l.map fun c => (⟨#[c]⟩ : Str)).map .str)] = .ret (.str (mk l)) := by
  show dJoin (Str.ofString "") ((l.map fun c => (⟨#[c]⟩ : Str)).map .str) = _
  unfold dJoin
  rw [strsD_map, rb]
  have e : totLen (Str.ofString "") (l.map fun c => (⟨#[c]⟩ : Str)) = l.length := by
    unfold totLen
    rw [List.map_map]
    have e1 : (Str.length ∘ fun c => (⟨#[c]⟩ : Str)) = fun _ => 1 := rfl
    have e2 : (Str.ofString "").length = 0 := rfl
    rw [e1, e2, Nat.mul_zero, Nat.add_zero]
    clear h
    induction l with
    | nil => rfl
    | cons x l ih => rw [List.map_cons, List.sum_cons, ih, List.length_cons, Nat.add_comm]
  rw [e, guard_of (decide_eq_true h)]
  have e2 : Txt.join (Str.ofString "") (l.map fun c => (⟨#[c]⟩ : Str)) = mk l := (StrLaws.glued_eq_join _ _).trans (join_one l)
  rw [e2]
theorem m_text (k : Nat) {rows : List Str} {r c : Nat} (t : Tb rows r c) {w : List Sq} (hw : onTab r c w) (hl : w.length ≤ lim) : callN tab (k + 1) 3 [.v (tbl rows), .v (wk w)] = .ret (.str (txt rows w)) := by
  show runF (callN tab k) ⟨2, 4, b_text_of⟩ [.v (tbl rows), .v (wk w)] = _
  rw [runF_eq (show ([B.v (tbl rows), B.v (wk w)] : List B).length = 2 from rfl)]
  have hl' : decide ((w.map sq).length ≤ lim) = true := by rw [List.length_map]; exact decide_eq_true hl
  have hi : items (wk w) = .ret (w.map sq) := id rfl
  have ok : meOk .join (.str (Str.ofString "")) = true := rfl
  have cl : c ≤ lim := Nat.le_trans t.c4 (by rw [lim_eq']; decide)
  unfold b_text_of
  simp only [tr_b, as_b, decide_true, ite_true, ite_false, Bool.false_eq_true, rd, rdW, rdB, List.getElem?_cons_zero, List.getElem?_cons_succ, List.set_cons_zero, List.set_cons_succ, List.replicate, List.cons_append, List.nil_append, List.append_nil, List.length_cons, List.length_nil, List.map_cons, List.map_nil, Nat.sub_self, frzAt, e_var_v, e_var_w, e_var_t, e_var_i, e_con, e_tup, e_lst, e_bin, e_neg, e_not_v, e_not_t, e_and_v, e_and_t, e_or_v, e_or_t, e_ite_v, e_ite_w, e_ite_t, e_cmp, e_cmp2, e_idx, e_slc, e_rev, e_call, e_isa, e_bi_v, e_bi_w, e_bi_t, e_rng1, e_rng2, e_join, e_count, e_ws_nil, e_ws_cons, e_s_nil, e_s_cons, e_b_nil, e_b_cons, e_B_var, e_B_con, e_B_tup, e_B_lst, e_B_bin, e_B_idx, e_B_slc, e_B_call, e_B_bi, e_B_ite, e_B_lc, e_B_rev, e_o_none, e_o_some, e_if_nil, e_if_one, e_T, e_I, x_nil, x_cons, x_asg, x_own, x_ret, x_ite, x_for, x_frz, bT_name, bT_tup, bTs_nil, bTs_cons, post_v, post_w, post_t', post_i', rb, gtrue, e_lc, hi, asL, hl', ok, Pd.wip]
  rw [lcD_map (g := fun y => some (.str ⟨#[lt rows (unsq y)]⟩)) fun x hx => ?_]
  · simp only [rb]
    rw [fm_some, List.map_map]
    have e : (w.map ((fun y => PyData.str ⟨#[lt rows (unsq y)]⟩) ∘ sq)) = ((w.map (lt rows)).map fun c => (⟨#[c]⟩ : Str)).map .str := by
      rw [List.map_map, List.map_map]
      refine map_eq fun a _ => ?_
      show PyData.str ⟨#[lt rows (unsq (sq a))]⟩ = _
      rw [unsq_sq]
      rfl
    rw [e, join_ones _ (by rw [List.length_map]; exact hl)]
    rfl
  · obtain ⟨a, ha, rfl⟩ := List.mem_map.mp hx
    obtain ⟨x, h1, h2, h3⟩ := lt_at t (hw a ha)
    have d2 : decide ([PyData.int a.1, PyData.int a.2].length = [T.name 2, T.name 3].length) = true := rfl
    rw [unsq_sq]
    unfold sq
    simp only [tr_b, as_b, decide_true, ite_true, ite_false, Bool.false_eq_true, rd, rdW, rdB, List.getElem?_cons_zero, List.getElem?_cons_succ, List.set_cons_zero, List.set_cons_succ, List.replicate, List.cons_append, List.nil_append, List.append_nil, List.length_cons, List.length_nil, List.map_cons, List.map_nil, Nat.sub_self, frzAt, e_var_v, e_var_w, e_var_t, e_var_i, e_con, e_tup, e_lst, e_bin, e_neg, e_not_v, e_not_t, e_and_v, e_and_t, e_or_v, e_or_t, e_ite_v, e_ite_w, e_ite_t, e_cmp, e_cmp2, e_idx, e_slc, e_rev, e_call, e_isa, e_bi_v, e_bi_w, e_bi_t, e_rng1, e_rng2, e_join, e_count, e_ws_nil, e_ws_cons, e_s_nil, e_s_cons, e_b_nil, e_b_cons, e_B_var, e_B_con, e_B_tup, e_B_lst, e_B_bin, e_B_idx, e_B_slc, e_B_call, e_B_bi, e_B_ite, e_B_lc, e_B_rev, e_o_none, e_o_some, e_if_nil, e_if_one, e_T, e_I, x_nil, x_cons, x_asg, x_own, x_ret, x_ite, x_for, x_frz, bT_name, bT_tup, bTs_nil, bTs_cons, post_v, post_w, post_t', post_i', rb, gtrue, d2, tbl_row h1, str_idx (by rw [h2]; exact cl) h3]
def put1 (l : List Str) (x : Str) : List Str := if x ∈ l then l else l ++ [x]
/-- each text once, as first met -/
def uniq (ts : List Str) : List Str := ts.foldl put1 []
def asD (v : D) (l : List Str) : List (D × D) := l.map fun x => (.str x, v)
theorem keyEq_str (x y : Str) : keyEq (.str x) (.str y) = decide (x = y) := rfl
theorem any_asD (v : D) (l : List Str) (y : Str) : ((asD v l).any fun p => keyEq p.1 (.str y)) = decide (y ∈ l) := by
  unfold asD
  rw [List.any_map]
  induction l with
  | nil => simp
  | cons x l ih =>
    rw [List.any_cons, ih]
    show (decide (x = y) || _) = _
    by_cases h : x = y
    · subst h; simp
    · simp [h, Ne.symm h]
theorem putD_asD (v : D) (l : List Str) (y : Str) : putD (.str y) v (asD v l) = asD v (put1 l y) := by
  unfold putD put1
  rw [any_asD]
  by_cases h : y ∈ l
  · rw [if_pos (decide_eq_true h), if_pos h]
    unfold asD
    rw [List.map_map]
    refine map_eq fun x _ => ?_
    show (if keyEq (.str x) (.str y) = true then (PyData.str x, v) else (.str x, v)) = _
    split <;> rfl
  · rw [if_neg (by simpa using h), if_neg h]
    unfold asD
    rw [List.map_append]
    rfl
theorem putAll_asD (v : D) : ∀ (ts : List Str) (l : List Str), putAll (asD v l) (asD v ts) = asD v (ts.foldl put1 l)
  | [], l => rfl
  | x :: ts, l => by
    show putAll (putD (.str x) v (asD v l)) (asD v ts) = _
    rw [putD_asD, putAll_asD v ts]
    rfl
theorem mem_put1 {l : List Str} {x y : Str} : y ∈ put1 l x ↔ y ∈ l ∨ y = x := by
  unfold put1
  split
  · rename_i h
    constructor
    · exact .inl
    · rintro (h' | rfl)
      · exact h'
      · exact h
  · rw [List.mem_append, List.mem_singleton]
theorem mem_fold {x : Str} : ∀ {ts l : List Str}, x ∈ ts.foldl put1 l ↔ x ∈ l ∨ x ∈ ts
  | [], l => by simp
  | y :: ts, l => by
    rw [List.foldl_cons, mem_fold, mem_put1, List.mem_cons, or_assoc]
theorem mem_uniq {x : Str} {ts : List Str} : x ∈ uniq ts ↔ x ∈ ts := by
  unfold uniq
  rw [mem_fold]
  simp
theorem len_fold : ∀ (ts l : List Str), (ts.foldl put1 l).length ≤ l.length + ts.length
  | [], l => by simp
  | y :: ts, l => by
    rw [List.foldl_cons]
    have h1 := len_fold ts (put1 l y)
    have h2 : (put1 l y).length ≤ l.length + 1 := by
      unfold put1
      split <;> simp
    rw [List.length_cons]
    omega
theorem len_uniq (ts : List Str) : (uniq ts).length ≤ ts.length := by
  have := len_fold ts []
  simpa [uniq] using this
def srt (l : List Str) : List D := (l.map PyData.str).mergeSort (W.dataLe false id)
theorem sortable_str (l : List Str) : sortable (l.map PyData.str) = true := by
  unfold sortable
  rw [Bool.and_eq_true, Bool.and_eq_true]
  refine ⟨⟨?_, ?_⟩, ?_⟩
  · rw [List.all_eq_true]
    intro a ha
    rw [List.all_eq_true]
    intro b hb
    obtain ⟨x, _, rfl⟩ := List.mem_map.mp ha
    obtain ⟨y, _, rfl⟩ := List.mem_map.mp hb
    simp [W.alike]
  · rw [List.all_eq_true]
    intro a ha
    obtain ⟨x, _, rfl⟩ := List.mem_map.mp ha
    simp [PyData.depth]
  · rw [Bool.or_eq_true]
    refine .inr ?_
    rw [List.all_eq_true]
    intro a ha
    obtain ⟨x, _, rfl⟩ := List.mem_map.mp ha
    rfl
theorem dSort_str {l : List Str} (h : l.length ≤ lim) : dSort false (l.map PyData.str) = .ret (srt l) := by
  unfold dSort
  rw [sortable_str, guard_of (by rw [List.length_map, decide_eq_true h]; rfl)]
  rfl
theorem sorted_asD {v : D} {l : List Str} (h : l.length ≤ lim) : dBi .sorted [.dict (asD v l)] = .ret (.list (srt l)) := by
  show (dSort false ((asD v l).map (·.1)) >>= fun ys => Tree.ret (PyData.list ys)) = _
  have e : (asD v l).map (·.1) = l.map PyData.str := by unfold asD; rw [List.map_map]; rfl
  rw [e, dSort_str h, rb]
theorem mem_srt {l : List Str} {d : D} : d ∈ srt l ↔ ∃ x, x ∈ l ∧ d = .str x := by
  unfold srt
  rw [(List.mergeSort_perm _ _).mem_iff, List.mem_map]
  constructor
  · rintro ⟨x, h, rfl⟩; exact ⟨x, h, rfl⟩
  · rintro ⟨x, h, rfl⟩; exact ⟨x, h, rfl⟩
theorem e_dc (Φ : Phi) (ρ : Env) (m : Md) (t : T) (vs : List Nat) (it : E) (ifs : List E) (kx vx : E) : ev Φ m (.dc t vs it ifs kx vx) ρ = post m (do
    let xs ← evI Φ it ρ
    guard (decide (xs.length ≤ lim))
    let ps ← lcD (fun x => do let ρ' ← bindT t x (wip ρ vs); let b ← evIfs Φ ifs ρ'; if b then let kd ← ev Φ .v kx ρ'; let vd ← ev Φ .v vx ρ'; guard (isKey kd); .ret (some (kd, vd)) else .ret none) xs
    .ret (.dict (putAll [] ps))) := by
  rw [← ev_dc]
  cases m <;> rfl
theorem ons_on {r c : Nat} {w v : List Sq} (hw : onTab r c w) (h : v ∈ ons r c w) : onTab r c v := by
  unfold ons at h
  split at h
  · rename_i a ha
    obtain ⟨b, hb, rfl⟩ := List.mem_map.mp h
    have hb := (List.mem_filter.mp hb).1
    unfold nbs at hb
    have hb := mem_sqs.mp (List.mem_filter.mp hb).1
    intro z hz
    rcases List.mem_append.mp hz with hz | hz
    · exact hw z hz
    · rw [List.mem_singleton.mp hz]; exact hb
  · cases h
theorem walks_on {r c : Nat} : ∀ {m : Nat} {w : List Sq}, w ∈ walks r c m → onTab r c w
  | 0, w, h => by
    obtain ⟨a, ha, rfl⟩ := List.mem_map.mp h
    intro z hz
    rw [List.mem_singleton.mp hz]
    exact mem_sqs.mp ha
  | m + 1, w, h => by
    obtain ⟨v, hv, h⟩ := List.mem_flatMap.mp h
    exact ons_on (walks_on hv) h
/-- the texts of the walks of m + 1 squares, each once -/
def texts (rows : List Str) (r c m : Nat) : List Str := uniq ((walks r c m).map (txt rows))
theorem fmP {f : D → Option (D × D)} {rows : List Str} {v : D} : ∀ {ws : List (List Sq)}, (∀ w ∈ ws, f (wk w) = some (.str (txt rows w), v)) → (ws.map wk).filterMap f = asD v (ws.map (txt rows))
  | [], _ => rfl
  | w :: ws, h => by
    rw [List.map_cons, List.filterMap_cons, h w List.mem_cons_self, fmP fun x hx => h x (List.mem_cons_of_mem _ hx)]
    rfl
theorem m_texts (k : Nat) {rows : List Str} {r c : Nat} (t : Tb rows r c) {m : Nat} (h9 : r * c ≤ 9) (hm : m ≤ 5) : callN tab (k + 5) 7 [.v (tbl rows), .v (.int ((m : Int) + 1))] = .ret (.tuple (srt (texts rows r c m))) := by
  show runF (callN tab (k + 4)) ⟨2, 3, b_texts_of_length⟩ [.v (tbl rows), .v (.int ((m : Int) + 1))] = _
  rw [runF_eq (show ([B.v (tbl rows), B.v (.int ((m : Int) + 1))] : List B).length = 2 from rfl)]
  have few : (walks r c m).length ≤ lim := Nat.le_trans (walks_few m) (lim_pow h9 (by omega))
  have hl : decide (((walks r c m).map wk).length ≤ lim) = true := by rw [List.length_map]; exact decide_eq_true few
  have hi : items (wks (walks r c m)) = .ret ((walks r c m).map wk) := id rfl
  have dc : ∀ ρ, ρ = ([some (.v (tbl rows)), some (.v (.int ((m : Int) + 1))), none] : Env) → ev (callN tab (k + 4)) .w (.dc (.name 2) [2] (.call 5 [(.var 0), (.var 1)]) [] (.call 3 [(.var 0), (.var 2)]) (.con (.bool true))) ρ = .ret (.dict (asD (.bool true) (texts rows r c m))) := by
    rintro ρ rfl
    simp only [tr_b, as_b, decide_true, ite_true, ite_false, Bool.false_eq_true, rd, rdW, rdB, List.getElem?_cons_zero, List.getElem?_cons_succ, List.set_cons_zero, List.set_cons_succ, List.replicate, List.cons_append, List.nil_append, List.append_nil, List.length_cons, List.length_nil, List.map_cons, List.map_nil, Nat.sub_self, frzAt, e_var_v, e_var_w, e_var_t, e_var_i, e_con, e_tup, e_lst, e_bin, e_neg, e_not_v, e_not_t, e_and_v, e_and_t, e_or_v, e_or_t, e_ite_v, e_ite_w, e_ite_t, e_cmp, e_cmp2, e_idx, e_slc, e_rev, e_call, e_isa, e_bi_v, e_bi_w, e_bi_t, e_rng1, e_rng2, e_join, e_count, e_ws_nil, e_ws_cons, e_s_nil, e_s_cons, e_b_nil, e_b_cons, e_B_var, e_B_con, e_B_tup, e_B_lst, e_B_bin, e_B_idx, e_B_slc, e_B_call, e_B_bi, e_B_ite, e_B_lc, e_B_rev, e_o_none, e_o_some, e_if_nil, e_if_one, e_T, e_I, x_nil, x_cons, x_asg, x_own, x_ret, x_ite, x_for, x_frz, bT_name, bT_tup, bTs_nil, bTs_cons, post_v, post_w, post_t', post_i', rb, gtrue, e_dc, m_walks k t h9 hm, hi, asL, hl, Pd.wip]
    rw [lcP_map (g := fun y => some (.str (txt rows (unwk y)), .bool true)) fun x hx => ?_]
    · simp only [rb]
      rw [fmP (rows := rows) (v := .bool true) fun w _ => by rw [unwk_wk]]
      have := putAll_asD (.bool true) ((walks r c m).map (txt rows)) []
      rw [show asD (.bool true) [] = [] from rfl] at this
      rw [this]
      rfl
    · obtain ⟨w, hw, rfl⟩ := List.mem_map.mp hx
      have wl := walks_len hw
      rw [m_text (k + 3) t (walks_on hw) (by rw [wl, lim_eq']; omega), unwk_wk]
      rfl
  unfold b_texts_of_length
  simp only [tr_b, as_b, decide_true, ite_true, ite_false, Bool.false_eq_true, rd, rdW, rdB, List.getElem?_cons_zero, List.getElem?_cons_succ, List.set_cons_zero, List.set_cons_succ, List.replicate, List.cons_append, List.nil_append, List.append_nil, List.length_cons, List.length_nil, List.map_cons, List.map_nil, Nat.sub_self, frzAt, e_var_v, e_var_w, e_var_t, e_var_i, e_con, e_tup, e_lst, e_bin, e_neg, e_not_v, e_not_t, e_and_v, e_and_t, e_or_v, e_or_t, e_ite_v, e_ite_w, e_ite_t, e_cmp, e_cmp2, e_idx, e_slc, e_rev, e_call, e_isa, e_bi_v, e_bi_w, e_bi_t, e_rng1, e_rng2, e_join, e_count, e_ws_nil, e_ws_cons, e_s_nil, e_s_cons, e_b_nil, e_b_cons, e_B_var, e_B_con, e_B_tup, e_B_lst, e_B_bin, e_B_idx, e_B_slc, e_B_call, e_B_bi, e_B_ite, e_B_lc, e_B_rev, e_o_none, e_o_some, e_if_nil, e_if_one, e_T, e_I, x_nil, x_cons, x_asg, x_own, x_ret, x_ite, x_for, x_frz, bT_name, bT_tup, bTs_nil, bTs_cons, post_v, post_w, post_t', post_i', rb, gtrue, dc _ rfl]
  have few2 : (texts rows r c m).length ≤ lim := Nat.le_trans (len_uniq _) (by rw [List.length_map]; exact few)
  rw [sorted_asD few2]
  simp only [rb, bi_tup_lst]
theorem isa_int (i : Int) : isa (.int i) "tuple" = false ∧ isa (.int i) "list" = false ∧ isa (.int i) "bool" = false ∧ isa (.int i) "int" = true ∧ isa (.int i) "str" = false := ⟨rfl, rfl, rfl, rfl, rfl⟩
theorem isa_str (x : Str) : isa (.str x) "tuple" = false ∧ isa (.str x) "list" = false ∧ isa (.str x) "bool" = false ∧ isa (.str x) "int" = false ∧ isa (.str x) "str" = true := ⟨rfl, rfl, rfl, rfl, rfl⟩
theorem isa_tup (xs : List D) : isa (.tuple xs) "tuple" = true ∧ isa (.tuple xs) "list" = false := ⟨rfl, rfl⟩
theorem c_eq (x y : D) : dCmp .Eq x y = dEq x y := id rfl
theorem dEq_int (i j : Int) : dEq (.int i) (.int j) = .ret (decide (i = j)) := id rfl
theorem dEq_str (x y : Str) : dEq (.str x) (.str y) = .ret (decide (x = y)) := id rfl
theorem m_same_int (k : Nat) (i j : Int) : callN tab (k + 1) 17 [.v (.int i), .v (.int j)] = .ret (.bool (decide (i = j))) := by
  show runF (callN tab k) ⟨2, 3, b__law_same⟩ [.v (.int i), .v (.int j)] = _
  rw [runF_eq (show ([B.v (.int i), B.v (.int j)] : List B).length = 2 from rfl)]
  obtain ⟨a1, a2, a3, a4, a5⟩ := isa_int i
  obtain ⟨b1, b2, b3, b4, b5⟩ := isa_int j
  unfold b__law_same
  simp only [tr_b, as_b, decide_true, ite_true, ite_false, Bool.false_eq_true, rd, rdW, rdB, List.getElem?_cons_zero, List.getElem?_cons_succ, List.set_cons_zero, List.set_cons_succ, List.replicate, List.cons_append, List.nil_append, List.append_nil, List.length_cons, List.length_nil, List.map_cons, List.map_nil, Nat.sub_self, frzAt, e_var_v, e_var_w, e_var_t, e_var_i, e_con, e_tup, e_lst, e_bin, e_neg, e_not_v, e_not_t, e_and_v, e_and_t, e_or_v, e_or_t, e_ite_v, e_ite_w, e_ite_t, e_cmp, e_cmp2, e_idx, e_slc, e_rev, e_call, e_isa, e_bi_v, e_bi_w, e_bi_t, e_rng1, e_rng2, e_join, e_count, e_ws_nil, e_ws_cons, e_s_nil, e_s_cons, e_b_nil, e_b_cons, e_B_var, e_B_con, e_B_tup, e_B_lst, e_B_bin, e_B_idx, e_B_slc, e_B_call, e_B_bi, e_B_ite, e_B_lc, e_B_rev, e_o_none, e_o_some, e_if_nil, e_if_one, e_T, e_I, x_nil, x_cons, x_asg, x_own, x_ret, x_ite, x_for, x_frz, bT_name, bT_tup, bTs_nil, bTs_cons, post_v, post_w, post_t', post_i', rb, gtrue, a1, a2, a3, a4, a5, b1, b2, b3, b4, b5, asB, c_eq, dEq_int]
theorem m_same_str (k : Nat) (x y : Str) : callN tab (k + 1) 17 [.v (.str x), .v (.str y)] = .ret (.bool (decide (x = y))) := by
  show runF (callN tab k) ⟨2, 3, b__law_same⟩ [.v (.str x), .v (.str y)] = _
  rw [runF_eq (show ([B.v (.str x), B.v (.str y)] : List B).length = 2 from rfl)]
  obtain ⟨a1, a2, a3, a4, a5⟩ := isa_str x
  obtain ⟨b1, b2, b3, b4, b5⟩ := isa_str y
  unfold b__law_same
  simp only [tr_b, as_b, decide_true, ite_true, ite_false, Bool.false_eq_true, rd, rdW, rdB, List.getElem?_cons_zero, List.getElem?_cons_succ, List.set_cons_zero, List.set_cons_succ, List.replicate, List.cons_append, List.nil_append, List.append_nil, List.length_cons, List.length_nil, List.map_cons, List.map_nil, Nat.sub_self, frzAt, e_var_v, e_var_w, e_var_t, e_var_i, e_con, e_tup, e_lst, e_bin, e_neg, e_not_v, e_not_t, e_and_v, e_and_t, e_or_v, e_or_t, e_ite_v, e_ite_w, e_ite_t, e_cmp, e_cmp2, e_idx, e_slc, e_rev, e_call, e_isa, e_bi_v, e_bi_w, e_bi_t, e_rng1, e_rng2, e_join, e_count, e_ws_nil, e_ws_cons, e_s_nil, e_s_cons, e_b_nil, e_b_cons, e_B_var, e_B_con, e_B_tup, e_B_lst, e_B_bin, e_B_idx, e_B_slc, e_B_call, e_B_bi, e_B_ite, e_B_lc, e_B_rev, e_o_none, e_o_some, e_if_nil, e_if_one, e_T, e_I, x_nil, x_cons, x_asg, x_own, x_ret, x_ite, x_for, x_frz, bT_name, bT_tup, bTs_nil, bTs_cons, post_v, post_w, post_t', post_i', rb, gtrue, a1, a2, a3, a4, a5, b1, b2, b3, b4, b5, asB, c_eq, dEq_str]
theorem bools_map : ∀ l : List Bool, bools (l.map .bool) = .ret l
  | [] => rfl
  | x :: l => by
    show (bools (l.map .bool) >>= fun xs => Tree.ret (x :: xs)) = _
    rw [bools_map l, rb]
theorem bi_all (l : List Bool) : dBi .all [.list (l.map .bool)] = .ret (.bool (l.all id)) := by
  show (bools (l.map .bool) >>= fun bs => Tree.ret (PyData.bool (bs.all id))) = _
  rw [bools_map, rb]
/-- a tuple of texts is the same as itself -/
theorem m_same_self (k : Nat) {ds : List D} (hs : ∀ d ∈ ds, ∃ x, d = .str x) (hl : ds.length ≤ 4096) : callN tab (k + 2) 17 [.v (.tuple ds), .v (.tuple ds)] = .ret (.bool true) := by
  show runF (callN tab (k + 1)) ⟨2, 3, b__law_same⟩ [.v (.tuple ds), .v (.tuple ds)] = _
  rw [runF_eq (show ([B.v (.tuple ds), B.v (.tuple ds)] : List B).length = 2 from rfl)]
  obtain ⟨a1, a2⟩ := isa_tup ds
  have ll : decide (ds.length ≤ lim) = true := decide_eq_true (Nat.le_trans hl (by rw [lim_eq']; decide))
  have eqs : decide ((ds.length : Int) = (ds.length : Int)) = true := decide_eq_true rfl
  have core : ev (callN tab (k + 1)) .w (.lc (.name 2) [2] (.bi .range [(.bi .len [(.var 0)])]) [] (.call 17 [(.idx (.var 0) (.var 2)), (.idx (.var 1) (.var 2))])) [some (.v (.tuple ds)), some (.v (.tuple ds)), none] = .ret (.list ((List.replicate ds.length true).map .bool)) := by
    simp only [tr_b, as_b, decide_true, ite_true, ite_false, Bool.false_eq_true, rd, rdW, rdB, List.getElem?_cons_zero, List.getElem?_cons_succ, List.set_cons_zero, List.set_cons_succ, List.replicate, List.cons_append, List.nil_append, List.append_nil, List.length_cons, List.length_nil, List.map_cons, List.map_nil, Nat.sub_self, frzAt, e_var_v, e_var_w, e_var_t, e_var_i, e_con, e_tup, e_lst, e_bin, e_neg, e_not_v, e_not_t, e_and_v, e_and_t, e_or_v, e_or_t, e_ite_v, e_ite_w, e_ite_t, e_cmp, e_cmp2, e_idx, e_slc, e_rev, e_call, e_isa, e_bi_v, e_bi_w, e_bi_t, e_rng1, e_rng2, e_join, e_count, e_ws_nil, e_ws_cons, e_s_nil, e_s_cons, e_b_nil, e_b_cons, e_B_var, e_B_con, e_B_tup, e_B_lst, e_B_bin, e_B_idx, e_B_slc, e_B_call, e_B_bi, e_B_ite, e_B_lc, e_B_rev, e_o_none, e_o_some, e_if_nil, e_if_one, e_T, e_I, x_nil, x_cons, x_asg, x_own, x_ret, x_ite, x_for, x_frz, bT_name, bT_tup, bTs_nil, bTs_cons, post_v, post_w, post_t', post_i', rb, gtrue, e_lc, bi_len_tup, asI, near_nat hl, Int.toNat_natCast, asL, rng_len, ll, Pd.wip]
    rw [lcD_map (g := fun _ => some (.bool true)) fun x hx => ?_]
    · rw [fm_some, rng_0, List.map_map, List.map_replicate]
      simp only [rb]
      congr 2
      clear ll eqs hl hs a1 a2
      induction ds.length with
      | zero => rfl
      | succ n ih =>
        rw [List.range_succ, List.map_append, ih, List.replicate_succ']
        rfl
    · obtain ⟨i, hi, rfl⟩ := rng_mem hx
      obtain ⟨x, hx⟩ := hs ds[i] (List.getElem_mem hi)
      have g : ds[i]? = some (.str x) := by rw [List.getElem?_eq_getElem hi, hx]
      simp only [tr_b, as_b, decide_true, ite_true, ite_false, Bool.false_eq_true, rd, rdW, rdB, List.getElem?_cons_zero, List.getElem?_cons_succ, List.set_cons_zero, List.set_cons_succ, List.replicate, List.cons_append, List.nil_append, List.append_nil, List.length_cons, List.length_nil, List.map_cons, List.map_nil, Nat.sub_self, frzAt, e_var_v, e_var_w, e_var_t, e_var_i, e_con, e_tup, e_lst, e_bin, e_neg, e_not_v, e_not_t, e_and_v, e_and_t, e_or_v, e_or_t, e_ite_v, e_ite_w, e_ite_t, e_cmp, e_cmp2, e_idx, e_slc, e_rev, e_call, e_isa, e_bi_v, e_bi_w, e_bi_t, e_rng1, e_rng2, e_join, e_count, e_ws_nil, e_ws_cons, e_s_nil, e_s_cons, e_b_nil, e_b_cons, e_B_var, e_B_con, e_B_tup, e_B_lst, e_B_bin, e_B_idx, e_B_slc, e_B_call, e_B_bi, e_B_ite, e_B_lc, e_B_rev, e_o_none, e_o_some, e_if_nil, e_if_one, e_T, e_I, x_nil, x_cons, x_asg, x_own, x_ret, x_ite, x_for, x_frz, bT_name, bT_tup, bTs_nil, bTs_cons, post_v, post_w, post_t', post_i', rb, gtrue, idx_tup g, m_same_str]
  have al : ((List.replicate ds.length true).all id) = true := by
    rw [List.all_replicate]
    split <;> rfl
  unfold b__law_same
  simp only [tr_b, as_b, decide_true, ite_true, ite_false, Bool.false_eq_true, rd, rdW, rdB, List.getElem?_cons_zero, List.getElem?_cons_succ, List.set_cons_zero, List.set_cons_succ, List.replicate, List.cons_append, List.nil_append, List.append_nil, List.length_cons, List.length_nil, List.map_cons, List.map_nil, Nat.sub_self, frzAt, e_var_v, e_var_w, e_var_t, e_var_i, e_con, e_tup, e_lst, e_bin, e_neg, e_not_v, e_not_t, e_and_v, e_and_t, e_or_v, e_or_t, e_ite_v, e_ite_w, e_ite_t, e_cmp, e_cmp2, e_idx, e_slc, e_rev, e_call, e_isa, e_bi_v, e_bi_w, e_bi_t, e_rng1, e_rng2, e_join, e_count, e_ws_nil, e_ws_cons, e_s_nil, e_s_cons, e_b_nil, e_b_cons, e_B_var, e_B_con, e_B_tup, e_B_lst, e_B_bin, e_B_idx, e_B_slc, e_B_call, e_B_bi, e_B_ite, e_B_lc, e_B_rev, e_o_none, e_o_some, e_if_nil, e_if_one, e_T, e_I, x_nil, x_cons, x_asg, x_own, x_ret, x_ite, x_for, x_frz, bT_name, bT_tup, bTs_nil, bTs_cons, post_v, post_w, post_t', post_i', rb, gtrue, a1, a2, asB, c_eq, bi_len_tup, dEq_int, eqs, core, bi_all, al]
end Pd


namespace Pd
open PySem L2
theorem ons_nd {r c : Nat} {w v : List Sq} (hw : w.Nodup) (h : v ∈ ons r c w) : v.Nodup := by
  unfold ons at h
  split at h
  · obtain ⟨b, hb, rfl⟩ := List.mem_map.mp h
    have hb := (List.mem_filter.mp hb).2
    rw [List.nodup_append]
    refine ⟨hw, by simp, fun x hx y hy e => ?_⟩
    rw [List.mem_singleton.mp hy] at e
    subst e
    simp [hx] at hb
  · cases h
theorem walks_nd {r c : Nat} : ∀ {m : Nat} {w : List Sq}, w ∈ walks r c m → w.Nodup
  | 0, w, h => by
    obtain ⟨a, _, rfl⟩ := List.mem_map.mp h
    simp
  | m + 1, w, h => by
    obtain ⟨v, hv, h⟩ := List.mem_flatMap.mp h
    exact ons_nd (walks_nd hv) h
theorem count_sub {α β : Type} [DecidableEq α] [DecidableEq β] (f : α → β) (b : β) : ∀ {w s : List α}, w.Nodup → (∀ a ∈ w, a ∈ s) → (w.map f).count b ≤ (s.map f).count b
  | [], s, _, _ => by simp
  | a :: w, s, hn, hs => by
    rw [List.nodup_cons] at hn
    have ha := hs a List.mem_cons_self
    obtain ⟨s1, s2, rfl⟩ := List.append_of_mem ha
    have ih := count_sub f b (w := w) (s := s1 ++ s2) hn.2 fun x hx => by
      have := hs x (List.mem_cons_of_mem _ hx)
      rw [List.mem_append, List.mem_cons] at this
      rw [List.mem_append]
      rcases this with h | h | h
      · exact .inl h
      · subst h; exact absurd hx hn.1
      · exact .inr h
    rw [List.map_cons, List.count_cons, List.map_append, List.map_cons, List.count_append, List.count_cons]
    rw [List.map_append, List.count_append] at ih
    omega
/-- all letters of the table -/
theorem letters_all {rows : List Str} {r c : Nat} (t : Tb rows r c) : rows.flatMap (fun x => x.cps.toList) = (sqs r c).map (lt rows) := by
  unfold sqs
  rw [List.map_flatMap, List.flatMap_def, List.flatMap_def]
  congr 1
  have e : rows.map (fun x => x.cps.toList) = (List.range r).map fun i => (List.range c).map fun j => lt rows (i, j) := by
    apply List.ext_getElem?
    intro i
    rw [List.getElem?_map, List.getElem?_map]
    by_cases hi : i < r
    · have h1 : i < rows.length := by rw [t.hr]; exact hi
      rw [List.getElem?_range hi, List.getElem?_eq_getElem h1]
      simp only [Option.map_some]
      congr 1
      apply List.ext_getElem?
      intro j
      rw [List.getElem?_map]
      have hc : (rows[i]).cps.toList.length = c := by
        rw [Array.length_toList]; exact t.hc _ (List.getElem_mem h1)
      by_cases hj : j < c
      · obtain ⟨x, e1, e2, e3⟩ := lt_at t (a := (i, j)) ⟨hi, hj⟩
        have e1 : rows[i]? = some x := e1
        rw [List.getElem?_eq_getElem h1] at e1
        cases e1
        rw [List.getElem?_range hj]
        exact e3
      · rw [List.getElem?_eq_none (by omega), List.getElem?_eq_none (by simp; omega)]
        rfl
    · rw [List.getElem?_eq_none (by rw [t.hr]; omega), List.getElem?_eq_none (by simp; omega)]
      rfl
  rw [e]
  refine map_eq fun i _ => ?_
  rw [List.map_map]
  rfl
theorem cnt_eq (c : Nat) : ∀ l : List Nat, PyProof.Rows.cnt c l = (l.count c : Int)
  | [] => rfl
  | n :: l => by
    rw [PyProof.Rows.cnt_cons, cnt_eq c l, List.count_cons]
    by_cases h : n = c
    · subst h
      simp only [if_true, beq_self_eq_true]
      omega
    · have hb : (n == c) = false := beq_eq_false_iff_ne.mpr h
      rw [if_neg h, hb]
      simp
theorem join_rows : ∀ rows : List Str, (Str.join (Str.ofString "") rows).cps.toList = rows.flatMap fun x => x.cps.toList
  | [] => rfl
  | [x] => by simp [Str.join]
  | x :: y :: l => by
    have ih := join_rows (y :: l)
    show (x.cps ++ (Str.ofString "").cps ++ (Str.join (Str.ofString "") (y :: l)).cps).toList = _
    have e : (Str.ofString "").cps = #[] := rfl
    rw [e, List.flatMap_cons, ← ih]
    simp
theorem sum_len {rows : List Str} {r c : Nat} (t : Tb rows r c) : (rows.map (·.length)).sum = r * c := by
  have e : rows.map (·.length) = rows.map fun _ => c := map_eq fun x hx => t.hc x hx
  rw [e, ← t.hr]
  clear e t
  induction rows with
  | nil => simp
  | cons x l ih => rw [List.map_cons, List.sum_cons, ih, List.length_cons, Nat.succ_mul]; omega
def every (rows : List Str) : Str := Str.join (Str.ofString "") rows
theorem join_tbl {rows : List Str} {r c : Nat} (t : Tb rows r c) (h9 : r * c ≤ 9) : dMe .join (.str (Str.ofString "")) [tbl rows] = .ret (.str (every rows)) := by
  show dJoin (Str.ofString "") (rows.map .str) = _
  unfold dJoin
  rw [strsD_map, rb]
  have e : totLen (Str.ofString "") rows = r * c := by
    unfold totLen
    have e2 : (Str.ofString "").length = 0 := rfl
    rw [e2, Nat.mul_zero, Nat.add_zero, sum_len t]
  rw [e, guard_of (decide_eq_true (Nat.le_trans h9 (by rw [lim_eq']; decide)))]
  have e2 : Txt.join (Str.ofString "") rows = every rows := StrLaws.glued_eq_join _ _
  rw [e2]
theorem few_letters {rows : List Str} {r c : Nat} (t : Tb rows r c) {w : List Sq} (hn : w.Nodup) (hw : onTab r c w) (x : Nat) : Txt.count (txt rows w) ⟨#[x]⟩ ≤ Txt.count (every rows) ⟨#[x]⟩ := by
  rw [PyProof.Rows.count_cnt, PyProof.Rows.count_cnt, cnt_eq, cnt_eq]
  have e : (every rows).cps.toList = (sqs r c).map (lt rows) := (join_rows rows).trans (letters_all t)
  rw [e]
  have := count_sub (lt rows) x hn fun a ha => mem_sqs.mpr (hw a ha)
  have e2 : (txt rows w).cps.toList = w.map (lt rows) := by unfold txt mk; simp
  rw [e2]
  omega
theorem c_gt (i j : Int) : dCmp .Gt (.int i) (.int j) = .ret (decide (j < i)) := id rfl
theorem me_count (x y : Str) : dMe .count (.str x) [.str y] = .ret (.int (Txt.count x y)) := id rfl
theorem it_str {x : Str} (h : x.length ≤ lim) : items (.str x) = .ret (x.cps.toList.map fun c => .str ⟨#[c]⟩) := by
  show (guard (decide (x.length ≤ lim)) >>= fun _ => Tree.ret (x.cps.toList.map fun c => PyData.str ⟨#[c]⟩)) = _
  rw [guard_of (decide_eq_true h)]
theorem m_short (k : Nat) {rows : List Str} {r c : Nat} (t : Tb rows r c) (h9 : r * c ≤ 9) {w : List Sq} (hn : w.Nodup) (hw : onTab r c w) (hl : w.length ≤ 1000) : callN tab (k + 1) 8 [.v (tbl rows), .v (.str (txt rows w))] = .ret (.str (Str.ofString "")) := by
  show runF (callN tab k) ⟨2, 4, b_short_letters⟩ [.v (tbl rows), .v (.str (txt rows w))] = _
  rw [runF_eq (show ([B.v (tbl rows), B.v (.str (txt rows w))] : List B).length = 2 from rfl)]
  have lt1 : (txt rows w).length ≤ lim := by
    unfold txt
    rw [mk_len, List.length_map, lim_eq']
    omega
  have hi := it_str lt1
  have hl2 : decide (((txt rows w).cps.toList.map fun c => PyData.str ⟨#[c]⟩).length ≤ lim) = true := by
    rw [List.length_map, Array.length_toList]
    exact decide_eq_true lt1
  have ok : meOk .join (.str (Str.ofString "")) = true := rfl
  have ok1 : meOk .count (.str (txt rows w)) = true := rfl
  have ok2 : meOk .count (.str (every rows)) = true := rfl
  have dc : ev (callN tab k) .w (.dc (.name 3) [3] (.var 1) [(.cmp .Gt (.me .count (.var 1) [(.var 3)]) (.me .count (.var 2) [(.var 3)]))] (.var 3) (.con (.bool true))) [some (.v (tbl rows)), some (.v (.str (txt rows w))), some (.v (.str (every rows))), none] = .ret (.dict (asD (.bool true) [])) := by
    simp only [tr_b, as_b, decide_true, ite_true, ite_false, Bool.false_eq_true, rd, rdW, rdB, List.getElem?_cons_zero, List.getElem?_cons_succ, List.set_cons_zero, List.set_cons_succ, List.replicate, List.cons_append, List.nil_append, List.append_nil, List.length_cons, List.length_nil, List.map_cons, List.map_nil, Nat.sub_self, frzAt, e_var_v, e_var_w, e_var_t, e_var_i, e_con, e_tup, e_lst, e_bin, e_neg, e_not_v, e_not_t, e_and_v, e_and_t, e_or_v, e_or_t, e_ite_v, e_ite_w, e_ite_t, e_cmp, e_cmp2, e_idx, e_slc, e_rev, e_call, e_isa, e_bi_v, e_bi_w, e_bi_t, e_rng1, e_rng2, e_join, e_count, e_ws_nil, e_ws_cons, e_s_nil, e_s_cons, e_b_nil, e_b_cons, e_B_var, e_B_con, e_B_tup, e_B_lst, e_B_bin, e_B_idx, e_B_slc, e_B_call, e_B_bi, e_B_ite, e_B_lc, e_B_rev, e_o_none, e_o_some, e_if_nil, e_if_one, e_T, e_I, x_nil, x_cons, x_asg, x_own, x_ret, x_ite, x_for, x_frz, bT_name, bT_tup, bTs_nil, bTs_cons, post_v, post_w, post_t', post_i', rb, gtrue, e_dc, hi, asL, hl2, Pd.wip]
    rw [lcP_map (g := fun _ => none) fun x hx => ?_]
    · have e : ∀ l : List D, l.filterMap (fun _ => (none : Option (D × D))) = [] := fun l => by
        induction l with
        | nil => rfl
        | cons x l ih => rw [List.filterMap_cons, ih]
      rw [e]
      rfl
    · obtain ⟨ch, _, rfl⟩ := List.mem_map.mp hx
      have hc := few_letters t hn hw ch
      have hd : decide (Txt.count (every rows) ⟨#[ch]⟩ < Txt.count (txt rows w) ⟨#[ch]⟩) = false := decide_eq_false (by omega)
      simp only [tr_b, as_b, decide_true, ite_true, ite_false, Bool.false_eq_true, rd, rdW, rdB, List.getElem?_cons_zero, List.getElem?_cons_succ, List.set_cons_zero, List.set_cons_succ, List.replicate, List.cons_append, List.nil_append, List.append_nil, List.length_cons, List.length_nil, List.map_cons, List.map_nil, Nat.sub_self, frzAt, e_var_v, e_var_w, e_var_t, e_var_i, e_con, e_tup, e_lst, e_bin, e_neg, e_not_v, e_not_t, e_and_v, e_and_t, e_or_v, e_or_t, e_ite_v, e_ite_w, e_ite_t, e_cmp, e_cmp2, e_idx, e_slc, e_rev, e_call, e_isa, e_bi_v, e_bi_w, e_bi_t, e_rng1, e_rng2, e_join, e_count, e_ws_nil, e_ws_cons, e_s_nil, e_s_cons, e_b_nil, e_b_cons, e_B_var, e_B_con, e_B_tup, e_B_lst, e_B_bin, e_B_idx, e_B_slc, e_B_call, e_B_bi, e_B_ite, e_B_lc, e_B_rev, e_o_none, e_o_some, e_if_nil, e_if_one, e_T, e_I, x_nil, x_cons, x_asg, x_own, x_ret, x_ite, x_for, x_frz, bT_name, bT_tup, bTs_nil, bTs_cons, post_v, post_w, post_t', post_i', rb, gtrue, ok1, ok2, me_count, c_gt, hd]
  have srt0 : srt [] = [] := by unfold srt; simp
  have j0 : dMe .join (.str (Str.ofString "")) [.list []] = .ret (.str (Str.ofString "")) := join_ones [] (Nat.zero_le _)
  unfold b_short_letters
  simp only [tr_b, as_b, decide_true, ite_true, ite_false, Bool.false_eq_true, rd, rdW, rdB, List.getElem?_cons_zero, List.getElem?_cons_succ, List.set_cons_zero, List.set_cons_succ, List.replicate, List.cons_append, List.nil_append, List.append_nil, List.length_cons, List.length_nil, List.map_cons, List.map_nil, Nat.sub_self, frzAt, e_var_v, e_var_w, e_var_t, e_var_i, e_con, e_tup, e_lst, e_bin, e_neg, e_not_v, e_not_t, e_and_v, e_and_t, e_or_v, e_or_t, e_ite_v, e_ite_w, e_ite_t, e_cmp, e_cmp2, e_idx, e_slc, e_rev, e_call, e_isa, e_bi_v, e_bi_w, e_bi_t, e_rng1, e_rng2, e_join, e_count, e_ws_nil, e_ws_cons, e_s_nil, e_s_cons, e_b_nil, e_b_cons, e_B_var, e_B_con, e_B_tup, e_B_lst, e_B_bin, e_B_idx, e_B_slc, e_B_call, e_B_bi, e_B_ite, e_B_lc, e_B_rev, e_o_none, e_o_some, e_if_nil, e_if_one, e_T, e_I, x_nil, x_cons, x_asg, x_own, x_ret, x_ite, x_for, x_frz, bT_name, bT_tup, bTs_nil, bTs_cons, post_v, post_w, post_t', post_i', rb, gtrue, ok, join_tbl t h9, dc, sorted_asD (v := .bool true) (l := []) (Nat.zero_le _), srt0, j0]
/-- the last square's letter -/
def lastL (rows : List Str) (v : List Sq) : Nat := lt rows (v.getLast?.getD (0, 0))
def step (rows : List Str) (r c : Nat) (ws : List (List Sq)) (ch : Nat) : List (List Sq) := (longer r c ws).filter fun v => decide (lastL rows v = ch)
theorem sign_eq (x y : Nat) : decide ((⟨#[x]⟩ : Str) = ⟨#[y]⟩) = decide (x = y) := by
  by_cases h : x = y
  · subst h; simp
  · rw [decide_eq_false h]
    refine decide_eq_false fun e => h ?_
    have := congrArg (fun s : Str => s.cps.toList) e
    simpa using this
theorem lc_step (k : Nat) {rows : List Str} {r c : Nat} (t : Tb rows r c) {ws : List (List Sq)} (hw : ∀ w ∈ ws, w ≠ [] ∧ w.length ≤ 999 ∧ onTab r c w) (hb : (longer r c ws).length ≤ lim) {ch : Nat} {x1 x3 x4 : Option B} :
    ev (callN tab (k + 3)) .v (.lc (.name 6) [6] (.call 4 [(.var 0), (.var 2)]) [(.cmp .Eq (.idx (.idx (.var 0) (.idx (.idx (.var 6) (.neg (.con (.int (1))))) (.con (.int (0))))) (.idx (.idx (.var 6) (.neg (.con (.int (1))))) (.con (.int (1))))) (.var 5))] (.var 6)) [some (.v (tbl rows)), x1, some (.v (wks ws)), x3, x4, some (.v (.str ⟨#[ch]⟩)), none] = .ret (wks (step rows r c ws ch)) := by
  have hi : items (wks (longer r c ws)) = .ret ((longer r c ws).map wk) := id rfl
  have hl : decide (((longer r c ws).map wk).length ≤ lim) = true := by rw [List.length_map]; exact decide_eq_true hb
  have cl : c ≤ lim := Nat.le_trans t.c4 (by rw [lim_eq']; decide)
  simp only [tr_b, as_b, decide_true, ite_true, ite_false, Bool.false_eq_true, rd, rdW, rdB, List.getElem?_cons_zero, List.getElem?_cons_succ, List.set_cons_zero, List.set_cons_succ, List.replicate, List.cons_append, List.nil_append, List.append_nil, List.length_cons, List.length_nil, List.map_cons, List.map_nil, Nat.sub_self, frzAt, e_var_v, e_var_w, e_var_t, e_var_i, e_con, e_tup, e_lst, e_bin, e_neg, e_not_v, e_not_t, e_and_v, e_and_t, e_or_v, e_or_t, e_ite_v, e_ite_w, e_ite_t, e_cmp, e_cmp2, e_idx, e_slc, e_rev, e_call, e_isa, e_bi_v, e_bi_w, e_bi_t, e_rng1, e_rng2, e_join, e_count, e_ws_nil, e_ws_cons, e_s_nil, e_s_cons, e_b_nil, e_b_cons, e_B_var, e_B_con, e_B_tup, e_B_lst, e_B_bin, e_B_idx, e_B_slc, e_B_call, e_B_bi, e_B_ite, e_B_lc, e_B_rev, e_o_none, e_o_some, e_if_nil, e_if_one, e_T, e_I, x_nil, x_cons, x_asg, x_own, x_ret, x_ite, x_for, x_frz, bT_name, bT_tup, bTs_nil, bTs_cons, post_v, post_w, post_t', post_i', rb, gtrue, e_lc, m_longer k t (fun w h => ⟨(hw w h).1, Nat.le_trans (hw w h).2.1 (by omega)⟩) hb, hi, asL, hl, Pd.wip]
  rw [lcD_map (g := fun y => if decide (lastL rows (unwk y) = ch) = true then some y else none) fun x hx => ?_]
  · simp only [rb]
    have e : ∀ l : List (List Sq), (l.map wk).filterMap (fun y => if decide (lastL rows (unwk y) = ch) = true then some y else none) = (l.filter fun v => decide (lastL rows v = ch)).map wk := fun l => by
      induction l with
      | nil => rfl
      | cons v l ih =>
        rw [List.map_cons, List.filterMap_cons, List.filter_cons, ih, unwk_wk]
        cases decide (lastL rows v = ch) <;> rfl
    rw [e]
    rfl
  · obtain ⟨v, hv, rfl⟩ := List.mem_map.mp hx
    obtain ⟨w, hwm, hv⟩ := List.mem_flatMap.mp hv
    have on := ons_on (hw w hwm).2.2 hv
    have hne : v ≠ [] := fun z => by
      have := ons_len hv
      rw [z] at this
      simp at this
    have ha := List.getLast?_eq_getLast hne
    have hmem : v.getLast hne ∈ v := List.getLast_mem hne
    obtain ⟨x, h1, h2, h3⟩ := lt_at t (on _ hmem)
    rw [unwk_wk]
    have el : lastL rows v = lt rows (v.getLast hne) := by unfold lastL; rw [ha]; rfl
    rw [el]
    simp only [tr_b, as_b, decide_true, ite_true, ite_false, Bool.false_eq_true, rd, rdW, rdB, List.getElem?_cons_zero, List.getElem?_cons_succ, List.set_cons_zero, List.set_cons_succ, List.replicate, List.cons_append, List.nil_append, List.append_nil, List.length_cons, List.length_nil, List.map_cons, List.map_nil, Nat.sub_self, frzAt, e_var_v, e_var_w, e_var_t, e_var_i, e_con, e_tup, e_lst, e_bin, e_neg, e_not_v, e_not_t, e_and_v, e_and_t, e_or_v, e_or_t, e_ite_v, e_ite_w, e_ite_t, e_cmp, e_cmp2, e_idx, e_slc, e_rev, e_call, e_isa, e_bi_v, e_bi_w, e_bi_t, e_rng1, e_rng2, e_join, e_count, e_ws_nil, e_ws_cons, e_s_nil, e_s_cons, e_b_nil, e_b_cons, e_B_var, e_B_con, e_B_tup, e_B_lst, e_B_bin, e_B_idx, e_B_slc, e_B_call, e_B_bi, e_B_ite, e_B_lc, e_B_rev, e_o_none, e_o_some, e_if_nil, e_if_one, e_T, e_I, x_nil, x_cons, x_asg, x_own, x_ret, x_ite, x_for, x_frz, bT_name, bT_tup, bTs_nil, bTs_cons, post_v, post_w, post_t', post_i', rb, gtrue, asI, wk_last ha, sq_0, sq_1, tbl_row h1, str_idx (by rw [h2]; exact cl) h3, c_eq, dEq_str, sign_eq]
    cases decide (lt rows (v.getLast hne) = ch) <;> rfl
def base (rows : List Str) (r c : Nat) (ch : Nat) : List (List Sq) := ((sqs r c).filter fun a => decide (lt rows a = ch)).map fun a => [a]
theorem lc_base (k : Nat) {rows : List Str} {r c : Nat} (t : Tb rows r c) (h9 : r * c ≤ 9) {word : Str} {ch : Nat} (hw : word.length ≤ lim) (h0 : word.cps.toList[0]? = some ch) {x4 x5 x6 : Option B} :
    ev (callN tab (k + 1)) .v (.lc (.name 3) [3] (.call 1 [(.var 0)]) [(.cmp .Eq (.idx (.idx (.var 0) (.idx (.var 3) (.con (.int (0))))) (.idx (.var 3) (.con (.int (1))))) (.idx (.var 1) (.con (.int (0)))))] (.tup [(.var 3)])) [some (.v (tbl rows)), some (.v (.str word)), none, none, x4, x5, x6] = .ret (wks (base rows r c ch)) := by
  have hl : decide (((sqs r c).map sq).length ≤ lim) = true := by
    rw [List.length_map, len_sqs]
    exact decide_eq_true (Nat.le_trans h9 (by rw [lim_eq']; decide))
  have cl : c ≤ lim := Nat.le_trans t.c4 (by rw [lim_eq']; decide)
  have w0 : dIdx (.str word) (.int 0) = .ret (.str ⟨#[ch]⟩) := str_idx (i := 0) hw h0
  simp only [tr_b, as_b, decide_true, ite_true, ite_false, Bool.false_eq_true, rd, rdW, rdB, List.getElem?_cons_zero, List.getElem?_cons_succ, List.set_cons_zero, List.set_cons_succ, List.replicate, List.cons_append, List.nil_append, List.append_nil, List.length_cons, List.length_nil, List.map_cons, List.map_nil, Nat.sub_self, frzAt, e_var_v, e_var_w, e_var_t, e_var_i, e_con, e_tup, e_lst, e_bin, e_neg, e_not_v, e_not_t, e_and_v, e_and_t, e_or_v, e_or_t, e_ite_v, e_ite_w, e_ite_t, e_cmp, e_cmp2, e_idx, e_slc, e_rev, e_call, e_isa, e_bi_v, e_bi_w, e_bi_t, e_rng1, e_rng2, e_join, e_count, e_ws_nil, e_ws_cons, e_s_nil, e_s_cons, e_b_nil, e_b_cons, e_B_var, e_B_con, e_B_tup, e_B_lst, e_B_bin, e_B_idx, e_B_slc, e_B_call, e_B_bi, e_B_ite, e_B_lc, e_B_rev, e_o_none, e_o_some, e_if_nil, e_if_one, e_T, e_I, x_nil, x_cons, x_asg, x_own, x_ret, x_ite, x_for, x_frz, bT_name, bT_tup, bTs_nil, bTs_cons, post_v, post_w, post_t', post_i', rb, gtrue, e_lc, m_squares k t, it_lst, asL, hl, Pd.wip]
  rw [lcD_map (g := fun y => if decide (lt rows (unsq y) = ch) = true then some (.tuple [y]) else none) fun x hx => ?_]
  · simp only [rb]
    rw [fm_map (g := fun b => if decide (lt rows b = ch) = true then some (PyData.tuple [sq b]) else none) fun b _ => by rw [unsq_sq], fm_filter]
    unfold base wks
    rw [List.map_map]
    rfl
  · obtain ⟨a, ha, rfl⟩ := List.mem_map.mp hx
    obtain ⟨x, h1, h2, h3⟩ := lt_at t (mem_sqs.mp ha)
    rw [unsq_sq]
    simp only [tr_b, as_b, decide_true, ite_true, ite_false, Bool.false_eq_true, rd, rdW, rdB, List.getElem?_cons_zero, List.getElem?_cons_succ, List.set_cons_zero, List.set_cons_succ, List.replicate, List.cons_append, List.nil_append, List.append_nil, List.length_cons, List.length_nil, List.map_cons, List.map_nil, Nat.sub_self, frzAt, e_var_v, e_var_w, e_var_t, e_var_i, e_con, e_tup, e_lst, e_bin, e_neg, e_not_v, e_not_t, e_and_v, e_and_t, e_or_v, e_or_t, e_ite_v, e_ite_w, e_ite_t, e_cmp, e_cmp2, e_idx, e_slc, e_rev, e_call, e_isa, e_bi_v, e_bi_w, e_bi_t, e_rng1, e_rng2, e_join, e_count, e_ws_nil, e_ws_cons, e_s_nil, e_s_cons, e_b_nil, e_b_cons, e_B_var, e_B_con, e_B_tup, e_B_lst, e_B_bin, e_B_idx, e_B_slc, e_B_call, e_B_bi, e_B_ite, e_B_lc, e_B_rev, e_o_none, e_o_some, e_if_nil, e_if_one, e_T, e_I, x_nil, x_cons, x_asg, x_own, x_ret, x_ite, x_for, x_frz, bT_name, bT_tup, bTs_nil, bTs_cons, post_v, post_w, post_t', post_i', rb, gtrue, sq_0, sq_1, tbl_row h1, str_idx (by rw [h2]; exact cl) h3, w0, c_eq, dEq_str, sign_eq, d1lim]
    cases decide (lt rows a = ch) <;> rfl
def unS : D → Nat
  | .str x => x.cps.toList.head?.getD 0
  | _ => 0
def sign (ch : Nat) : D := .str ⟨#[ch]⟩
theorem unS_sign (ch : Nat) : unS (sign ch) = ch := rfl
def pw (rows : List Str) (r c : Nat) (b0 : List (List Sq)) (done : List D) : List (List Sq) := (done.map unS).foldl (step rows r c) b0
def fw (rows : List Str) (r c : Nat) (b0 : List (List Sq)) (done : List D) : List D := (List.range done.length).map fun i => wks (pw rows r c b0 (done.take i))
theorem fw_snoc (rows : List Str) (r c : Nat) (b0 : List (List Sq)) (a : List D) (x : D) : fw rows r c b0 (a ++ [x]) = fw rows r c b0 a ++ [wks (pw rows r c b0 a)] := by
  unfold fw
  rw [List.length_append, List.length_cons, List.length_nil, List.range_succ, List.map_append]
  congr 1
  · refine map_eq fun i hi => ?_
    have := List.mem_range.mp hi
    rw [List.take_append_of_le_length (by omega)]
  · show [wks (pw rows r c b0 ((a ++ [x]).take a.length))] = _
    rw [List.take_left]
theorem pw_snoc (rows : List Str) (r c : Nat) (b0 : List (List Sq)) (a : List D) (ch : Nat) : pw rows r c b0 (a ++ [sign ch]) = step rows r c (pw rows r c b0 a) ch := by
  unfold pw
  rw [List.map_append, List.foldl_append]
  rfl
def pB : List S := [.ite (.not (.var 2)) [.frz 4, .ret (.var 4)] [], .frz 2, .app 4 (.var 2), .frz 0, .frz 2, .own 2 (.lc (.name 6) [6] (.call 4 [(.var 0), (.var 2)]) [(.cmp .Eq (.idx (.idx (.var 0) (.idx (.idx (.var 6) (.neg (.con (.int (1))))) (.con (.int (0))))) (.idx (.idx (.var 6) (.neg (.con (.int (1))))) (.con (.int (1))))) (.var 5))] (.var 6))]
def pI (rows : List Str) (r c : Nat) (word : Str) (b0 : List (List Sq)) (done : List D) : Env :=
  [some (.v (tbl rows)), some (.v (.str word)), some (.own (wks (pw rows r c b0 done))), none, some (.own (.list (fw rows r c b0 done))), done.getLast?.map B.v, none]
theorem x_app {Φ : Phi} {ρ : Env} {i : Nat} {e : E} {xs : List D} (h : ρ[i]? = some (some (.own (.list xs)))) : ex Φ (.app i e) ρ = (ev Φ .v e ρ >>= fun y => guard (decide (xs.length < lim)) >>= fun _ => .ret (.nx (ρ.set i (some (.own (.list (xs ++ [y]))))))) := by
  show (match ρ[i]? with | some (some (.own (.list xs))) => _ | _ => Tree.err) = _
  rw [h]
theorem tr_lst (xs : List D) : truth (.list xs) = .ret (!xs.isEmpty) := id rfl
theorem p_loop (k : Nat) {rows : List Str} {r c : Nat} (t : Tb rows r c) {word : Str} {b0 : List (List Sq)} {ls : List Nat}
    (H : ∀ a x b, ls.map sign = a ++ x :: b → pw rows r c b0 a ≠ [] ∧ (∀ w ∈ pw rows r c b0 a, w ≠ [] ∧ w.length ≤ 999 ∧ onTab r c w) ∧ (longer r c (pw rows r c b0 a)).length ≤ lim) (hls : ls.length ≤ 1000) :
    forD (fun x ρ' => bindT (.name 5) x ρ' >>= fun ρ2 => exs (callN tab (k + 3)) pB ρ2) (ls.map sign) (pI rows r c word b0 []) = .ret (.nx (pI rows r c word b0 (ls.map sign))) := by
  have := forD_run (f := fun x ρ' => bindT (.name 5) x ρ' >>= fun ρ2 => exs (callN tab (k + 3)) pB ρ2) (I := pI rows r c word b0) (xs := ls.map sign) (done := []) fun a x b e => by
    obtain ⟨h1, h2, h3⟩ := H a x b e
    have hx : x ∈ ls.map sign := by rw [e]; exact List.mem_append_right _ List.mem_cons_self
    obtain ⟨ch, _, rfl⟩ := List.mem_map.mp hx
    have hlen : a.length < 1000 := by
      have := congrArg List.length e
      rw [List.length_map, List.length_append, List.length_cons] at this
      omega
    have g : decide ((fw rows r c b0 a).length < lim) = true := by
      unfold fw
      rw [List.length_map, List.length_range, lim_eq']
      exact decide_eq_true (by omega)
    have em : ((pw rows r c b0 a).map wk).isEmpty = false := by
      cases q : pw rows r c b0 a with
      | nil => exact absurd q h1
      | cons _ _ => rfl
    have tw : truth (wks (pw rows r c b0 a)) = .ret true := by
      unfold wks
      rw [tr_lst, em]
      rfl
    rw [List.nil_append]
    unfold pI pB
    simp only [tr_b, as_b, decide_true, ite_true, ite_false, Bool.false_eq_true, rd, rdW, rdB, List.getElem?_cons_zero, List.getElem?_cons_succ, List.set_cons_zero, List.set_cons_succ, List.replicate, List.cons_append, List.nil_append, List.append_nil, List.length_cons, List.length_nil, List.map_cons, List.map_nil, Nat.sub_self, frzAt, e_var_v, e_var_w, e_var_t, e_var_i, e_con, e_tup, e_lst, e_bin, e_neg, e_not_v, e_not_t, e_and_v, e_and_t, e_or_v, e_or_t, e_ite_v, e_ite_w, e_ite_t, e_cmp, e_cmp2, e_idx, e_slc, e_rev, e_call, e_isa, e_bi_v, e_bi_w, e_bi_t, e_rng1, e_rng2, e_join, e_count, e_ws_nil, e_ws_cons, e_s_nil, e_s_cons, e_b_nil, e_b_cons, e_B_var, e_B_con, e_B_tup, e_B_lst, e_B_bin, e_B_idx, e_B_slc, e_B_call, e_B_bi, e_B_ite, e_B_lc, e_B_rev, e_o_none, e_o_some, e_if_nil, e_if_one, e_T, e_I, x_nil, x_cons, x_asg, x_own, x_ret, x_ite, x_for, x_frz, bT_name, bT_tup, bTs_nil, bTs_cons, post_v, post_w, post_t', post_i', rb, gtrue, tw, Bool.not_true]
    rw [x_app (xs := fw rows r c b0 a) rfl]
    simp only [tr_b, as_b, decide_true, ite_true, ite_false, Bool.false_eq_true, rd, rdW, rdB, List.getElem?_cons_zero, List.getElem?_cons_succ, List.set_cons_zero, List.set_cons_succ, List.replicate, List.cons_append, List.nil_append, List.append_nil, List.length_cons, List.length_nil, List.map_cons, List.map_nil, Nat.sub_self, frzAt, e_var_v, e_var_w, e_var_t, e_var_i, e_con, e_tup, e_lst, e_bin, e_neg, e_not_v, e_not_t, e_and_v, e_and_t, e_or_v, e_or_t, e_ite_v, e_ite_w, e_ite_t, e_cmp, e_cmp2, e_idx, e_slc, e_rev, e_call, e_isa, e_bi_v, e_bi_w, e_bi_t, e_rng1, e_rng2, e_join, e_count, e_ws_nil, e_ws_cons, e_s_nil, e_s_cons, e_b_nil, e_b_cons, e_B_var, e_B_con, e_B_tup, e_B_lst, e_B_bin, e_B_idx, e_B_slc, e_B_call, e_B_bi, e_B_ite, e_B_lc, e_B_rev, e_o_none, e_o_some, e_if_nil, e_if_one, e_T, e_I, x_nil, x_cons, x_asg, x_own, x_ret, x_ite, x_for, x_frz, bT_name, bT_tup, bTs_nil, bTs_cons, post_v, post_w, post_t', post_i', rb, gtrue, g]
    unfold sign
    rw [lc_step k t h2 h3]
    simp only [tr_b, as_b, decide_true, ite_true, ite_false, Bool.false_eq_true, rd, rdW, rdB, List.getElem?_cons_zero, List.getElem?_cons_succ, List.set_cons_zero, List.set_cons_succ, List.replicate, List.cons_append, List.nil_append, List.append_nil, List.length_cons, List.length_nil, List.map_cons, List.map_nil, Nat.sub_self, frzAt, e_var_v, e_var_w, e_var_t, e_var_i, e_con, e_tup, e_lst, e_bin, e_neg, e_not_v, e_not_t, e_and_v, e_and_t, e_or_v, e_or_t, e_ite_v, e_ite_w, e_ite_t, e_cmp, e_cmp2, e_idx, e_slc, e_rev, e_call, e_isa, e_bi_v, e_bi_w, e_bi_t, e_rng1, e_rng2, e_join, e_count, e_ws_nil, e_ws_cons, e_s_nil, e_s_cons, e_b_nil, e_b_cons, e_B_var, e_B_con, e_B_tup, e_B_lst, e_B_bin, e_B_idx, e_B_slc, e_B_call, e_B_bi, e_B_ite, e_B_lc, e_B_rev, e_o_none, e_o_some, e_if_nil, e_if_one, e_T, e_I, x_nil, x_cons, x_asg, x_own, x_ret, x_ite, x_for, x_frz, bT_name, bT_tup, bTs_nil, bTs_cons, post_v, post_w, post_t', post_i', rb, gtrue, List.getLast?_append, List.getLast?_singleton, Option.map_some, Option.some_or]
    have e1 := pw_snoc rows r c b0 a ch
    unfold sign at e1
    rw [e1, fw_snoc]
  rw [List.nil_append] at this
  exact this
theorem cut_1 {α : Type} (xs : List α) : Pd.cut xs (some 1) none = xs.drop 1 := by
  unfold Pd.cut
  rw [show HT.sIx xs.length 0 (some 1) = min 1 xs.length from HT.sIx_nat xs.length 0 1, HT.sIx_none]
  cases xs with
  | nil => rfl
  | cons x l =>
    have : min 1 (x :: l).length = 1 := by rw [List.length_cons]; omega
    rw [this]
    show l.take ((x :: l).length - 1) = l
    rw [List.length_cons, Nat.add_sub_cancel]
    exact List.take_length
/-- the letters that prefix_walks goes through -/
def tailL (word : Str) : List Nat := word.cps.toList.drop 1 ++ [32]
theorem slc_1 {word : Str} (h : word.length ≤ lim) : dSlc (.str word) (some 1) none = .ret (.str (mk (word.cps.toList.drop 1))) := by
  show (guard (decide (word.length ≤ lim)) >>= fun _ => Tree.ret (PyData.str ⟨(Pd.cut word.cps.toList (some 1) none).toArray⟩)) = _
  rw [guard_of (decide_eq_true h), cut_1]
  rfl
theorem add_sp {l : List Nat} (h : l.length ≤ 1000) : dBin .Add (.str (mk l)) (.str (Str.ofString " ")) = .ret (.str (mk (l ++ [32]))) := by
  have e2 : (Str.ofString " ").length = 1 := rfl
  show (guard (decide ((mk l).length + (Str.ofString " ").length ≤ lim)) >>= fun _ => Tree.ret (PyData.str (mk l ++ Str.ofString " "))) = _
  rw [guard_of (decide_eq_true (by rw [mk_len, e2, lim_eq']; omega))]
  congr 2
  apply str_cps_inj
  show ((mk l).cps ++ (Str.ofString " ").cps).toList = _
  have e : (Str.ofString " ").cps = #[32] := rfl
  rw [e]
  simp [mk]
theorem it_mk {l : List Nat} (h : l.length ≤ 1001) : items (.str (mk l)) = .ret (l.map sign) := by
  rw [it_str (by rw [mk_len, lim_eq']; omega)]
  show Tree.ret ((l.toArray.toList).map fun c => PyData.str ⟨#[c]⟩) = _
  rw [List.toList_toArray]
  rfl
theorem m_prefix (k : Nat) {rows : List Str} {r c : Nat} (t : Tb rows r c) (h9 : r * c ≤ 9) {word : Str} {ch : Nat} (hw : word.length ≤ 900) (h0 : word.cps.toList[0]? = some ch)
    (H : ∀ a x b, (tailL word).map sign = a ++ x :: b → pw rows r c (base rows r c ch) a ≠ [] ∧ (∀ w ∈ pw rows r c (base rows r c ch) a, w ≠ [] ∧ w.length ≤ 999 ∧ onTab r c w) ∧ (longer r c (pw rows r c (base rows r c ch) a)).length ≤ lim) :
    callN tab (k + 4) 9 [.v (tbl rows), .v (.str word)] = .ret (.list (fw rows r c (base rows r c ch) ((tailL word).map sign))) := by
  show runF (callN tab (k + 3)) ⟨2, 7, b_prefix_walks⟩ [.v (tbl rows), .v (.str word)] = _
  rw [runF_eq (show ([B.v (tbl rows), B.v (.str word)] : List B).length = 2 from rfl)]
  have wl : word.length ≤ lim := by rw [lim_eq']; omega
  have dl : (word.cps.toList.drop 1).length ≤ 900 := by
    rw [List.length_drop, Array.length_toList]
    have : word.cps.size = word.length := rfl
    omega
  have tl : (tailL word).length ≤ 1000 := by unfold tailL; rw [List.length_append, List.length_singleton]; omega
  have d0 : decide (0 ≤ lim) = true := decide_eq_true (Nat.zero_le _)
  show (exs (callN tab (k + 3)) [.frz 0, .own 2 (.lc (.name 3) [3] (.call 1 [(.var 0)]) [(.cmp .Eq (.idx (.idx (.var 0) (.idx (.var 3) (.con (.int (0))))) (.idx (.var 3) (.con (.int (1))))) (.idx (.var 1) (.con (.int (0)))))] (.tup [(.var 3)])), .own 4 (.lst []), .for_ (.name 5) (.bin .Add (.slc (.var 1) (some (.con (.int (1)))) none) (.con (.str (" " : Str)))) pB, .frz 4, .ret (.var 4)] _ >>= _) = _
  have it : evI (callN tab (k + 3)) (.bin .Add (.slc (.var 1) (some (.con (.int (1)))) none) (.con (.str (" " : Str)))) [some (.v (tbl rows)), some (.v (.str word)), some (.own (wks (base rows r c ch))), none, some (.own (.list [])), none, none] = .ret ((tailL word).map sign) := by
    simp only [tr_b, as_b, decide_true, ite_true, ite_false, Bool.false_eq_true, rd, rdW, rdB, List.getElem?_cons_zero, List.getElem?_cons_succ, List.set_cons_zero, List.set_cons_succ, List.replicate, List.cons_append, List.nil_append, List.append_nil, List.length_cons, List.length_nil, List.map_cons, List.map_nil, Nat.sub_self, frzAt, e_var_v, e_var_w, e_var_t, e_var_i, e_con, e_tup, e_lst, e_bin, e_neg, e_not_v, e_not_t, e_and_v, e_and_t, e_or_v, e_or_t, e_ite_v, e_ite_w, e_ite_t, e_cmp, e_cmp2, e_idx, e_slc, e_rev, e_call, e_isa, e_bi_v, e_bi_w, e_bi_t, e_rng1, e_rng2, e_join, e_count, e_ws_nil, e_ws_cons, e_s_nil, e_s_cons, e_b_nil, e_b_cons, e_B_var, e_B_con, e_B_tup, e_B_lst, e_B_bin, e_B_idx, e_B_slc, e_B_call, e_B_bi, e_B_ite, e_B_lc, e_B_rev, e_o_none, e_o_some, e_if_nil, e_if_one, e_T, e_I, x_nil, x_cons, x_asg, x_own, x_ret, x_ite, x_for, x_frz, bT_name, bT_tup, bTs_nil, bTs_cons, post_v, post_w, post_t', post_i', rb, gtrue, asI, slc_1 wl, add_sp (Nat.le_trans dl (by omega)), asL]
    rw [it_mk (by rw [List.length_append, List.length_singleton]; omega)]
    rfl
  simp only [x_cons, x_frz, x_own, x_for, rb, frzAt, List.map_cons, List.map_nil, List.replicate, List.cons_append, List.nil_append, List.getElem?_cons_zero, List.set_cons_zero, List.set_cons_succ, lc_base (k + 2) t h9 wl h0, e_lst, e_s_nil, post_v, List.length_nil, d0, gtrue, it]
  have e0 : ([some (B.v (tbl rows)), some (B.v (.str word)), some (B.own (wks (base rows r c ch))), none, some (B.own (.list [])), none, none] : Env) = pI rows r c word (base rows r c ch) [] := rfl
  rw [e0, p_loop k t H tl]
  unfold pI
  simp only [tr_b, as_b, decide_true, ite_true, ite_false, Bool.false_eq_true, rd, rdW, rdB, List.getElem?_cons_zero, List.getElem?_cons_succ, List.set_cons_zero, List.set_cons_succ, List.replicate, List.cons_append, List.nil_append, List.append_nil, List.length_cons, List.length_nil, List.map_cons, List.map_nil, Nat.sub_self, frzAt, e_var_v, e_var_w, e_var_t, e_var_i, e_con, e_tup, e_lst, e_bin, e_neg, e_not_v, e_not_t, e_and_v, e_and_t, e_or_v, e_or_t, e_ite_v, e_ite_w, e_ite_t, e_cmp, e_cmp2, e_idx, e_slc, e_rev, e_call, e_isa, e_bi_v, e_bi_w, e_bi_t, e_rng1, e_rng2, e_join, e_count, e_ws_nil, e_ws_cons, e_s_nil, e_s_cons, e_b_nil, e_b_cons, e_B_var, e_B_con, e_B_tup, e_B_lst, e_B_bin, e_B_idx, e_B_slc, e_B_call, e_B_bi, e_B_ite, e_B_lc, e_B_rev, e_o_none, e_o_some, e_if_nil, e_if_one, e_T, e_I, x_nil, x_cons, x_asg, x_own, x_ret, x_ite, x_for, x_frz, bT_name, bT_tup, bTs_nil, bTs_cons, post_v, post_w, post_t', post_i', rb, gtrue]
end Pd


namespace Pd
open PySem L2
theorem ons_eq {r c : Nat} {w v : List Sq} (h : v ∈ ons r c w) : ∃ b, v = w ++ [b] := by
  unfold ons at h
  split at h
  · obtain ⟨b, _, rfl⟩ := List.mem_map.mp h
    exact ⟨b, rfl⟩
  · cases h
/-- a walk's beginnings are walks -/
theorem walks_take {r c : Nat} : ∀ {m : Nat} {w : List Sq}, w ∈ walks r c m → ∀ i, i ≤ m → w.take (i + 1) ∈ walks r c i
  | 0, w, h, i, hi => by
    have : i = 0 := by omega
    subst this
    have hl := walks_len h
    rw [List.take_of_length_le (by omega)]
    exact h
  | m + 1, w, h, i, hi => by
    by_cases e : i = m + 1
    · subst e
      have hl := walks_len h
      rw [List.take_of_length_le (by omega)]
      exact h
    · obtain ⟨v, hv, h⟩ := List.mem_flatMap.mp h
      obtain ⟨b, rfl⟩ := ons_eq h
      have hl := walks_len hv
      rw [List.take_append_of_le_length (by omega)]
      exact walks_take hv i (by omega)
theorem pw_sub {rows : List Str} {r c ch : Nat} : ∀ (ls : List Nat), (∀ v ∈ pw rows r c (base rows r c ch) (ls.map sign), v ∈ walks r c ls.length) ∧ (pw rows r c (base rows r c ch) (ls.map sign)).length ≤ (r * c) ^ (ls.length + 1) := by
  intro ls
  induction h : ls.length generalizing ls with
  | zero =>
    have : ls = [] := List.eq_nil_of_length_eq_zero h
    subst this
    refine ⟨fun v hv => ?_, ?_⟩
    · obtain ⟨a, ha, rfl⟩ := List.mem_map.mp (show v ∈ base rows r c ch from hv)
      exact List.mem_map.mpr ⟨a, (List.mem_filter.mp ha).1, rfl⟩
    · show (base rows r c ch).length ≤ _
      unfold base
      rw [List.length_map, Nat.pow_one, ← len_sqs]
      exact List.length_filter_le _ _
  | succ n ih =>
    obtain ⟨init, x, rfl⟩ : ∃ init x, ls = init ++ [x] := by
      have hne : ls ≠ [] := fun z => by rw [z] at h; simp at h
      exact ⟨ls.dropLast, ls.getLast hne, (List.dropLast_concat_getLast hne).symm⟩
    have hn : init.length = n := by rw [List.length_append, List.length_singleton] at h; omega
    obtain ⟨h1, h2⟩ := ih init hn
    have e : pw rows r c (base rows r c ch) ((init ++ [x]).map sign) = step rows r c (pw rows r c (base rows r c ch) (init.map sign)) x := by
      rw [List.map_append]
      exact pw_snoc rows r c (base rows r c ch) (init.map sign) x
    rw [e]
    refine ⟨fun v hv => ?_, ?_⟩
    · have hv := (List.mem_filter.mp hv).1
      obtain ⟨w, hw, hv⟩ := List.mem_flatMap.mp hv
      exact List.mem_flatMap.mpr ⟨w, h1 w hw, hv⟩
    · refine Nat.le_trans (List.length_filter_le _ _) (Nat.le_trans (flat_few fun w _ => ons_few w) ?_)
      rw [Nat.pow_succ]
      exact Nat.mul_le_mul_right _ h2
/-- a walk is among those that spell its text -/
theorem pw_has {rows : List Str} {r c : Nat} : ∀ {m : Nat} {w : List Sq}, w ∈ walks r c m → ∃ a, w.head? = some a ∧ w ∈ pw rows r c (base rows r c (lt rows a)) (((w.map (lt rows)).drop 1).map sign)
  | 0, w, h => by
    obtain ⟨a, ha, rfl⟩ := List.mem_map.mp h
    refine ⟨a, rfl, ?_⟩
    show [a] ∈ base rows r c (lt rows a)
    exact List.mem_map.mpr ⟨a, List.mem_filter.mpr ⟨ha, decide_eq_true rfl⟩, rfl⟩
  | m + 1, w, h => by
    obtain ⟨v, hv, h⟩ := List.mem_flatMap.mp h
    obtain ⟨b, rfl⟩ := ons_eq h
    obtain ⟨a, h1, h2⟩ := pw_has hv
    have hl := walks_len hv
    refine ⟨a, by rw [List.head?_append, h1]; rfl, ?_⟩
    have e : (((v ++ [b]).map (lt rows)).drop 1).map sign = ((v.map (lt rows)).drop 1).map sign ++ [sign (lt rows b)] := by
      rw [List.map_append, List.drop_append_of_le_length (by rw [List.length_map]; omega), List.map_append]
      rfl
    rw [e, pw_snoc]
    refine List.mem_filter.mpr ⟨List.mem_flatMap.mpr ⟨v, h2, h⟩, ?_⟩
    unfold lastL
    rw [List.getLast?_append]
    exact decide_eq_true rfl
theorem txt_cps (rows : List Str) (w : List Sq) : (txt rows w).cps.toList = w.map (lt rows) := by unfold txt mk; simp
theorem txt_len (rows : List Str) (w : List Sq) : (txt rows w).length = w.length := by unfold txt; rw [mk_len, List.length_map]
theorem head_letter {rows : List Str} {w : List Sq} {a : Sq} (h : w.head? = some a) : (txt rows w).cps.toList[0]? = some (lt rows a) := by
  rw [txt_cps, List.getElem?_map]
  cases w with
  | nil => cases h
  | cons b w => cases h; rfl
theorem spell {rows : List Str} {r c m : Nat} (h9 : r * c ≤ 9) (hm : m ≤ 3) {w : List Sq} (hw : w ∈ walks r c m) {a0 : Sq} (h0 : w.head? = some a0) :
    ∀ a x b, (tailL (txt rows w)).map sign = a ++ x :: b → pw rows r c (base rows r c (lt rows a0)) a ≠ [] ∧ (∀ w ∈ pw rows r c (base rows r c (lt rows a0)) a, w ≠ [] ∧ w.length ≤ 999 ∧ onTab r c w) ∧ (longer r c (pw rows r c (base rows r c (lt rows a0)) a)).length ≤ lim := by
  intro a x b e
  have hl := walks_len hw
  have dl : ((w.map (lt rows)).drop 1).length = m := by rw [List.length_drop, List.length_map, hl]; omega
  have tl : (tailL (txt rows w)) = (w.map (lt rows)).drop 1 ++ [32] := by unfold tailL; rw [txt_cps]
  have ha : a.length ≤ m := by
    have := congrArg List.length e
    rw [List.length_map, tl, List.length_append, dl, List.length_singleton, List.length_append, List.length_cons] at this
    omega
  have ea : a = (((w.map (lt rows)).drop 1).take a.length).map sign := by
    have h1 : a = (a ++ x :: b).take a.length := by rw [List.take_left]
    rw [h1, ← e, tl, ← List.map_take, List.take_append_of_le_length (by rw [dl]; simpa using ha)]
    simp
  have la : (((w.map (lt rows)).drop 1).take a.length).length = a.length := by rw [List.length_take, dl]; omega
  have sub := pw_sub (rows := rows) (r := r) (c := c) (ch := lt rows a0) (((w.map (lt rows)).drop 1).take a.length)
  rw [← ea, la] at sub
  obtain ⟨s1, s2⟩ := sub
  refine ⟨?_, fun v hv => ?_, ?_⟩
  · obtain ⟨a1, h1, h2⟩ := pw_has (rows := rows) (walks_take hw a.length ha)
    have e0 : a1 = a0 := by
      cases w with
      | nil => cases h0
      | cons z w => cases h0; cases h1; rfl
    subst e0
    have e1 : (((w.take (a.length + 1)).map (lt rows)).drop 1).map sign = a := by
      have : ((w.take (a.length + 1)).map (lt rows)).drop 1 = ((w.map (lt rows)).drop 1).take a.length := by
        rw [List.map_take, List.drop_take]
        rfl
      rw [this]
      exact ea.symm
    rw [e1] at h2
    exact fun z => by rw [z] at h2; cases h2
  · have := s1 v hv
    have vl := walks_len this
    exact ⟨fun z => by rw [z] at vl; simp at vl, by omega, walks_on this⟩
  · refine Nat.le_trans (flat_few fun w _ => ons_few w) (Nat.le_trans (Nat.mul_le_mul_right _ s2) ?_)
    rw [← Nat.pow_succ]
    exact lim_pow h9 (by omega)
theorem m_walks_of (k : Nat) {rows : List Str} {r c : Nat} (t : Tb rows r c) (h9 : r * c ≤ 9) {m : Nat} (hm : m ≤ 3) {w : List Sq} (hw : w ∈ walks r c m) :
    ∃ v vs, callN tab (k + 5) 10 [.v (tbl rows), .v (.str (txt rows w))] = .ret (.tuple (wk v :: vs)) := by
  obtain ⟨a0, h0, h2⟩ := pw_has (rows := rows) hw
  have hl := walks_len hw
  have wl : (txt rows w).length ≤ 900 := by rw [txt_len, hl]; omega
  have pre := m_prefix k t h9 wl (head_letter h0) (spell h9 hm hw h0)
  have tl : (tailL (txt rows w)) = (w.map (lt rows)).drop 1 ++ [32] := by unfold tailL; rw [txt_cps]
  have fe : fw rows r c (base rows r c (lt rows a0)) ((tailL (txt rows w)).map sign) = fw rows r c (base rows r c (lt rows a0)) (((w.map (lt rows)).drop 1).map sign) ++ [wks (pw rows r c (base rows r c (lt rows a0)) (((w.map (lt rows)).drop 1).map sign))] := by
    rw [tl, List.map_append]
    exact fw_snoc rows r c (base rows r c (lt rows a0)) (((w.map (lt rows)).drop 1).map sign) (sign 32)
  rw [fe] at pre
  obtain ⟨v, vs, ev'⟩ : ∃ v vs, pw rows r c (base rows r c (lt rows a0)) (((w.map (lt rows)).drop 1).map sign) = v :: vs := by
    cases q : pw rows r c (base rows r c (lt rows a0)) (((w.map (lt rows)).drop 1).map sign) with
    | nil => rw [q] at h2; cases h2
    | cons v vs => exact ⟨v, vs, rfl⟩
  rw [ev'] at pre
  generalize hfw : fw rows r c (base rows r c (lt rows a0)) (((w.map (lt rows)).drop 1).map sign) = F at pre
  have lF : F.length = m := by
    rw [← hfw]
    unfold fw
    rw [List.length_map, List.length_range, List.length_map, List.length_drop, List.length_map, hl]
    omega
  have last : dIdx (.list (F ++ [wks (v :: vs)])) (.int (-1)) = .ret (wks (v :: vs)) := by
    show (match L2.atI (F ++ [wks (v :: vs)]) (-1) with | some d => Tree.ret d | none => Tree.err) = _
    rw [L2.atI_last]
  have lens : decide (((F ++ [wks (v :: vs)]).length : Int) = ((txt rows w).length : Int)) = true := by
    refine decide_eq_true ?_
    rw [List.length_append, lF, txt_len, hl]
    rfl
  have bt : dBi .tuple [wks (v :: vs)] = .ret (.tuple (wk v :: vs.map wk)) := id rfl
  refine ⟨v, vs.map wk, ?_⟩
  show runF (callN tab (k + 4)) ⟨2, 3, b_walks_of⟩ [.v (tbl rows), .v (.str (txt rows w))] = _
  rw [runF_eq (show ([B.v (tbl rows), B.v (.str (txt rows w))] : List B).length = 2 from rfl)]
  have wl2 : (txt rows w).length ≤ lim := by rw [lim_eq']; omega
  unfold b_walks_of
  simp only [tr_b, as_b, decide_true, ite_true, ite_false, Bool.false_eq_true, rd, rdW, rdB, List.getElem?_cons_zero, List.getElem?_cons_succ, List.set_cons_zero, List.set_cons_succ, List.replicate, List.cons_append, List.nil_append, List.append_nil, List.length_cons, List.length_nil, List.map_cons, List.map_nil, Nat.sub_self, frzAt, e_var_v, e_var_w, e_var_t, e_var_i, e_con, e_tup, e_lst, e_bin, e_neg, e_not_v, e_not_t, e_and_v, e_and_t, e_or_v, e_or_t, e_ite_v, e_ite_w, e_ite_t, e_cmp, e_cmp2, e_idx, e_slc, e_rev, e_call, e_isa, e_bi_v, e_bi_w, e_bi_t, e_rng1, e_rng2, e_join, e_count, e_ws_nil, e_ws_cons, e_s_nil, e_s_cons, e_b_nil, e_b_cons, e_B_var, e_B_con, e_B_tup, e_B_lst, e_B_bin, e_B_idx, e_B_slc, e_B_call, e_B_bi, e_B_ite, e_B_lc, e_B_rev, e_o_none, e_o_some, e_if_nil, e_if_one, e_T, e_I, x_nil, x_cons, x_asg, x_own, x_ret, x_ite, x_for, x_frz, bT_name, bT_tup, bTs_nil, bTs_cons, post_v, post_w, post_t', post_i', rb, gtrue, pre, bi_len_lst, len_str wl2, c_eq, dEq_int]
  simp only [lens, tr_b, as_b, decide_true, ite_true, ite_false, Bool.false_eq_true, rd, rdW, rdB, List.getElem?_cons_zero, List.getElem?_cons_succ, List.set_cons_zero, List.set_cons_succ, List.replicate, List.cons_append, List.nil_append, List.append_nil, List.length_cons, List.length_nil, List.map_cons, List.map_nil, Nat.sub_self, frzAt, e_var_v, e_var_w, e_var_t, e_var_i, e_con, e_tup, e_lst, e_bin, e_neg, e_not_v, e_not_t, e_and_v, e_and_t, e_or_v, e_or_t, e_ite_v, e_ite_w, e_ite_t, e_cmp, e_cmp2, e_idx, e_slc, e_rev, e_call, e_isa, e_bi_v, e_bi_w, e_bi_t, e_rng1, e_rng2, e_join, e_count, e_ws_nil, e_ws_cons, e_s_nil, e_s_cons, e_b_nil, e_b_cons, e_B_var, e_B_con, e_B_tup, e_B_lst, e_B_bin, e_B_idx, e_B_slc, e_B_call, e_B_bi, e_B_ite, e_B_lc, e_B_rev, e_o_none, e_o_some, e_if_nil, e_if_one, e_T, e_I, x_nil, x_cons, x_asg, x_own, x_ret, x_ite, x_for, x_frz, bT_name, bT_tup, bTs_nil, bTs_cons, post_v, post_w, post_t', post_i', rb, gtrue, asI, last, bt]
theorem tr_tup (xs : List D) : truth (.tuple xs) = .ret (!xs.isEmpty) := id rfl
theorem m_first (k : Nat) {rows : List Str} {r c : Nat} (t : Tb rows r c) (h9 : r * c ≤ 9) {m : Nat} (hm : m ≤ 3) {w : List Sq} (hw : w ∈ walks r c m) :
    ∃ v, callN tab (k + 6) 11 [.v (tbl rows), .v (.str (txt rows w))] = .ret (wk v) := by
  obtain ⟨v, vs, h⟩ := m_walks_of k t h9 hm hw
  refine ⟨v, ?_⟩
  show runF (callN tab (k + 5)) ⟨2, 3, b_first_walk⟩ [.v (tbl rows), .v (.str (txt rows w))] = _
  rw [runF_eq (show ([B.v (tbl rows), B.v (.str (txt rows w))] : List B).length = 2 from rfl)]
  have i0 : dIdx (.tuple (wk v :: vs)) (.int 0) = .ret (wk v) := idx_tup (i := 0) rfl
  have ne : (wk v :: vs).isEmpty = false := rfl
  unfold b_first_walk
  simp only [tr_b, as_b, decide_true, ite_true, ite_false, Bool.false_eq_true, rd, rdW, rdB, List.getElem?_cons_zero, List.getElem?_cons_succ, List.set_cons_zero, List.set_cons_succ, List.replicate, List.cons_append, List.nil_append, List.append_nil, List.length_cons, List.length_nil, List.map_cons, List.map_nil, Nat.sub_self, frzAt, e_var_v, e_var_w, e_var_t, e_var_i, e_con, e_tup, e_lst, e_bin, e_neg, e_not_v, e_not_t, e_and_v, e_and_t, e_or_v, e_or_t, e_ite_v, e_ite_w, e_ite_t, e_cmp, e_cmp2, e_idx, e_slc, e_rev, e_call, e_isa, e_bi_v, e_bi_w, e_bi_t, e_rng1, e_rng2, e_join, e_count, e_ws_nil, e_ws_cons, e_s_nil, e_s_cons, e_b_nil, e_b_cons, e_B_var, e_B_con, e_B_tup, e_B_lst, e_B_bin, e_B_idx, e_B_slc, e_B_call, e_B_bi, e_B_ite, e_B_lc, e_B_rev, e_o_none, e_o_some, e_if_nil, e_if_one, e_T, e_I, x_nil, x_cons, x_asg, x_own, x_ret, x_ite, x_for, x_frz, bT_name, bT_tup, bTs_nil, bTs_cons, post_v, post_w, post_t', post_i', rb, gtrue, h, tr_tup, ne, Bool.not_false, i0]
end Pd


namespace Pd
open PySem L2
/-- neighbours all along -/
def adj : List Sq → Prop
  | a :: b :: l => nb a b = true ∧ adj (b :: l)
  | _ => True
theorem ab_neg (i : Int) : ab (-i) = ab i := by
  unfold ab
  split <;> split <;> omega
theorem nb_symm (a b : Sq) : nb a b = nb b a := by
  unfold nb
  have e1 : ((a.1 : Int) - b.1) = -((b.1 : Int) - a.1) := by omega
  have e2 : ((a.2 : Int) - b.2) = -((b.2 : Int) - a.2) := by omega
  have e3 : decide (a = b) = decide (b = a) := by
    by_cases h : a = b
    · subst h; rfl
    · rw [decide_eq_false h, decide_eq_false fun z => h z.symm]
  rw [e1, e2, ab_neg, ab_neg, e3]
theorem adj_snoc : ∀ {w : List Sq} {a b : Sq}, adj (w ++ [a] ++ [b]) ↔ adj (w ++ [a]) ∧ nb a b = true
  | [], a, b => by simp [adj]
  | [c], a, b => by simp [adj, and_assoc]
  | c :: d :: w, a, b => by
    have ih := adj_snoc (w := d :: w) (a := a) (b := b)
    simp only [List.cons_append] at ih ⊢
    unfold adj
    rw [ih, and_assoc]
theorem adj_rev : ∀ {w : List Sq}, adj w → adj w.reverse
  | [], _ => trivial
  | [a], _ => trivial
  | a :: b :: w, h => by
    have ih := adj_rev (w := b :: w) h.2
    rw [List.reverse_cons] at ih
    rw [List.reverse_cons, List.reverse_cons]
    exact adj_snoc.mpr ⟨ih, by rw [nb_symm]; exact h.1⟩
theorem mem_walks {r c : Nat} : ∀ {m : Nat} {w : List Sq}, w ∈ walks r c m ↔ w.length = m + 1 ∧ w.Nodup ∧ onTab r c w ∧ adj w
  | 0, w => by
    constructor
    · intro h
      refine ⟨walks_len h, walks_nd h, walks_on h, ?_⟩
      obtain ⟨a, _, rfl⟩ := List.mem_map.mp h
      trivial
    · rintro ⟨hl, _, ho, _⟩
      match w, hl with
      | [a], _ => exact List.mem_map.mpr ⟨a, mem_sqs.mpr (ho a List.mem_cons_self), rfl⟩
  | m + 1, w => by
    constructor
    · intro h
      refine ⟨walks_len h, walks_nd h, walks_on h, ?_⟩
      obtain ⟨v, hv, h⟩ := List.mem_flatMap.mp h
      have av := (mem_walks.mp hv).2.2.2
      have vl := walks_len hv
      have hne : v ≠ [] := fun z => by rw [z] at vl; simp at vl
      have hlast := List.getLast?_eq_getLast hne
      unfold ons at h
      rw [hlast] at h
      obtain ⟨b, hb, rfl⟩ := List.mem_map.mp h
      have hb := (List.mem_filter.mp hb).1
      unfold nbs at hb
      have hn := (List.mem_filter.mp hb).2
      have e : v = v.dropLast ++ [v.getLast hne] := (List.dropLast_concat_getLast hne).symm
      rw [e]
      rw [e] at av
      exact adj_snoc.mpr ⟨av, hn⟩
    · rintro ⟨hl, hn, ho, ha⟩
      have hne : w ≠ [] := fun z => by rw [z] at hl; simp at hl
      obtain ⟨v, b, rfl⟩ : ∃ v b, w = v ++ [b] := ⟨w.dropLast, w.getLast hne, (List.dropLast_concat_getLast hne).symm⟩
      have vl : v.length = m + 1 := by rw [List.length_append, List.length_singleton] at hl; omega
      have vne : v ≠ [] := fun z => by rw [z] at vl; simp at vl
      obtain ⟨u, a, rfl⟩ : ∃ u a, v = u ++ [a] := ⟨v.dropLast, v.getLast vne, (List.dropLast_concat_getLast vne).symm⟩
      obtain ⟨ha1, hnb⟩ := adj_snoc.mp ha
      rw [List.nodup_append] at hn
      obtain ⟨hn1, _, hn3⟩ := hn
      have hv : u ++ [a] ∈ walks r c m := mem_walks.mpr ⟨vl, hn1, fun x hx => ho x (List.mem_append_left _ hx), ha1⟩
      refine List.mem_flatMap.mpr ⟨u ++ [a], hv, ?_⟩
      unfold ons
      have hl : (u ++ [a]).getLast? = some a := by rw [List.getLast?_append]; rfl
      rw [hl]
      refine List.mem_map.mpr ⟨b, List.mem_filter.mpr ⟨?_, ?_⟩, rfl⟩
      · exact List.mem_filter.mpr ⟨mem_sqs.mpr (ho b (List.mem_append_right _ List.mem_cons_self)), hnb⟩
      · have : b ∉ u ++ [a] := fun hb => hn3 b hb b List.mem_cons_self rfl
        rw [decide_eq_false this]
        rfl
/-- a walk turned round is a walk -/
theorem walks_rev {r c m : Nat} {w : List Sq} (h : w ∈ walks r c m) : w.reverse ∈ walks r c m := by
  obtain ⟨h1, h2, h3, h4⟩ := mem_walks.mp h
  exact mem_walks.mpr ⟨by rw [List.length_reverse]; exact h1, List.Perm.nodup (List.reverse_perm w).symm h2, fun a ha => h3 a (List.mem_reverse.mp ha), adj_rev h4⟩
theorem txt_rev (rows : List Str) (w : List Sq) : txt rows w.reverse = ⟨(txt rows w).cps.toList.reverse.toArray⟩ := by
  apply str_cps_inj
  rw [txt_cps, txt_cps, List.map_reverse]
end Pd


namespace Pd
open PySem L2
theorem x_upd {Φ : Phi} {ρ : Env} {i : Nat} {e : E} {kvs : List (D × D)} (h : ρ[i]? = some (some (.own (.dict kvs)))) : ex Φ (.upd i e) ρ = (ev Φ .v e ρ >>= fun y => asDic y >>= fun ps => guard (decide (kvs.length + ps.length ≤ lim)) >>= fun _ => .ret (.nx (ρ.set i (some (.own (.dict (putAll kvs ps))))))) := by
  show (match ρ[i]? with | some (some (.own (.dict kvs))) => _ | _ => Tree.err) = _
  rw [h]
/-- the beginnings of a word, from one letter on -/
def begs (x : Str) : List Str := (List.range x.length).map fun k => mk (x.cps.toList.take (k + 1))
theorem cut_to {α : Type} (xs : List α) (k : Nat) (h : k ≤ xs.length) : Pd.cut xs none (some (k : Int)) = xs.take k := by
  unfold Pd.cut
  rw [HT.sIx_none, HT.sIx_nat, List.drop_zero, Nat.sub_zero, Nat.min_eq_left h]
theorem slc_to {x : Str} {k : Nat} (h : x.length ≤ lim) (hk : k ≤ x.length) : dSlc (.str x) none (some (k : Int)) = .ret (.str (mk (x.cps.toList.take k))) := by
  show (guard (decide (x.length ≤ lim)) >>= fun _ => Tree.ret (PyData.str ⟨(Pd.cut x.cps.toList none (some (k : Int))).toArray⟩)) = _
  rw [guard_of (decide_eq_true h), cut_to _ _ (by rw [Array.length_toList]; exact hk)]
  rfl
theorem asDc (kvs : List (D × D)) : asDic (.dict kvs) = .ret kvs := id rfl
theorem b_add (i j : Int) : dBin .Add (.int i) (.int j) = .ret (.int (i + j)) := id rfl
theorem rng1_mem {n : Nat} {x : D} (h : x ∈ rng 1 n) : ∃ k, k < n ∧ x = .int ((k + 1 : Nat) : Int) := by
  unfold rng at h
  obtain ⟨i, hi, e⟩ := List.mem_map.mp h
  exact ⟨i, List.mem_range.mp hi, by rw [← e]; congr 1; omega⟩
def onN (f : Nat → D × D) : D → Option (D × D)
  | .int i => some (f i.toNat)
  | _ => none
theorem dc_begs (Φ : Phi) {x : Str} (h : x.length ≤ 1000) {x0 x1 : Option B} :
    ev Φ .v (.dc (.name 3) [3] (.bi .range [(.con (.int (1))), (.bin .Add (.bi .len [(.var 2)]) (.con (.int (1))))]) [] (.slc (.var 2) none (some (.var 3))) (.con (.bool true))) [x0, x1, some (.v (.str x)), none] = .ret (.dict (asD (.bool true) (uniq (begs x)))) := by
  have hl : x.length ≤ lim := by rw [lim_eq']; omega
  have n1 : near62 1 = true := rfl
  have n2 : near62 ((x.length : Int) + 1) = true := by
    have : ((x.length : Int) + 1) = ((x.length + 1 : Nat) : Int) := by omega
    rw [this]
    exact near_nat (by omega)
  have n3 : ((x.length : Int) + 1 - 1).toNat = x.length := by omega
  have dl : decide (x.length ≤ lim) = true := decide_eq_true hl
  have nn : (near62 1 && near62 ((x.length : Int) + 1)) = true := by rw [n1, n2]; rfl
  rw [e_dc]
  simp only [e_I, e_rng2, e_con, post_v, e_bin, e_bi_v, e_ws_cons, e_ws_nil, e_var_w, rdW, List.getElem?_cons_zero, List.getElem?_cons_succ, len_str hl, b_add, asI, nn, gtrue, n3, asL, rng_len, dl, rb]
  rw [lcP_map (g := onN fun k => (.str (mk (x.cps.toList.take k)), .bool true)) fun y hy => ?_]
  · simp only [rb]
    have e : (rng 1 x.length).filterMap (onN fun k => (PyData.str (mk (x.cps.toList.take k)), PyData.bool true)) = asD (.bool true) (begs x) := by
      unfold rng begs asD
      rw [List.filterMap_map, List.map_map, ← fm_some]
      refine fm_congr fun k _ => ?_
      show some (PyData.str (mk (x.cps.toList.take ((1 : Int) + (k : Int)).toNat)), PyData.bool true) = _
      have : ((1 : Int) + (k : Int)).toNat = k + 1 := by omega
      rw [this]
      rfl
    rw [e]
    have := putAll_asD (.bool true) (begs x) []
    rw [show asD (.bool true) [] = [] from rfl] at this
    rw [this]
    rfl
  · obtain ⟨k, hk, rfl⟩ := rng1_mem hy
    simp only [tr_b, as_b, decide_true, ite_true, ite_false, Bool.false_eq_true, rd, rdW, rdB, List.getElem?_cons_zero, List.getElem?_cons_succ, List.set_cons_zero, List.set_cons_succ, List.replicate, List.cons_append, List.nil_append, List.append_nil, List.length_cons, List.length_nil, List.map_cons, List.map_nil, Nat.sub_self, frzAt, e_var_v, e_var_w, e_var_t, e_var_i, e_con, e_tup, e_lst, e_bin, e_neg, e_not_v, e_not_t, e_and_v, e_and_t, e_or_v, e_or_t, e_ite_v, e_ite_w, e_ite_t, e_cmp, e_cmp2, e_idx, e_slc, e_rev, e_call, e_isa, e_bi_v, e_bi_w, e_bi_t, e_rng1, e_rng2, e_join, e_count, e_ws_nil, e_ws_cons, e_s_nil, e_s_cons, e_b_nil, e_b_cons, e_B_var, e_B_con, e_B_tup, e_B_lst, e_B_bin, e_B_idx, e_B_slc, e_B_call, e_B_bi, e_B_ite, e_B_lc, e_B_rev, e_o_none, e_o_some, e_if_nil, e_if_one, e_T, e_I, x_nil, x_cons, x_asg, x_own, x_ret, x_ite, x_for, x_frz, bT_name, bT_tup, bTs_nil, bTs_cons, post_v, post_w, post_t', post_i', rb, gtrue, Pd.wip, asI, slc_to hl (show k + 1 ≤ x.length by omega)]
    rfl
theorem it_tup' (xs : List D) : items (.tuple xs) = .ret xs := id rfl
def strs_ (l : List Str) : D := .tuple (l.map .str)
def toS : D → Str
  | .str x => x
  | _ => Str.ofString ""
/-- all beginnings so far -/
def bgs (done : List D) : List Str := (done.map toS).foldl (fun l x => (uniq (begs x)).foldl put1 l) [Str.ofString ""]
theorem bgs_snoc (a : List D) (x : Str) : bgs (a ++ [.str x]) = (uniq (begs x)).foldl put1 (bgs a) := by
  unfold bgs
  rw [List.map_append, List.foldl_append]
  rfl
theorem bgs_len : ∀ (a : List Str), (∀ x ∈ a, x.length ≤ 1000) → (bgs (a.map .str)).length ≤ 1 + a.length * 1000 := by
  intro a
  induction h : a.length generalizing a with
  | zero =>
    intro _
    have : a = [] := List.eq_nil_of_length_eq_zero h
    subst this
    exact Nat.le_refl _
  | succ n ih =>
    intro hx
    have hne : a ≠ [] := fun z => by rw [z] at h; simp at h
    obtain ⟨init, x, rfl⟩ : ∃ init x, a = init ++ [x] := ⟨a.dropLast, a.getLast hne, (List.dropLast_concat_getLast hne).symm⟩
    have hn : init.length = n := by rw [List.length_append, List.length_singleton] at h; omega
    have i1 := ih init hn fun y hy => hx y (List.mem_append_left _ hy)
    rw [List.map_append]
    show (bgs (init.map .str ++ [.str x])).length ≤ _
    rw [bgs_snoc]
    have h1 := len_fold (uniq (begs x)) (bgs (init.map .str))
    have h2 := len_uniq (begs x)
    have h3 : (begs x).length = x.length := by unfold begs; rw [List.length_map, List.length_range]
    have h4 := hx x (List.mem_append_right _ List.mem_cons_self)
    rw [Nat.succ_mul]
    omega
def bgI (words : List Str) (done : List D) : Env := [some (.v (strs_ words)), some (.own (.dict (asD (.bool true) (bgs done)))), done.getLast?.map B.v, none]
def bgB : List S := [.upd 1 (.dc (.name 3) [3] (.bi .range [(.con (.int (1))), (.bin .Add (.bi .len [(.var 2)]) (.con (.int (1))))]) [] (.slc (.var 2) none (some (.var 3))) (.con (.bool true)))]
theorem len_asD (v : D) (l : List Str) : (asD v l).length = l.length := by unfold asD; rw [List.length_map]
theorem m_begins (k : Nat) {words : List Str} (hw : ∀ x ∈ words, x.length ≤ 1000) (hn : words.length ≤ 1000) : callN tab (k + 1) 13 [.v (strs_ words)] = .ret (.tuple (srt (bgs (words.map .str)))) := by
  show runF (callN tab k) ⟨1, 4, b_beginnings⟩ [.v (strs_ words)] = _
  rw [runF_eq (show ([B.v (strs_ words)] : List B).length = 1 from rfl)]
  have loop := forD_run (f := fun x ρ' => bindT (.name 2) x ρ' >>= fun ρ2 => exs (callN tab k) bgB ρ2) (I := bgI words) (xs := words.map .str) (done := []) fun a x b e => by
    have hx : x ∈ words.map PyData.str := by rw [e]; exact List.mem_append_right _ List.mem_cons_self
    obtain ⟨y, hy, rfl⟩ := List.mem_map.mp hx
    obtain ⟨a', rfl⟩ : ∃ a' : List Str, a = a'.map .str := by
      refine ⟨words.take a.length, ?_⟩
      have : a = (words.map PyData.str).take a.length := by rw [e, List.take_left]
      rw [List.map_take]; exact this
    have la : a'.length ≤ 1000 := by
      have := congrArg List.length e
      rw [List.length_map, List.length_append, List.length_map, List.length_cons] at this
      omega
    have sub : ∀ z ∈ a', z.length ≤ 1000 := fun z hz => by
      have : PyData.str z ∈ words.map PyData.str := by rw [e]; exact List.mem_append_left _ (List.mem_map.mpr ⟨z, hz, rfl⟩)
      obtain ⟨z', h1, h2⟩ := List.mem_map.mp this
      have e2 : z' = z := by injection h2
      rw [← e2]
      exact hw z' h1
    have g : decide ((asD (.bool true) (bgs (a'.map .str))).length + (asD (.bool true) (uniq (begs y))).length ≤ lim) = true := by
      have h1 := bgs_len a' sub
      have h2 := len_uniq (begs y)
      have h3 : (begs y).length = y.length := by unfold begs; rw [List.length_map, List.length_range]
      have h4 := hw y hy
      rw [len_asD, len_asD, lim_eq']
      have : a'.length * 1000 ≤ 1000 * 1000 := Nat.mul_le_mul_right _ la
      exact decide_eq_true (by omega)
    rw [List.nil_append]
    unfold bgI bgB
    simp only [tr_b, as_b, decide_true, ite_true, ite_false, Bool.false_eq_true, rd, rdW, rdB, List.getElem?_cons_zero, List.getElem?_cons_succ, List.set_cons_zero, List.set_cons_succ, List.replicate, List.cons_append, List.nil_append, List.append_nil, List.length_cons, List.length_nil, List.map_cons, List.map_nil, Nat.sub_self, frzAt, e_var_v, e_var_w, e_var_t, e_var_i, e_con, e_tup, e_lst, e_bin, e_neg, e_not_v, e_not_t, e_and_v, e_and_t, e_or_v, e_or_t, e_ite_v, e_ite_w, e_ite_t, e_cmp, e_cmp2, e_idx, e_slc, e_rev, e_call, e_isa, e_bi_v, e_bi_w, e_bi_t, e_rng1, e_rng2, e_join, e_count, e_ws_nil, e_ws_cons, e_s_nil, e_s_cons, e_b_nil, e_b_cons, e_B_var, e_B_con, e_B_tup, e_B_lst, e_B_bin, e_B_idx, e_B_slc, e_B_call, e_B_bi, e_B_ite, e_B_lc, e_B_rev, e_o_none, e_o_some, e_if_nil, e_if_one, e_T, e_I, x_nil, x_cons, x_asg, x_own, x_ret, x_ite, x_for, x_frz, bT_name, bT_tup, bTs_nil, bTs_cons, post_v, post_w, post_t', post_i', rb, gtrue]
    rw [x_upd (kvs := asD (.bool true) (bgs (a'.map .str))) rfl, dc_begs _ (hw y hy)]
    simp only [tr_b, as_b, decide_true, ite_true, ite_false, Bool.false_eq_true, rd, rdW, rdB, List.getElem?_cons_zero, List.getElem?_cons_succ, List.set_cons_zero, List.set_cons_succ, List.replicate, List.cons_append, List.nil_append, List.append_nil, List.length_cons, List.length_nil, List.map_cons, List.map_nil, Nat.sub_self, frzAt, e_var_v, e_var_w, e_var_t, e_var_i, e_con, e_tup, e_lst, e_bin, e_neg, e_not_v, e_not_t, e_and_v, e_and_t, e_or_v, e_or_t, e_ite_v, e_ite_w, e_ite_t, e_cmp, e_cmp2, e_idx, e_slc, e_rev, e_call, e_isa, e_bi_v, e_bi_w, e_bi_t, e_rng1, e_rng2, e_join, e_count, e_ws_nil, e_ws_cons, e_s_nil, e_s_cons, e_b_nil, e_b_cons, e_B_var, e_B_con, e_B_tup, e_B_lst, e_B_bin, e_B_idx, e_B_slc, e_B_call, e_B_bi, e_B_ite, e_B_lc, e_B_rev, e_o_none, e_o_some, e_if_nil, e_if_one, e_T, e_I, x_nil, x_cons, x_asg, x_own, x_ret, x_ite, x_for, x_frz, bT_name, bT_tup, bTs_nil, bTs_cons, post_v, post_w, post_t', post_i', rb, gtrue, asDc, g, putAll_asD, bgs_snoc, List.getLast?_append, List.getLast?_singleton, Option.map_some, Option.some_or]
  have d0 : ev (callN tab k) .v (.dic [(.con (.str ("" : Str))), (.con (.bool true))]) [some (.v (strs_ words)), none, none, none] = .ret (.dict (asD (.bool true) [Str.ofString ""])) := rfl
  have lb : (bgs (words.map .str)).length ≤ lim := by
    refine Nat.le_trans (bgs_len words hw) ?_
    have : words.length * 1000 ≤ 1000 * 1000 := Nat.mul_le_mul_right _ hn
    rw [lim_eq']; omega
  show (exs (callN tab k) [.own 1 (.dic [(.con (.str ("" : Str))), (.con (.bool true))]), .frz 0, .for_ (.name 2) (.var 0) bgB, .ret (.bi .tuple [(.bi .sorted [(.var 1)])])] _ >>= _) = _
  have ii : items (strs_ words) = .ret (words.map .str) := id rfl
  simp only [x_cons, x_own, List.map_cons, List.map_nil, List.replicate, List.cons_append, List.nil_append, d0, rb, List.set_cons_zero, List.set_cons_succ, x_frz, frzAt, List.getElem?_cons_zero, x_for, e_I, e_var_i, rd, post_i', ii, asL]
  have e0 : ([some (B.v (strs_ words)), some (B.own (.dict (asD (.bool true) [Str.ofString ""]))), none, none] : Env) = bgI words [] := rfl
  rw [e0, loop, List.nil_append]
  unfold bgI
  simp only [tr_b, as_b, decide_true, ite_true, ite_false, Bool.false_eq_true, rd, rdW, rdB, List.getElem?_cons_zero, List.getElem?_cons_succ, List.set_cons_zero, List.set_cons_succ, List.replicate, List.cons_append, List.nil_append, List.append_nil, List.length_cons, List.length_nil, List.map_cons, List.map_nil, Nat.sub_self, frzAt, e_var_v, e_var_w, e_var_t, e_var_i, e_con, e_tup, e_lst, e_bin, e_neg, e_not_v, e_not_t, e_and_v, e_and_t, e_or_v, e_or_t, e_ite_v, e_ite_w, e_ite_t, e_cmp, e_cmp2, e_idx, e_slc, e_rev, e_call, e_isa, e_bi_v, e_bi_w, e_bi_t, e_rng1, e_rng2, e_join, e_count, e_ws_nil, e_ws_cons, e_s_nil, e_s_cons, e_b_nil, e_b_cons, e_B_var, e_B_con, e_B_tup, e_B_lst, e_B_bin, e_B_idx, e_B_slc, e_B_call, e_B_bi, e_B_ite, e_B_lc, e_B_rev, e_o_none, e_o_some, e_if_nil, e_if_one, e_T, e_I, x_nil, x_cons, x_asg, x_own, x_ret, x_ite, x_for, x_frz, bT_name, bT_tup, bTs_nil, bTs_cons, post_v, post_w, post_t', post_i', rb, gtrue, sorted_asD lb, bi_tup_lst]
theorem whlD_succ (c : Env → Tree Bool) (f : Env → Tree Out) (n : Nat) (ρ : Env) : whlD c f (n + 1) ρ = (c ρ >>= fun k => if k = true then (f ρ >>= fun o => match o with
    | .nx ρ' => whlD c f n ρ'
    | .cnt ρ' => whlD c f n ρ'
    | .brk ρ' => .ret (.nx ρ')
    | .ret d => .ret (.ret d)) else .ret (.nx ρ)) := id rfl
theorem whlD_run {c : Env → Tree Bool} {f : Env → Tree Out} {I : Nat → Env} {j : Nat} (hc : ∀ i, i < j → c (I i) = .ret true) (hf : ∀ i, i < j → f (I i) = .ret (.nx (I (i + 1)))) (hj : c (I j) = .ret false) : ∀ (d i n : Nat), i + d = j → d < n → whlD c f n (I i) = .ret (.nx (I j))
  | 0, i, n + 1, h, _ => by
    have : i = j := by omega
    subst this
    rw [whlD_succ, hj, rb]
    rfl
  | d + 1, i, n + 1, h, hn => by
    rw [whlD_succ, hc i (by omega), rb, if_pos rfl, hf i (by omega), rb]
    exact whlD_run hc hf hj d (i + 1) n (by omega) (by omega)
theorem x_whl (Φ : Phi) (c : E) (b : List S) (ρ : Env) : ex Φ (.whl c b) ρ = whlD (evT Φ c) (exs Φ b) fuel ρ := id rfl
theorem fuel_big {d : Nat} (h : d ≤ 1000) : d < fuel := by
  unfold fuel
  omega
end Pd


namespace Pd
open PySem L2
theorem look_asD (v : D) (l : List Str) (y : Str) : (lookD (.str y) (asD v l)).isSome = decide (y ∈ l) := by
  induction l with
  | nil => simp [asD, lookD]
  | cons x l ih =>
    show (if keyEq (.str x) (.str y) = true then some v else lookD (.str y) (asD v l)).isSome = _
    rw [keyEq_str]
    by_cases h : x = y
    · subst h; simp
    · rw [if_neg (by simpa using h), ih]
      simp [Ne.symm h]
theorem in_asD (v : D) (l : List Str) (y : Str) : dIn (.str y) (.dict (asD v l)) = .ret (decide (y ∈ l)) := by
  show (guard (isKey (.str y)) >>= fun _ => Tree.ret (lookD (.str y) (asD v l)).isSome) = _
  rw [guard_of (show isKey (.str y) = true from rfl), look_asD]
theorem c_in (x y : D) : dCmp .In x y = dIn x y := id rfl
/-- a dict with True at each text of a tuple of texts -/
theorem dc_of (Φ : Phi) (ρ : Env) {it : E} {vs : List Nat} {j : Nat} {ds : List D} {l : List Str} (hd : ds = l.map .str) (hi : evI Φ it ρ = .ret ds) (hl : ds.length ≤ lim) (hj : ∀ d, rd ((wip ρ vs).set j (some (.v d))) j = .ret d) :
    ev Φ .v (.dc (.name j) vs it [] (.var j) (.con (.bool true))) ρ = .ret (.dict (asD (.bool true) (uniq l))) := by
  rw [e_dc, hi]
  simp only [rb, post_v]
  rw [guard_of (decide_eq_true hl), lcP_map (g := fun d => some (d, .bool true)) fun x hx => ?_]
  · simp only [rb]
    have e : ds.filterMap (fun d => some (d, PyData.bool true)) = asD (.bool true) l := by
      rw [fm_some, hd, List.map_map]
      rfl
    rw [e]
    have := putAll_asD (.bool true) l []
    rw [show asD (.bool true) [] = [] from rfl] at this
    rw [this]
    rfl
  · rw [hd] at hx
    obtain ⟨x, _, rfl⟩ := List.mem_map.mp hx
    simp only [bT_name, rb, e_if_nil, ite_true, e_var_v, hj, e_con, post_v]
    rfl
/-- sorted texts as texts again -/
def unsrt (l : List Str) : List Str := (srt l).map toS
theorem srt_str (l : List Str) : srt l = (unsrt l).map .str := by
  unfold unsrt
  rw [List.map_map]
  have : ∀ d ∈ srt l, d = (PyData.str ∘ toS) d := fun d hd => by
    obtain ⟨x, _, rfl⟩ := mem_srt.mp hd
    rfl
  have h2 := map_eq (f := id) (g := PyData.str ∘ toS) (l := srt l) this
  rw [List.map_id] at h2
  exact h2
theorem mem_unsrt {l : List Str} {x : Str} : x ∈ unsrt l ↔ x ∈ l := by
  unfold unsrt
  rw [List.mem_map]
  constructor
  · rintro ⟨d, hd, rfl⟩
    obtain ⟨y, hy, rfl⟩ := mem_srt.mp hd
    exact hy
  · intro h
    exact ⟨.str x, mem_srt.mpr ⟨x, h, rfl⟩, rfl⟩
/-- walks whose text is known -/
def kn (rows : List Str) (K : List Str) (ws : List (List Sq)) : List (List Sq) := ws.filter fun w => decide (txt rows w ∈ K)
theorem lc_known (k : Nat) {rows : List Str} {r c : Nat} (t : Tb rows r c) {K : List Str} {ws : List (List Sq)} {it : E} {x1 x3 x4 x5 x6 x7 : Option B}
    (hi : evI (callN tab (k + 1)) it [some (.v (tbl rows)), x1, some (.own (.dict (asD (.bool true) K))), x3, x4, x5, x6, x7] = .ret (ws.map wk)) (hl : ws.length ≤ lim) (hw : ∀ w ∈ ws, onTab r c w ∧ w.length ≤ 1000) :
    ev (callN tab (k + 1)) .v (.lc (.name 5) [5] it [(.cmp .In (.call 3 [(.var 0), (.var 5)]) (.var 2))] (.var 5)) [some (.v (tbl rows)), x1, some (.own (.dict (asD (.bool true) K))), x3, x4, x5, x6, x7] = .ret (wks (kn rows K ws)) := by
  have hl2 : decide ((ws.map wk).length ≤ lim) = true := by rw [List.length_map]; exact decide_eq_true hl
  rw [e_lc, hi]
  simp only [rb, post_v, hl2, gtrue]
  rw [lcD_map (g := fun y => if decide (txt rows (unwk y) ∈ K) = true then some y else none) fun x hx => ?_]
  · simp only [rb]
    have e : ∀ l : List (List Sq), (l.map wk).filterMap (fun y => if decide (txt rows (unwk y) ∈ K) = true then some y else none) = (l.filter fun w => decide (txt rows w ∈ K)).map wk := fun l => by
      induction l with
      | nil => rfl
      | cons v l ih =>
        rw [List.map_cons, List.filterMap_cons, List.filter_cons, ih, unwk_wk]
        cases decide (txt rows v ∈ K) <;> rfl
    rw [e]
    rfl
  · obtain ⟨w, hmem, rfl⟩ := List.mem_map.mp hx
    obtain ⟨h1, h2⟩ := hw w hmem
    rw [unwk_wk]
    simp only [tr_b, as_b, decide_true, ite_true, ite_false, Bool.false_eq_true, rd, rdW, rdB, List.getElem?_cons_zero, List.getElem?_cons_succ, List.set_cons_zero, List.set_cons_succ, List.replicate, List.cons_append, List.nil_append, List.append_nil, List.length_cons, List.length_nil, List.map_cons, List.map_nil, Nat.sub_self, frzAt, e_var_v, e_var_w, e_var_t, e_var_i, e_con, e_tup, e_lst, e_bin, e_neg, e_not_v, e_not_t, e_and_v, e_and_t, e_or_v, e_or_t, e_ite_v, e_ite_w, e_ite_t, e_cmp, e_cmp2, e_idx, e_slc, e_rev, e_call, e_isa, e_bi_v, e_bi_w, e_bi_t, e_rng1, e_rng2, e_join, e_count, e_ws_nil, e_ws_cons, e_s_nil, e_s_cons, e_b_nil, e_b_cons, e_B_var, e_B_con, e_B_tup, e_B_lst, e_B_bin, e_B_idx, e_B_slc, e_B_call, e_B_bi, e_B_ite, e_B_lc, e_B_rev, e_o_none, e_o_some, e_if_nil, e_if_one, e_T, e_I, x_nil, x_cons, x_asg, x_own, x_ret, x_ite, x_for, x_frz, bT_name, bT_tup, bTs_nil, bTs_cons, post_v, post_w, post_t', post_i', rb, gtrue, Pd.wip, m_text k t h1 (by rw [lim_eq']; omega), c_in, in_asD]
    cases decide (txt rows w ∈ K) <;> rfl
/-- the texts of walks into a found dict -/
theorem dc_texts (k : Nat) {rows : List Str} {r c : Nat} (t : Tb rows r c) {ws : List (List Sq)} (hl : ws.length ≤ lim) (hw : ∀ w ∈ ws, onTab r c w ∧ w.length ≤ 1000) {x1 x2 x3 x5 x6 x7 : Option B} :
    ev (callN tab (k + 1)) .v (.dc (.name 5) [5] (.var 4) [] (.call 3 [(.var 0), (.var 5)]) (.con (.bool true))) [some (.v (tbl rows)), x1, x2, x3, some (.v (wks ws)), x5, x6, x7] = .ret (.dict (asD (.bool true) (uniq (ws.map (txt rows))))) := by
  have hl2 : decide ((ws.map wk).length ≤ lim) = true := by rw [List.length_map]; exact decide_eq_true hl
  have hi : items (wks ws) = .ret (ws.map wk) := id rfl
  rw [e_dc]
  simp only [e_I, e_var_i, rd, List.getElem?_cons_zero, List.getElem?_cons_succ, post_i', hi, rb, asL, hl2, gtrue, post_v]
  rw [lcP_map (g := fun y => some (.str (txt rows (unwk y)), .bool true)) fun x hx => ?_]
  · simp only [rb]
    rw [fmP (rows := rows) (v := .bool true) fun w _ => by rw [unwk_wk]]
    have := putAll_asD (.bool true) (ws.map (txt rows)) []
    rw [show asD (.bool true) [] = [] from rfl] at this
    rw [this]
    rfl
  · obtain ⟨w, hmem, rfl⟩ := List.mem_map.mp hx
    obtain ⟨h1, h2⟩ := hw w hmem
    rw [unwk_wk]
    simp only [tr_b, as_b, decide_true, ite_true, ite_false, Bool.false_eq_true, rd, rdW, rdB, List.getElem?_cons_zero, List.getElem?_cons_succ, List.set_cons_zero, List.set_cons_succ, List.replicate, List.cons_append, List.nil_append, List.append_nil, List.length_cons, List.length_nil, List.map_cons, List.map_nil, Nat.sub_self, frzAt, e_var_v, e_var_w, e_var_t, e_var_i, e_con, e_tup, e_lst, e_bin, e_neg, e_not_v, e_not_t, e_and_v, e_and_t, e_or_v, e_or_t, e_ite_v, e_ite_w, e_ite_t, e_cmp, e_cmp2, e_idx, e_slc, e_rev, e_call, e_isa, e_bi_v, e_bi_w, e_bi_t, e_rng1, e_rng2, e_join, e_count, e_ws_nil, e_ws_cons, e_s_nil, e_s_cons, e_b_nil, e_b_cons, e_B_var, e_B_con, e_B_tup, e_B_lst, e_B_bin, e_B_idx, e_B_slc, e_B_call, e_B_bi, e_B_ite, e_B_lc, e_B_rev, e_o_none, e_o_some, e_if_nil, e_if_one, e_T, e_I, x_nil, x_cons, x_asg, x_own, x_ret, x_ite, x_for, x_frz, bT_name, bT_tup, bTs_nil, bTs_cons, post_v, post_w, post_t', post_i', rb, gtrue, Pd.wip, m_text k t h1 (by rw [lim_eq']; omega)]
    rfl
def wp (rows : List Str) (r c : Nat) (K : List Str) : Nat → List (List Sq)
  | 0 => kn rows K (ones r c)
  | i + 1 => kn rows K (longer r c (wp rows r c K i))
def wf (rows : List Str) (r c : Nat) (K : List Str) : Nat → List Str
  | 0 => []
  | i + 1 => (uniq ((wp rows r c K i).map (txt rows))).foldl put1 (wf rows r c K i)
def wI (rows : List Str) (r c : Nat) (K : List Str) (words : D) (i : Nat) : Env :=
  [some (.v (tbl rows)), some (.v words), some (.own (.dict (asD (.bool true) K))), none, some (.own (wks (wp rows r c K i))), none, none, some (.own (.dict (asD (.bool true) (wf rows r c K i))))]
def wB : List S := [.frz 4, .frz 0, .upd 7 (.dc (.name 5) [5] (.var 4) [] (.call 3 [(.var 0), (.var 5)]) (.con (.bool true))), .frz 0, .frz 4, .own 4 (.lc (.name 5) [5] (.call 4 [(.var 0), (.var 4)]) [(.cmp .In (.call 3 [(.var 0), (.var 5)]) (.var 2))] (.var 5))]
theorem w_turn (k : Nat) {rows : List Str} {r c : Nat} (t : Tb rows r c) {K : List Str} {words : D} {i : Nat}
    (h1 : ∀ w ∈ wp rows r c K i, onTab r c w ∧ w ≠ [] ∧ w.length ≤ 900) (h2 : (wp rows r c K i).length ≤ lim) (h3 : (longer r c (wp rows r c K i)).length ≤ lim) (h4 : (wf rows r c K i).length + (wp rows r c K i).length ≤ lim) :
    exs (callN tab (k + 3)) wB (wI rows r c K words i) = .ret (.nx (wI rows r c K words (i + 1))) := by
  have g : decide ((asD (.bool true) (wf rows r c K i)).length + (asD (.bool true) (uniq ((wp rows r c K i).map (txt rows)))).length ≤ lim) = true := by
    have := len_uniq ((wp rows r c K i).map (txt rows))
    rw [List.length_map] at this
    rw [len_asD, len_asD]
    exact decide_eq_true (by omega)
  have long := m_longer k t (ws := wp rows r c K i) (fun w hw => ⟨(h1 w hw).2.1, by have := (h1 w hw).2.2; omega⟩) h3
  have hi : items (wks (longer r c (wp rows r c K i))) = .ret ((longer r c (wp rows r c K i)).map wk) := id rfl
  unfold wI wB
  simp only [x_cons, x_frz, frzAt, List.getElem?_cons_zero, List.getElem?_cons_succ, List.set_cons_zero, List.set_cons_succ, rb]
  rw [x_upd (kvs := asD (.bool true) (wf rows r c K i)) rfl, dc_texts (k + 2) t h2 fun w hw => ⟨(h1 w hw).1, by have := (h1 w hw).2.2; omega⟩]
  simp only [rb, asDc, g, gtrue, putAll_asD, List.set_cons_zero, List.set_cons_succ, List.getElem?_cons_zero, List.getElem?_cons_succ, x_own]
  rw [lc_known (k + 2) t (ws := longer r c (wp rows r c K i)) (by
      simp only [e_I, e_call, e_b_cons, e_b_nil, e_B_var, rdB, List.getElem?_cons_zero, List.getElem?_cons_succ, rb, long, post_i', hi, asL]) h3 fun w hw => by
      obtain ⟨v, hv, hw⟩ := List.mem_flatMap.mp hw
      have := ons_len hw
      have hv1 := h1 v hv
      exact ⟨ons_on hv1.1 hw, by omega⟩]
  rfl
theorem wp_sub {rows : List Str} {r c : Nat} {K : List Str} : ∀ {i : Nat} {v : List Sq}, v ∈ wp rows r c K i → v ∈ walks r c i ∧ txt rows v ∈ K
  | 0, v, h => by
    have h := List.mem_filter.mp h
    exact ⟨h.1, of_decide_eq_true h.2⟩
  | i + 1, v, h => by
    have h := List.mem_filter.mp h
    obtain ⟨w, hw, hv⟩ := List.mem_flatMap.mp h.1
    exact ⟨List.mem_flatMap.mpr ⟨w, (wp_sub hw).1, hv⟩, of_decide_eq_true h.2⟩
theorem wp_few {rows : List Str} {r c : Nat} {K : List Str} : ∀ i : Nat, (wp rows r c K i).length ≤ (r * c) ^ (i + 1)
  | 0 => Nat.le_trans (List.length_filter_le _ _) (walks_few 0)
  | i + 1 => by
    refine Nat.le_trans (List.length_filter_le _ _) (Nat.le_trans (flat_few fun w _ => ons_few w) ?_)
    rw [Nat.pow_succ]
    exact Nat.mul_le_mul_right _ (wp_few i)
theorem wp_nil {rows : List Str} {r c L : Nat} {K : List Str} (hK : ∀ x ∈ K, x.length ≤ L) {i : Nat} (hi : L ≤ i) : wp rows r c K i = [] := by
  cases q : wp rows r c K i with
  | nil => rfl
  | cons v l =>
    obtain ⟨h1, h2⟩ := wp_sub (show v ∈ wp rows r c K i by rw [q]; exact List.mem_cons_self)
    have := hK _ h2
    rw [txt_len, walks_len h1] at this
    omega
theorem mem_wf {rows : List Str} {r c : Nat} {K : List Str} {x : Str} : ∀ {j : Nat}, x ∈ wf rows r c K j ↔ ∃ i, i < j ∧ ∃ w ∈ wp rows r c K i, x = txt rows w
  | 0 => by
    constructor
    · intro h; cases h
    · rintro ⟨i, h, _⟩; omega
  | j + 1 => by
    show x ∈ (uniq ((wp rows r c K j).map (txt rows))).foldl put1 (wf rows r c K j) ↔ _
    rw [mem_fold, mem_uniq, mem_wf, List.mem_map]
    constructor
    · rintro (⟨i, h1, h2⟩ | ⟨w, h1, h2⟩)
      · exact ⟨i, by omega, h2⟩
      · exact ⟨j, by omega, w, h1, h2.symm⟩
    · rintro ⟨i, h1, w, h2, h3⟩
      by_cases e : i = j
      · subst e; exact .inr ⟨w, h2, h3.symm⟩
      · exact .inl ⟨i, by omega, w, h2, h3⟩
/-- the first empty one -/
theorem first_nil (P : Nat → Prop) (dec : ∀ i, P i ∨ ¬ P i) : ∀ n : Nat, P n → ∃ j, j ≤ n ∧ P j ∧ ∀ i, i < j → ¬ P i
  | 0, h => ⟨0, Nat.le_refl _, h, fun i hi => by omega⟩
  | n + 1, h => by
    by_cases q : ∃ i, i ≤ n ∧ P i
    · obtain ⟨i, hi, pi⟩ := q
      have : ∀ m, m ≤ n → P m → ∃ j, j ≤ m ∧ P j ∧ ∀ i, i < j → ¬ P i := fun m hm pm => first_nil P dec m pm
      obtain ⟨j, h1, h2, h3⟩ := this i hi pi
      exact ⟨j, by omega, h2, h3⟩
    · exact ⟨n + 1, Nat.le_refl _, h, fun i hi pi => q ⟨i, by omega, pi⟩⟩
termination_by n => n
end Pd


namespace Pd
open PySem L2
def knownOf (words : List Str) : List Str := uniq (unsrt (bgs (words.map .str)))
theorem mem_bgs : ∀ (a : List Str) (x : Str), x ∈ bgs (a.map .str) ↔ x = Str.ofString "" ∨ ∃ y ∈ a, x ∈ begs y := by
  intro a
  induction h : a.length generalizing a with
  | zero =>
    intro x
    have : a = [] := List.eq_nil_of_length_eq_zero h
    subst this
    show x ∈ [Str.ofString ""] ↔ _
    simp
  | succ n ih =>
    intro x
    have hne : a ≠ [] := fun z => by rw [z] at h; simp at h
    obtain ⟨init, z, rfl⟩ : ∃ init z, a = init ++ [z] := ⟨a.dropLast, a.getLast hne, (List.dropLast_concat_getLast hne).symm⟩
    have hn : init.length = n := by rw [List.length_append, List.length_singleton] at h; omega
    rw [List.map_append]
    show x ∈ bgs (init.map .str ++ [.str z]) ↔ _
    rw [bgs_snoc, mem_fold, mem_uniq, ih init hn]
    constructor
    · rintro ((h | ⟨y, hy, h⟩) | h)
      · exact .inl h
      · exact .inr ⟨y, List.mem_append_left _ hy, h⟩
      · exact .inr ⟨z, List.mem_append_right _ List.mem_cons_self, h⟩
    · rintro (h | ⟨y, hy, h⟩)
      · exact .inl (.inl h)
      · rcases List.mem_append.mp hy with hy | hy
        · exact .inl (.inr ⟨y, hy, h⟩)
        · rw [List.mem_singleton.mp hy] at h; exact .inr h
theorem mem_known {words : List Str} {x : Str} : x ∈ knownOf words ↔ x = Str.ofString "" ∨ ∃ y ∈ words, x ∈ begs y := by
  unfold knownOf
  rw [mem_uniq, mem_unsrt, mem_bgs]
theorem begs_len {x y : Str} (h : x ∈ begs y) : x.length ≤ y.length := by
  obtain ⟨k, hk, rfl⟩ := List.mem_map.mp h
  have := List.mem_range.mp hk
  rw [mk_len, List.length_take]
  omega
theorem known_len {words : List Str} {L : Nat} (hw : ∀ x ∈ words, x.length ≤ L) : ∀ x ∈ knownOf words, x.length ≤ L := fun x h => by
  rcases mem_known.mp h with rfl | ⟨y, hy, h⟩
  · exact Nat.zero_le _
  · exact Nat.le_trans (begs_len h) (hw y hy)
theorem tr_wks (ws : List (List Sq)) : truth (wks ws) = .ret (!ws.isEmpty) := by
  unfold wks
  rw [tr_lst]
  cases ws <;> rfl
theorem w_while (k : Nat) {rows : List Str} {r c : Nat} (t : Tb rows r c) (h9 : r * c ≤ 9) {K : List Str} (hK : ∀ x ∈ K, x.length ≤ 4) {words : D} :
    ∃ j, j ≤ 4 ∧ wp rows r c K j = [] ∧ (∀ i, i < j → wp rows r c K i ≠ []) ∧ (wf rows r c K j).length ≤ lim ∧ ex (callN tab (k + 3)) (.whl (.var 4) wB) (wI rows r c K words 0) = .ret (.nx (wI rows r c K words j)) := by
  obtain ⟨j, hj, h1, h2⟩ := first_nil (fun i => wp rows r c K i = []) (fun i => Classical.em _) 4 (wp_nil hK (Nat.le_refl _))
  refine ⟨j, hj, h1, h2, ?_⟩
  have wfl : ∀ i, i ≤ 4 → (wf rows r c K i).length ≤ i * 9 ^ 5 := fun i => by
    induction i with
    | zero => intro _; exact Nat.zero_le _
    | succ i ih =>
      intro hi
      have a := ih (by omega)
      have b := len_fold (uniq ((wp rows r c K i).map (txt rows))) (wf rows r c K i)
      have d := len_uniq ((wp rows r c K i).map (txt rows))
      have e := wp_few (rows := rows) (r := r) (c := c) (K := K) i
      have f : (r * c) ^ (i + 1) ≤ 9 ^ 5 := Nat.le_trans (Nat.pow_le_pow_left h9 _) (Nat.pow_le_pow_right (by omega) (by omega))
      rw [List.length_map] at d
      show ((uniq ((wp rows r c K i).map (txt rows))).foldl put1 (wf rows r c K i)).length ≤ _
      rw [Nat.succ_mul]
      omega
  refine ⟨Nat.le_trans (wfl j hj) (by
    have : j * 9 ^ 5 ≤ 4 * 9 ^ 5 := Nat.mul_le_mul_right _ hj
    have c1 : 4 * 9 ^ 5 = 236196 := by decide
    rw [lim_eq']; omega), ?_⟩
  rw [x_whl]
  refine whlD_run (I := wI rows r c K words) (fun i hi => ?_) (fun i hi => ?_) ?_ j 0 fuel (Nat.zero_add j) (fuel_big (by omega))
  · have ne : (wp rows r c K i).isEmpty = false := by
      cases q : wp rows r c K i with
      | nil => exact absurd q (h2 i hi)
      | cons _ _ => rfl
    unfold wI
    simp only [e_T, e_var_t, rdW, List.getElem?_cons_zero, List.getElem?_cons_succ, post_t', tr_wks, ne, Bool.not_false, rb, as_b]
  · have p1 : (r * c) ^ (i + 1) ≤ 9 ^ 5 := Nat.le_trans (Nat.pow_le_pow_left h9 _) (Nat.pow_le_pow_right (by omega) (by omega))
    have e := wp_few (rows := rows) (r := r) (c := c) (K := K) i
    have a := wfl i (by omega)
    refine w_turn k t (fun w hw => ?_) (Nat.le_trans e (lim_pow h9 (by omega))) (Nat.le_trans (flat_few fun w _ => ons_few w) (Nat.le_trans (Nat.mul_le_mul_right _ e) ?_)) ?_
    · have hw := (wp_sub hw).1
      have hl := walks_len hw
      exact ⟨walks_on hw, fun z => by rw [z] at hl; simp at hl, by omega⟩
    · rw [← Nat.pow_succ]
      exact lim_pow h9 (by omega)
    · have : i * 9 ^ 5 ≤ 4 * 9 ^ 5 := Nat.mul_le_mul_right _ (by omega)
      have c1 : 4 * 9 ^ 5 = 236196 := by decide
      have c2 : 9 ^ 5 = 59049 := by decide
      rw [lim_eq']
      omega
  · unfold wI
    simp only [e_T, e_var_t, rdW, List.getElem?_cons_zero, List.getElem?_cons_succ, post_t', tr_wks, h1, List.isEmpty_nil, Bool.not_true, rb, as_b]
theorem m_wb (k : Nat) {rows : List Str} {r c : Nat} (t : Tb rows r c) (h9 : r * c ≤ 9) {words : List Str} (hw : ∀ x ∈ words, x.length ≤ 4) (hn : words.length ≤ 1000) :
    ∃ j, j ≤ 4 ∧ wp rows r c (knownOf words) j = [] ∧ (∀ i, i < j → wp rows r c (knownOf words) i ≠ []) ∧ (wf rows r c (knownOf words) j).length ≤ lim ∧ callN tab (k + 4) 14 [.v (tbl rows), .v (strs_ words)] = .ret (.tuple (srt (wf rows r c (knownOf words) j))) := by
  obtain ⟨j, hj, h1, h2, lf, h3⟩ := w_while k t h9 (known_len hw) (words := strs_ words)
  refine ⟨j, hj, h1, h2, lf, ?_⟩
  show runF (callN tab (k + 3)) ⟨2, 8, b_walked_beginnings⟩ [.v (tbl rows), .v (strs_ words)] = _
  rw [runF_eq (show ([B.v (tbl rows), B.v (strs_ words)] : List B).length = 2 from rfl)]
  have lq : ((sqs r c).map sq).length ≤ lim := by rw [List.length_map, len_sqs]; exact Nat.le_trans h9 (by rw [lim_eq']; decide)
  have bl : (bgs (words.map .str)).length ≤ lim := by
    refine Nat.le_trans (bgs_len words fun x hx => Nat.le_trans (hw x hx) (by omega)) ?_
    have : words.length * 1000 ≤ 1000 * 1000 := Nat.mul_le_mul_right _ hn
    rw [lim_eq']; omega
  have sl : (srt (bgs (words.map .str))).length ≤ lim := by
    unfold srt
    rw [List.length_mergeSort, List.length_map]
    exact bl
  have beg := m_begins (k + 2) (words := words) (fun x hx => Nat.le_trans (hw x hx) (by omega)) hn
  have known : ev (callN tab (k + 3)) .v (.dc (.name 3) [3] (.call 13 [(.var 1)]) [] (.var 3) (.con (.bool true))) [some (.v (tbl rows)), some (.v (strs_ words)), none, none, none, none, none, none] = .ret (.dict (asD (.bool true) (knownOf words))) := by
    refine dc_of _ _ (srt_str _) ?_ sl fun d => rfl
    simp only [e_I, e_call, e_b_cons, e_b_nil, e_B_var, rdB, List.getElem?_cons_zero, List.getElem?_cons_succ, rb, beg, post_i', it_tup, asL]
  have ones1 : evI (callN tab (k + 3)) (.lc (.name 6) [6] (.call 1 [(.var 0)]) [] (.tup [(.var 6)])) [some (.v (tbl rows)), some (.v (strs_ words)), some (.own (.dict (asD (.bool true) (knownOf words)))), none, none, none, none, none] = .ret ((ones r c).map wk) := by
    simp only [tr_b, as_b, decide_true, ite_true, ite_false, Bool.false_eq_true, rd, rdW, rdB, List.getElem?_cons_zero, List.getElem?_cons_succ, List.set_cons_zero, List.set_cons_succ, List.replicate, List.cons_append, List.nil_append, List.append_nil, List.length_cons, List.length_nil, List.map_cons, List.map_nil, Nat.sub_self, frzAt, e_var_v, e_var_w, e_var_t, e_var_i, e_con, e_tup, e_lst, e_bin, e_neg, e_not_v, e_not_t, e_and_v, e_and_t, e_or_v, e_or_t, e_ite_v, e_ite_w, e_ite_t, e_cmp, e_cmp2, e_idx, e_slc, e_rev, e_call, e_isa, e_bi_v, e_bi_w, e_bi_t, e_rng1, e_rng2, e_join, e_count, e_ws_nil, e_ws_cons, e_s_nil, e_s_cons, e_b_nil, e_b_cons, e_B_var, e_B_con, e_B_tup, e_B_lst, e_B_bin, e_B_idx, e_B_slc, e_B_call, e_B_bi, e_B_ite, e_B_lc, e_B_rev, e_o_none, e_o_some, e_if_nil, e_if_one, e_T, e_I, x_nil, x_cons, x_asg, x_own, x_ret, x_ite, x_for, x_frz, bT_name, bT_tup, bTs_nil, bTs_cons, post_v, post_w, post_t', post_i', rb, gtrue, e_lc, m_squares (k + 2) t, it_lst, asL, decide_eq_true lq, Pd.wip, d1lim]
    rw [lcD_map (g := fun y => some (.tuple [y])) fun x hx => rfl, fm_some, List.map_map]
    simp only [rb, post_i', it_lst, asL]
    show Tree.ret _ = Tree.ret (((sqs r c).map fun a => [a]).map wk)
    rw [List.map_map]
    rfl
  have ons1 := lc_known (k + 2) t (K := knownOf words) (ws := ones r c) ones1 (Nat.le_trans (walks_few 0) (lim_pow h9 (by omega))) fun w hw => ⟨walks_on (m := 0) hw, by have := walks_len (m := 0) hw; omega⟩
  have d0 : ∀ ρ, ev (callN tab (k + 3)) .v (.dic []) ρ = .ret (.dict (asD (.bool true) [])) := fun ρ => rfl
  show (exs (callN tab (k + 3)) [.frz 1, .own 2 (.dc (.name 3) [3] (.call 13 [(.var 1)]) [] (.var 3) (.con (.bool true))), .frz 0, .own 4 (.lc (.name 5) [5] (.lc (.name 6) [6] (.call 1 [(.var 0)]) [] (.tup [(.var 6)])) [(.cmp .In (.call 3 [(.var 0), (.var 5)]) (.var 2))] (.var 5)), .own 7 (.dic []), .whl (.var 4) wB, .ret (.bi .tuple [(.bi .sorted [(.var 7)])])] _ >>= _) = _
  simp only [x_cons, x_own, List.map_cons, List.map_nil, List.replicate, List.cons_append, List.nil_append, x_frz, frzAt, List.getElem?_cons_zero, List.getElem?_cons_succ, rb, known, List.set_cons_zero, List.set_cons_succ, ons1, d0]
  have e0 : ([some (B.v (tbl rows)), some (B.v (strs_ words)), some (B.own (.dict (asD (.bool true) (knownOf words)))), none, some (B.own (wks (kn rows (knownOf words) (ones r c)))), none, none, some (B.own (.dict (asD (.bool true) [])))] : Env) = wI rows r c (knownOf words) (strs_ words) 0 := rfl
  rw [e0, h3]
  unfold wI
  simp only [tr_b, as_b, decide_true, ite_true, ite_false, Bool.false_eq_true, rd, rdW, rdB, List.getElem?_cons_zero, List.getElem?_cons_succ, List.set_cons_zero, List.set_cons_succ, List.replicate, List.cons_append, List.nil_append, List.append_nil, List.length_cons, List.length_nil, List.map_cons, List.map_nil, Nat.sub_self, frzAt, e_var_v, e_var_w, e_var_t, e_var_i, e_con, e_tup, e_lst, e_bin, e_neg, e_not_v, e_not_t, e_and_v, e_and_t, e_or_v, e_or_t, e_ite_v, e_ite_w, e_ite_t, e_cmp, e_cmp2, e_idx, e_slc, e_rev, e_call, e_isa, e_bi_v, e_bi_w, e_bi_t, e_rng1, e_rng2, e_join, e_count, e_ws_nil, e_ws_cons, e_s_nil, e_s_cons, e_b_nil, e_b_cons, e_B_var, e_B_con, e_B_tup, e_B_lst, e_B_bin, e_B_idx, e_B_slc, e_B_call, e_B_bi, e_B_ite, e_B_lc, e_B_rev, e_o_none, e_o_some, e_if_nil, e_if_one, e_T, e_I, x_nil, x_cons, x_asg, x_own, x_ret, x_ite, x_for, x_frz, bT_name, bT_tup, bTs_nil, bTs_cons, post_v, post_w, post_t', post_i', rb, gtrue, sorted_asD lf, bi_tup_lst]
end Pd


namespace Pd
open PySem L2
theorem beg_known {words : List Str} {rows : List Str} {w : List Sq} {i : Nat} (hi : i < w.length) (hx : txt rows w ∈ words) : txt rows (w.take (i + 1)) ∈ knownOf words := by
  refine mem_known.mpr (.inr ⟨_, hx, ?_⟩)
  unfold begs
  refine List.mem_map.mpr ⟨i, List.mem_range.mpr (by rw [txt_len]; exact hi), ?_⟩
  rw [txt_cps]
  show mk ((w.map (lt rows)).take (i + 1)) = mk ((w.take (i + 1)).map (lt rows))
  rw [List.map_take]
theorem take_wp {rows : List Str} {r c : Nat} {words : List Str} {m : Nat} {w : List Sq} (hw : w ∈ walks r c m) (hx : txt rows w ∈ words) : ∀ i, i ≤ m → w.take (i + 1) ∈ wp rows r c (knownOf words) i
  | 0, h => List.mem_filter.mpr ⟨walks_take hw 0 h, decide_eq_true (beg_known (by rw [walks_len hw]; omega) hx)⟩
  | i + 1, h => by
    have ih := take_wp hw hx i (by omega)
    refine List.mem_filter.mpr ⟨?_, decide_eq_true (beg_known (by rw [walks_len hw]; omega) hx)⟩
    have h2 := walks_take hw (i + 1) h
    obtain ⟨v, hv, hv2⟩ := List.mem_flatMap.mp h2
    have hl := walks_len hv
    obtain ⟨b, hb⟩ := ons_eq hv2
    have e : v = w.take (i + 1) := by
      have h3 := congrArg (List.take (i + 1)) hb
      rw [List.take_take, Nat.min_eq_left (by omega), List.take_left' hl] at h3
      exact h3.symm
    rw [e] at hv2
    exact List.mem_flatMap.mpr ⟨_, ih, hv2⟩
theorem found_all {rows : List Str} {r c : Nat} {words : List Str} {j : Nat} (hnil : wp rows r c (knownOf words) j = []) {m : Nat} {w : List Sq} (hw : w ∈ walks r c m) (hx : txt rows w ∈ words) : txt rows w ∈ wf rows r c (knownOf words) j := by
  have hm : m < j := by
    refine Nat.lt_of_not_le fun h => ?_
    have := take_wp hw hx j h
    rw [hnil] at this
    cases this
  refine mem_wf.mpr ⟨m, hm, w.take (m + 1), take_wp hw hx m (Nat.le_refl _), ?_⟩
  rw [List.take_of_length_le (by rw [walks_len hw]; omega)]
theorem m_walked (k : Nat) {rows : List Str} {r c : Nat} (t : Tb rows r c) (h9 : r * c ≤ 9) {words : List Str} (hw : ∀ x ∈ words, x.length ≤ 4) (hn : words.length ≤ 1000)
    (hall : ∀ x ∈ words, ∃ m w, w ∈ walks r c m ∧ x = txt rows w) : callN tab (k + 5) 12 [.v (tbl rows), .v (strs_ words)] = .ret (strs_ words) := by
  obtain ⟨j, hj, h1, h2, lf, h3⟩ := m_wb k t h9 hw hn
  show runF (callN tab (k + 4)) ⟨2, 5, b_walked⟩ [.v (tbl rows), .v (strs_ words)] = _
  rw [runF_eq (show ([B.v (tbl rows), B.v (strs_ words)] : List B).length = 2 from rfl)]
  have dd : ev (callN tab (k + 4)) .v (.dc (.name 3) [3] (.call 14 [(.var 0), (.var 1)]) [] (.var 3) (.con (.bool true))) [some (.v (tbl rows)), some (.v (strs_ words)), none, none, none] = .ret (.dict (asD (.bool true) (uniq (unsrt (wf rows r c (knownOf words) j))))) := by
    refine dc_of _ _ (srt_str _) ?_ ?_ fun d => rfl
    · simp only [e_I, e_call, e_b_cons, e_b_nil, e_B_var, rdB, List.getElem?_cons_zero, List.getElem?_cons_succ, rb, h3, post_i', it_tup, asL]
    · unfold srt
      rw [List.length_mergeSort, List.length_map]
      exact lf
  have ll : decide ((words.map PyData.str).length ≤ lim) = true := by rw [List.length_map, lim_eq']; exact decide_eq_true (by omega)
  have ii : items (strs_ words) = .ret (words.map .str) := id rfl
  have lcd : ev (callN tab (k + 4)) .w (.lc (.name 4) [4] (.var 1) [(.cmp .In (.var 4) (.var 2))] (.var 4)) [some (.v (tbl rows)), some (.v (strs_ words)), some (.own (.dict (asD (.bool true) (uniq (unsrt (wf rows r c (knownOf words) j)))))), none, none] = .ret (.list (words.map .str)) := by
    simp only [tr_b, as_b, decide_true, ite_true, ite_false, Bool.false_eq_true, rd, rdW, rdB, List.getElem?_cons_zero, List.getElem?_cons_succ, List.set_cons_zero, List.set_cons_succ, List.replicate, List.cons_append, List.nil_append, List.append_nil, List.length_cons, List.length_nil, List.map_cons, List.map_nil, Nat.sub_self, frzAt, e_var_v, e_var_w, e_var_t, e_var_i, e_con, e_tup, e_lst, e_bin, e_neg, e_not_v, e_not_t, e_and_v, e_and_t, e_or_v, e_or_t, e_ite_v, e_ite_w, e_ite_t, e_cmp, e_cmp2, e_idx, e_slc, e_rev, e_call, e_isa, e_bi_v, e_bi_w, e_bi_t, e_rng1, e_rng2, e_join, e_count, e_ws_nil, e_ws_cons, e_s_nil, e_s_cons, e_b_nil, e_b_cons, e_B_var, e_B_con, e_B_tup, e_B_lst, e_B_bin, e_B_idx, e_B_slc, e_B_call, e_B_bi, e_B_ite, e_B_lc, e_B_rev, e_o_none, e_o_some, e_if_nil, e_if_one, e_T, e_I, x_nil, x_cons, x_asg, x_own, x_ret, x_ite, x_for, x_frz, bT_name, bT_tup, bTs_nil, bTs_cons, post_v, post_w, post_t', post_i', rb, gtrue, e_lc, ii, asL, ll, Pd.wip]
    rw [lcD_map (g := fun y => some (id y)) fun x hx => ?_]
    · rw [fm_some, List.map_id]
      simp only [rb]
    · obtain ⟨y, hy, rfl⟩ := List.mem_map.mp hx
      obtain ⟨m, w, hm, rfl⟩ := hall y hy
      have hin : txt rows w ∈ uniq (unsrt (wf rows r c (knownOf words) j)) := mem_uniq.mpr (mem_unsrt.mpr (found_all h1 hm hy))
      simp only [tr_b, as_b, decide_true, ite_true, ite_false, Bool.false_eq_true, rd, rdW, rdB, List.getElem?_cons_zero, List.getElem?_cons_succ, List.set_cons_zero, List.set_cons_succ, List.replicate, List.cons_append, List.nil_append, List.append_nil, List.length_cons, List.length_nil, List.map_cons, List.map_nil, Nat.sub_self, frzAt, e_var_v, e_var_w, e_var_t, e_var_i, e_con, e_tup, e_lst, e_bin, e_neg, e_not_v, e_not_t, e_and_v, e_and_t, e_or_v, e_or_t, e_ite_v, e_ite_w, e_ite_t, e_cmp, e_cmp2, e_idx, e_slc, e_rev, e_call, e_isa, e_bi_v, e_bi_w, e_bi_t, e_rng1, e_rng2, e_join, e_count, e_ws_nil, e_ws_cons, e_s_nil, e_s_cons, e_b_nil, e_b_cons, e_B_var, e_B_con, e_B_tup, e_B_lst, e_B_bin, e_B_idx, e_B_slc, e_B_call, e_B_bi, e_B_ite, e_B_lc, e_B_rev, e_o_none, e_o_some, e_if_nil, e_if_one, e_T, e_I, x_nil, x_cons, x_asg, x_own, x_ret, x_ite, x_for, x_frz, bT_name, bT_tup, bTs_nil, bTs_cons, post_v, post_w, post_t', post_i', rb, gtrue, c_in, in_asD, decide_eq_true hin, id]
  unfold b_walked
  simp only [tr_b, as_b, decide_true, ite_true, ite_false, Bool.false_eq_true, rd, rdW, rdB, List.getElem?_cons_zero, List.getElem?_cons_succ, List.set_cons_zero, List.set_cons_succ, List.replicate, List.cons_append, List.nil_append, List.append_nil, List.length_cons, List.length_nil, List.map_cons, List.map_nil, Nat.sub_self, frzAt, e_var_v, e_var_w, e_var_t, e_var_i, e_con, e_tup, e_lst, e_bin, e_neg, e_not_v, e_not_t, e_and_v, e_and_t, e_or_v, e_or_t, e_ite_v, e_ite_w, e_ite_t, e_cmp, e_cmp2, e_idx, e_slc, e_rev, e_call, e_isa, e_bi_v, e_bi_w, e_bi_t, e_rng1, e_rng2, e_join, e_count, e_ws_nil, e_ws_cons, e_s_nil, e_s_cons, e_b_nil, e_b_cons, e_B_var, e_B_con, e_B_tup, e_B_lst, e_B_bin, e_B_idx, e_B_slc, e_B_call, e_B_bi, e_B_ite, e_B_lc, e_B_rev, e_o_none, e_o_some, e_if_nil, e_if_one, e_T, e_I, x_nil, x_cons, x_asg, x_own, x_ret, x_ite, x_for, x_frz, bT_name, bT_tup, bTs_nil, bTs_cons, post_v, post_w, post_t', post_i', rb, gtrue, dd, lcd, bi_tup_lst]
  rfl
theorem sqs_nodup (r c : Nat) : (sqs r c).Nodup := by
  unfold sqs List.Nodup
  rw [List.pairwise_flatMap]
  refine ⟨fun i _ => List.Pairwise.map _ (R := fun a b => a ≠ b) (fun a b h z => h (by injection z)) List.nodup_range, ?_⟩
  refine List.Pairwise.imp (R := fun a b => a ≠ b) (fun {a b} h x hx y hy z => ?_) List.nodup_range
  obtain ⟨_, _, rfl⟩ := List.mem_map.mp hx
  obtain ⟨_, _, rfl⟩ := List.mem_map.mp hy
  exact h (by injection z)
theorem walks_nodup (r c : Nat) : ∀ m, (walks r c m).Nodup
  | 0 => List.Pairwise.map _ (R := fun a b => a ≠ b) (fun a b h z => h (by injection z)) (sqs_nodup r c)
  | m + 1 => by
    show List.Pairwise _ ((walks r c m).flatMap (ons r c))
    rw [List.pairwise_flatMap]
    refine ⟨fun w _ => ?_, List.Pairwise.imp (R := fun a b => a ≠ b) (fun {a b} h x hx y hy z => ?_) (walks_nodup r c m)⟩
    · unfold ons
      split
      · refine List.Pairwise.map _ (R := fun a b => a ≠ b) (fun a b h z => h (by have := List.append_cancel_left z; injection this)) ?_
        exact List.Pairwise.filter _ (List.Pairwise.filter _ (sqs_nodup r c))
      · exact List.Pairwise.nil
    · obtain ⟨p, rfl⟩ := ons_eq hx
      obtain ⟨q, rfl⟩ := ons_eq hy
      exact h (List.append_inj_left' z rfl)
theorem count_le {r c r' c' m : Nat} {φ : Sq → Sq} (hi : ∀ a b, φ a = φ b → a = b) (ho : ∀ a : Sq, a.1 < r ∧ a.2 < c → (φ a).1 < r' ∧ (φ a).2 < c') (hn : ∀ a b, nb (φ a) (φ b) = nb a b) :
    (walks r c m).length ≤ (walks r' c' m).length := by
  have e : (walks r c m).length = ((walks r c m).map (List.map φ)).length := by rw [List.length_map]
  rw [e]
  have inj : ∀ v w : List Sq, v.map φ = w.map φ → v = w := fun v => by
    induction v with
    | nil => intro w h; cases w with
      | nil => rfl
      | cons _ _ => cases h
    | cons a v ih => intro w h; cases w with
      | nil => cases h
      | cons b w =>
        injection h with h1 h2
        rw [hi _ _ h1, ih _ h2]
  have adjm : ∀ w : List Sq, adj w → adj (w.map φ) := fun w => by
    induction w with
    | nil => intro _; trivial
    | cons a w ih => cases w with
      | nil => intro _; trivial
      | cons b w => intro h; exact ⟨by rw [hn]; exact h.1, ih h.2⟩
  refine List.Nodup.length_le_of_subset (List.Pairwise.map _ (fun a b h z => h (inj _ _ z)) (walks_nodup r c m)) fun w hw => ?_
  obtain ⟨v, hv, rfl⟩ := List.mem_map.mp hw
  obtain ⟨h1, h2, h3, h4⟩ := mem_walks.mp hv
  refine mem_walks.mpr ⟨by rw [List.length_map]; exact h1, List.Pairwise.map _ (fun a b h z => h (hi _ _ z)) h2, fun a ha => ?_, adjm _ h4⟩
  obtain ⟨b, hb, rfl⟩ := List.mem_map.mp ha
  exact ho b (h3 b hb)
theorem count_turn (r c m : Nat) : (walks r c m).length = (walks c r m).length := by
  have key : ∀ a b, nb (a.2, a.1) (b.2, b.1) = nb a b := fun a b => by
    unfold nb
    have e : decide (((a.2, a.1) : Sq) = (b.2, b.1)) = decide (a = b) := by
      obtain ⟨a1, a2⟩ := a
      obtain ⟨b1, b2⟩ := b
      by_cases h1 : a1 = b1 <;> by_cases h2 : a2 = b2 <;> simp [h1, h2]
    rw [e]
    congr 1
    exact Bool.and_comm _ _
  refine Nat.le_antisymm ?_ ?_
  · exact count_le (φ := fun a => (a.2, a.1)) (fun a b h => by obtain ⟨a1, a2⟩ := a; obtain ⟨b1, b2⟩ := b; injection h with h1 h2; simp at h1 h2; rw [h1, h2]) (fun a h => ⟨h.2, h.1⟩) key
  · exact count_le (φ := fun a => (a.2, a.1)) (fun a b h => by obtain ⟨a1, a2⟩ := a; obtain ⟨b1, b2⟩ := b; injection h with h1 h2; simp at h1 h2; rw [h1, h2]) (fun a h => ⟨h.2, h.1⟩) key
theorem one_row : ∀ n, n < 6 → ∀ m, m < 6 → (walks 1 (n + 1) m).length = (if m = 0 then n + 1 else 2 * (n + 1 - m)) := by decide +kernel
theorem two_two : [(walks 2 2 0).length, (walks 2 2 1).length, (walks 2 2 2).length, (walks 2 2 3).length, (walks 2 2 4).length] = [4, 12, 24, 24, 0] := by decide +kernel
end Pd


namespace Pd
open PySem L2
theorem m_draw (k : Nat) {n : Int} (h0 : 0 < n) (h1 : n < 1073741824) : callN tab (k + 5) 16 [.box, .v (.int n)] = .draw n.toNat fun d => .ret (.int (d : Int)) := by
  show (if k + 4 < 4 then Tree.err else Tdraw [.box, .v (.int n)]) = _
  rw [if_neg (by omega)]
  show (guard (decide (0 < n) && decide (n < 1073741824)) >>= fun _ => _) = _
  rw [guard_of (by rw [decide_eq_true h0, decide_eq_true h1]; rfl)]
theorem dbind {α β : Type} (n : Nat) (k : Nat → Tree α) (f : α → Tree β) : (Tree.draw n k >>= f) = .draw n fun d => k d >>= f := id rfl
/-- All, kept shut -/
structure Al {α : Type} (t : Tree α) (Q : α → Prop) : Prop where
  out : t.All Q
theorem al_draw {α : Type} {n : Nat} {k : Nat → Tree α} {Q : α → Prop} (h : ∀ d, d < n → Al (k d) Q) : Al (Tree.draw n k) Q := ⟨fun d hd => (h d hd).out⟩
theorem al_ret {α : Type} {a : α} {Q : α → Prop} (h : Q a) : Al (Tree.ret a) Q := ⟨h⟩
theorem al_seq {α β : Type} {t : Tree α} {f : α → Tree β} {Q : β → Prop} (P : α → Prop) (h1 : Al t P) (h2 : ∀ a, P a → Al (f a) Q) : Al (t >>= f) Q := ⟨(Tree.all_bind t f Q).mpr (h1.out.mono fun a h => (h2 a h).out)⟩
theorem al_mono {α : Type} {t : Tree α} {P Q : α → Prop} (h1 : Al t P) (h2 : ∀ a, P a → Q a) : Al t Q := ⟨h1.out.mono h2⟩
theorem al_get {α : Type} {a : α} {Q : α → Prop} (h : Al (Tree.ret a) Q) : Q a := h.out
theorem lcD_al {f : D → Tree (Option D)} {P : D → Prop} : ∀ {xs : List D}, (∀ x ∈ xs, Al (f x) fun o => ∃ d, o = some d ∧ P d) → Al (lcD f xs) fun ys => ys.length = xs.length ∧ ∀ y ∈ ys, P y
  | [], _ => al_ret ⟨rfl, fun _ h => by cases h⟩
  | x :: r, h => by
    show Al (f x >>= fun o => _) _
    refine al_seq _ (h x List.mem_cons_self) fun o ho => ?_
    obtain ⟨d, rfl, hd⟩ := ho
    refine al_seq _ (lcD_al (xs := r) fun y hy => h y (List.mem_cons_of_mem _ hy)) fun ys hys => al_ret ?_
    refine ⟨by rw [List.length_cons, List.length_cons, hys.1], fun y hy => ?_⟩
    rcases List.mem_cons.mp hy with rfl | hy
    · exact hd
    · exact hys.2 y hy
theorem exs_al {Φ : Phi} {s : S} {r : List S} {ρ : Env} {Q : Out → Prop} (P : Env → Prop) (h1 : Al (ex Φ s ρ) fun o => ∃ ρ', o = .nx ρ' ∧ P ρ') (h2 : ∀ ρ', P ρ' → Al (exs Φ r ρ') Q) : Al (exs Φ (s :: r) ρ) Q := by
  rw [x_cons]
  refine al_seq _ h1 fun o ho => ?_
  obtain ⟨ρ', rfl, hp⟩ := ho
  exact h2 ρ' hp
theorem exs_al_app {Φ : Phi} {a b : List S} {ρ : Env} {Q : Out → Prop} (P : Env → Prop) (h1 : Al (exs Φ a ρ) fun o => ∃ ρ', o = .nx ρ' ∧ P ρ') (h2 : ∀ ρ', P ρ' → Al (exs Φ b ρ') Q) : Al (exs Φ (a ++ b) ρ) Q := by
  rw [exs_app]
  refine al_seq _ h1 fun o ho => ?_
  obtain ⟨ρ', rfl, hp⟩ := ho
  exact h2 ρ' hp
theorem forD_al {f : D → Env → Tree Out} (P : Env → Prop) : ∀ {xs : List D} {ρ : Env}, P ρ → (∀ x ∈ xs, ∀ ρ, P ρ → Al (f x ρ) fun o => ∃ ρ', o = .nx ρ' ∧ P ρ') → Al (forD f xs ρ) fun o => ∃ ρ', o = .nx ρ' ∧ P ρ'
  | [], ρ, h, _ => al_ret ⟨ρ, rfl, h⟩
  | x :: r, ρ, h, hf => by
    show Al (f x ρ >>= fun o => _) _
    refine al_seq _ (hf x List.mem_cons_self ρ h) fun o ho => ?_
    obtain ⟨ρ', rfl, hp⟩ := ho
    exact forD_al P hp fun y hy => hf y (List.mem_cons_of_mem _ hy)
/-- letters that there are -/
def okS (x : Str) : Prop := ∀ ch ∈ x.cps.toList, ch < 1114112
theorem okS_iff {x : Str} : PyData.strOk x = true ↔ okS x := by
  unfold PyData.strOk okS
  rw [← Array.all_toList, List.all_eq_true]
  constructor
  · intro h ch hc; exact of_decide_eq_true (h ch hc)
  · intro h ch hc; exact decide_eq_true (h ch hc)
theorem signs_of : ∀ {ys : List D}, (∀ y ∈ ys, ∃ ch, y = sign ch ∧ ch < 1114112) → ∃ l : List Nat, ys = l.map sign ∧ ∀ ch ∈ l, ch < 1114112
  | [], _ => ⟨[], rfl, fun _ h => by cases h⟩
  | y :: ys, h => by
    obtain ⟨ch, rfl, hc⟩ := h y List.mem_cons_self
    obtain ⟨l, rfl, hl⟩ := signs_of fun z hz => h z (List.mem_cons_of_mem _ hz)
    refine ⟨ch :: l, rfl, fun z hz => ?_⟩
    rcases List.mem_cons.mp hz with rfl | hz
    · exact hc
    · exact hl z hz
theorem join_signs {l : List Nat} (h : l.length ≤ lim) : dMe .join (.str (Str.ofString "")) [.list (l.map sign)] = .ret (.str (mk l)) := by
  rw [← join_ones l h, List.map_map]
  rfl
theorem idx_str {x : Str} {i : Nat} (h : x.length ≤ lim) (hi : i < x.length) (ok : okS x) : ∃ ch, dIdx (.str x) (.int (i : Int)) = .ret (sign ch) ∧ ch < 1114112 := by
  have : i < x.cps.toList.length := by rw [Array.length_toList]; exact hi
  exact ⟨_, str_idx h (List.getElem?_eq_getElem this), ok _ (List.getElem_mem this)⟩
theorem row_all (k : Nat) {ls : Str} (h1 : 1 ≤ ls.length) (h2 : ls.length ≤ 900) (lok : okS ls) {c : Nat} (hc : c ≤ 1000) {x1 x3 x5 x6 : Option B} :
    Al (ev (callN tab (k + 5)) .v (.me .join (.con (.str ("" : Str))) [(.lc (.name 5) [5] (.bi .range [(.var 4)]) [] (.idx (.var 2) (.call 16 [(.var 0), (.bi .len [(.var 2)])])))]) [some .box, x1, some (.v (.str ls)), x3, some (.v (.int (c : Int))), x5, x6]) fun d => ∃ x : Str, d = .str x ∧ x.length = c ∧ okS x := by
  have ok : meOk .join (.str (Str.ofString "")) = true := rfl
  have l0 : ls.length ≤ lim := by rw [lim_eq']; omega
  have dl : decide (c ≤ lim) = true := decide_eq_true (by rw [lim_eq']; omega)
  have pos : 0 < (ls.length : Int) := by omega
  have lt : (ls.length : Int) < 1073741824 := by omega
  simp only [tr_b, as_b, decide_true, ite_true, ite_false, Bool.false_eq_true, rd, rdW, rdB, List.getElem?_cons_zero, List.getElem?_cons_succ, List.set_cons_zero, List.set_cons_succ, List.replicate, List.cons_append, List.nil_append, List.append_nil, List.length_cons, List.length_nil, List.map_cons, List.map_nil, Nat.sub_self, frzAt, e_var_v, e_var_w, e_var_t, e_var_i, e_con, e_tup, e_lst, e_bin, e_neg, e_not_v, e_not_t, e_and_v, e_and_t, e_or_v, e_or_t, e_ite_v, e_ite_w, e_ite_t, e_cmp, e_cmp2, e_idx, e_slc, e_rev, e_call, e_isa, e_bi_v, e_bi_w, e_bi_t, e_rng1, e_rng2, e_join, e_count, e_ws_nil, e_ws_cons, e_s_nil, e_s_cons, e_b_nil, e_b_cons, e_B_var, e_B_con, e_B_tup, e_B_lst, e_B_bin, e_B_idx, e_B_slc, e_B_call, e_B_bi, e_B_ite, e_B_lc, e_B_rev, e_o_none, e_o_some, e_if_nil, e_if_one, e_T, e_I, x_nil, x_cons, x_asg, x_own, x_ret, x_ite, x_for, x_frz, bT_name, bT_tup, bTs_nil, bTs_cons, post_v, post_w, post_t', post_i', rb, gtrue, e_lc, ok, asI, near_nat (Nat.le_trans hc (by decide : 1000 ≤ 4096)), asL, rng_len, Int.toNat_natCast, dl, Pd.wip]
  refine al_seq (fun ds => ∃ l : List Nat, (l.length = c ∧ ∀ ch ∈ l, ch < 1114112) ∧ ds = [.list (l.map sign)]) ?_ fun ds hds => ?_
  · refine al_seq (fun d => ∃ l : List Nat, (l.length = c ∧ ∀ ch ∈ l, ch < 1114112) ∧ d = .list (l.map sign)) ?_ fun d hd => ?_
    · refine al_seq _ (lcD_al (P := fun d => ∃ ch, d = sign ch ∧ ch < 1114112) fun x hx => ?_) fun ys hys => ?_
      · simp only [len_str l0, rb, m_draw k pos lt, dbind]
        refine al_draw fun d hd => ?_
        rw [Int.toNat_natCast] at hd
        obtain ⟨ch, hch, hlt⟩ := idx_str l0 hd lok
        rw [hch]
        exact al_ret ⟨_, rfl, ch, rfl, hlt⟩
      · obtain ⟨l, rfl, hok⟩ := signs_of hys.2
        exact al_ret ⟨l, ⟨by have := hys.1; rw [List.length_map, rng_len] at this; exact this, hok⟩, rfl⟩
    · obtain ⟨l, hl, rfl⟩ := hd
      exact al_ret ⟨l, hl, rfl⟩
  · obtain ⟨l, hl, rfl⟩ := hds
    rw [join_signs (by rw [hl.1, lim_eq']; omega)]
    exact al_ret ⟨_, rfl, by rw [mk_len, hl.1], fun ch hch => hl.2 ch hch⟩
theorem strs_of : ∀ {ys : List D} {c : Nat}, (∀ y ∈ ys, ∃ x : Str, y = .str x ∧ x.length = c ∧ okS x) → ∃ l : List Str, ys = l.map .str ∧ ∀ x ∈ l, x.length = c ∧ okS x
  | [], _, _ => ⟨[], rfl, fun _ h => by cases h⟩
  | y :: ys, c, h => by
    obtain ⟨x, rfl, hx⟩ := h y List.mem_cons_self
    obtain ⟨l, rfl, hl⟩ := strs_of (c := c) fun z hz => h z (List.mem_cons_of_mem _ hz)
    refine ⟨x :: l, rfl, fun z hz => ?_⟩
    rcases List.mem_cons.mp hz with rfl | hz
    · exact hx
    · exact hl z hz
theorem m_table (k : Nat) {ls : Str} (h1 : 1 ≤ ls.length) (h2 : ls.length ≤ 900) (lok : okS ls) : Al (callN tab (k + 6) 18 [.box, .v (.int 3), .v (.str ls)]) fun d => ∃ rows r c, d = tbl rows ∧ Tb rows r c ∧ r ≤ 3 ∧ c ≤ 3 ∧ ∀ x ∈ rows, okS x := by
  show Al (runF (callN tab (k + 5)) ⟨3, 7, b__law_table⟩ [.box, .v (.int 3), .v (.str ls)]) _
  rw [runF_eq (show ([B.box, .v (.int 3), .v (.str ls)] : List B).length = 3 from rfl)]
  have d3 := m_draw k (n := 3) (by decide) (by decide)
  have d2 : decide ([PyData.int 0, PyData.int 0].length = [T.name 3, T.name 4].length) = true := rfl
  unfold b__law_table
  simp only [tr_b, as_b, decide_true, ite_true, ite_false, Bool.false_eq_true, rd, rdW, rdB, List.getElem?_cons_zero, List.getElem?_cons_succ, List.set_cons_zero, List.set_cons_succ, List.replicate, List.cons_append, List.nil_append, List.append_nil, List.length_cons, List.length_nil, List.map_cons, List.map_nil, Nat.sub_self, frzAt, e_var_v, e_var_w, e_var_t, e_var_i, e_con, e_tup, e_lst, e_bin, e_neg, e_not_v, e_not_t, e_and_v, e_and_t, e_or_v, e_or_t, e_ite_v, e_ite_w, e_ite_t, e_cmp, e_cmp2, e_idx, e_slc, e_rev, e_call, e_isa, e_bi_v, e_bi_w, e_bi_t, e_rng1, e_rng2, e_join, e_count, e_ws_nil, e_ws_cons, e_s_nil, e_s_cons, e_b_nil, e_b_cons, e_B_var, e_B_con, e_B_tup, e_B_lst, e_B_bin, e_B_idx, e_B_slc, e_B_call, e_B_bi, e_B_ite, e_B_lc, e_B_rev, e_o_none, e_o_some, e_if_nil, e_if_one, e_T, e_I, x_nil, x_cons, x_asg, x_own, x_ret, x_ite, x_for, x_frz, bT_name, bT_tup, bTs_nil, bTs_cons, post_v, post_w, post_t', post_i', rb, gtrue, d3, dbind, b_add, d2lim]
  refine al_draw fun r0 hr => al_draw fun c0 hc => ?_
  have er : (1 : Int) + (r0 : Int) = ((r0 + 1 : Nat) : Int) := by omega
  have ec : (1 : Int) + (c0 : Int) = ((c0 + 1 : Nat) : Int) := by omega
  have hr : r0 < 3 := hr
  have hc : c0 < 3 := hc
  have dl : decide (r0 + 1 ≤ lim) = true := decide_eq_true (by rw [lim_eq']; omega)
  rw [er, ec]
  have hlc : Al (ev (callN tab (k + 5)) .w (.lc (.name 6) [6] (.bi .range [(.var 3)]) [] (.me .join (.con (.str ("" : Str))) [(.lc (.name 5) [5] (.bi .range [(.var 4)]) [] (.idx (.var 2) (.call 16 [(.var 0), (.bi .len [(.var 2)])])))])) [some .box, some (.v (.int 3)), some (.v (.str ls)), some (.v (.int ((r0 + 1 : Nat) : Int))), some (.v (.int ((c0 + 1 : Nat) : Int))), none, none])
      fun d => ∃ l : List Str, d = .list (l.map .str) ∧ l.length = r0 + 1 ∧ ∀ x ∈ l, x.length = c0 + 1 ∧ okS x := by
    rw [e_lc]
    simp only [e_I, e_rng1, e_var_v, rd, List.getElem?_cons_zero, List.getElem?_cons_succ, rb, asI, near_nat (show r0 + 1 ≤ 4096 by omega), asL, gtrue, rng_len, Int.toNat_natCast, dl, post_w]
    refine al_seq _ (lcD_al (P := fun d => ∃ x : Str, d = .str x ∧ x.length = c0 + 1 ∧ okS x) fun x hx => ?_) fun ys hys => ?_
    · simp only [bT_name, rb, Pd.wip, List.set_cons_zero, List.set_cons_succ, e_if_nil, ite_true]
      refine al_seq _ (row_all k h1 h2 lok (by omega)) fun d hd => al_ret ⟨d, rfl, hd⟩
    · obtain ⟨l, rfl, hl⟩ := strs_of hys.2
      exact al_ret ⟨l, rfl, by have := hys.1; rw [List.length_map, rng_len] at this; exact this, hl⟩
  simp only [Tree.bind_assoc', rb]
  refine al_seq _ hlc fun d hd => ?_
  obtain ⟨l, rfl, h3, h4⟩ := hd
  simp only [rb, bi_tup_lst]
  exact al_ret ⟨l, r0 + 1, c0 + 1, rfl, ⟨h3, fun x hx => (h4 x hx).1, by omega, by omega, by omega, by omega⟩, by omega, by omega, fun x hx => (h4 x hx).2⟩
end Pd


namespace Pd
open PySem L2
def gA : List S := [.frz 1, .asg (.name 3) (.call 18 [(.var 1), (.con (.int (3))), (.idx (.lst [(.con (.str ("ab" : Str))), (.con (.str ("abc" : Str))), (.con (.str ("abcdefgh" : Str)))]) (.call 16 [(.var 1), (.con (.int (3)))]))]), .frz 1, .asg (.name 4) (.bin .Add (.con (.int (1))) (.call 16 [(.var 1), (.ite (.cmp .Lt (.bin .Mult (.bi .len [(.var 3)]) (.bi .len [(.idx (.var 3) (.con (.int (0))))])) (.con (.int (7)))) (.idx (.lst [(.con (.int (5))), (.con (.int (6)))]) (.call 16 [(.var 1), (.con (.int (2)))])) (.con (.int (4))))]))]
def gB : List S := [.frz 3, .frz 4, .asg (.name 5) (.call 20 [(.var 3), (.var 4)]), .frz 3, .frz 4, .ite (.not (.call 17 [(.call 6 [(.var 3), (.var 4)]), (.bi .len [(.var 5)])])) [.ret (.con (.bool false))] []]
def gC : List S := [.asg (.name 6) (.bi .tuple [(.lc (.name 8) [8] (.bi .range [(.bi .len [(.idx (.var 3) (.con (.int (0))))])]) [] (.me .join (.con (.str ("" : Str))) [(.lc (.name 7) [7] (.bi .range [(.bi .len [(.var 3)])]) [] (.idx (.idx (.var 3) (.bin .Sub (.bin .Sub (.bi .len [(.var 3)]) (.con (.int (1)))) (.var 7))) (.var 8)))]))]), .frz 3, .asg (.name 9) (.bi .tuple [(.lc (.name 10) [10] (.var 3) [] (.bin .Mult (.con (.str ("a" : Str))) (.bi .len [(.var 10)])))])]
def gD : List S := [.frz 6, .frz 3, .frz 9, .for_ (.name 11) (.tup [(.var 6), (.rev (.var 3)), (.bi .tuple [(.lc (.name 10) [10] (.var 3) [] (.rev (.var 10)))]), (.var 9)]) [.frz 11, .frz 4, .ite (.cmp .NotEq (.call 6 [(.var 11), (.var 4)]) (.bi .len [(.var 5)])) [.ret (.con (.bool false))] []]]
def gE : List S := [.asg (.name 12) (.bi .min [(.var 4), (.con (.int (4)))]), .frz 3, .frz 12, .asg (.name 13) (.bi .tuple [(.bi .sorted [(.bi .dict [(.lc (.name 10) [10] (.call 20 [(.var 3), (.var 12)]) [] (.tup [(.me .join (.con (.str ("" : Str))) [(.lc (.tup [.name 7, .name 8]) [7, 8] (.var 10) [] (.idx (.idx (.var 3) (.var 7)) (.var 8)))]), (.con (.int (1)))]))])])]), .frz 3, .frz 12, .asg (.name 14) (.call 7 [(.var 3), (.var 12)])]
def gF : List S := [.frz 14, .frz 13, .frz 9, .frz 12, .ite (.or (.not (.call 17 [(.var 14), (.var 13)])) (.not (.call 17 [(.call 7 [(.var 9), (.var 12)]), (.ite (.cmp .Gt (.bi .len [(.var 13)]) (.con (.int (0)))) (.tup [(.bin .Mult (.con (.str ("a" : Str))) (.var 12))]) (.tup []))]))) [.ret (.con (.bool false))] []]
def gG : List S := [.for_ (.name 15) (.slc (.var 14) none (some (.con (.int (40))))) [.frz 3, .frz 15, .ite (.or (.cmp .NotEq (.call 8 [(.var 3), (.var 15)]) (.con (.str ("" : Str)))) (.or (.cmp .Is (.call 11 [(.var 3), (.var 15)]) (.con (.none))) (.cmp .NotIn (.rev (.var 15)) (.var 14)))) [.ret (.con (.bool false))] []]]
def gH : List S := [.frz 14, .frz 3, .frz 12, .ite (.and (.cmp .Gt (.var 12) (.con (.int (1)))) (.not (.bi .all [(.lc (.name 15) [15] (.var 14) [] (.cmp .In (.slc (.var 15) none (some (.neg (.con (.int (1)))))) (.call 7 [(.var 3), (.bin .Sub (.var 12) (.con (.int (1))))])))]))) [.ret (.con (.bool false))] []]
def gI : List S := [.frz 3, .ite (.not (.call 17 [(.call 12 [(.var 3), (.slc (.var 14) none (some (.con (.int (20)))))]), (.slc (.var 14) none (some (.con (.int (20)))))])) [.ret (.con (.bool false))] []]
def gJ : List S := [.frz 1, .asg (.name 16) (.bin .Add (.con (.int (1))) (.call 16 [(.var 1), (.con (.int (6)))])), .frz 1, .asg (.name 10) (.tup [(.me .join (.con (.str ("" : Str))) [(.lc (.name 17) [17] (.bi .range [(.var 16)]) [] (.idx (.con (.str ("abc" : Str))) (.call 16 [(.var 1), (.con (.int (3)))])))])]), .frz 16]
def gK : List S := [.for_ (.name 18) (.bi .range [(.con (.int (1))), (.bin .Add (.var 16) (.con (.int (2))))]) [.frz 10, .frz 18, .frz 16, .ite (.and (.cmp .LtE (.var 18) (.con (.int (6)))) (.cmp .NotEq (.call 6 [(.var 10), (.var 18)]) (.ite (.cmp .Eq (.var 18) (.con (.int (1)))) (.var 16) (.bin .Mult (.con (.int (2))) (.bi .max [(.con (.int (0))), (.bin .Add (.bin .Sub (.var 16) (.var 18)) (.con (.int (1))))]))))) [.ret (.con (.bool false))] []]]
def gTurn : List S := gA ++ (gB ++ (gC ++ (gD ++ (gE ++ (gF ++ (gG ++ (gH ++ (gI ++ (gJ ++ gK)))))))))
def gEnd : List S := [.asg (.name 19) (.tup [(.con (.str ("ab" : Str))), (.con (.str ("cd" : Str)))]), .frz 19, .ret (.and (.cmp .Eq (.lc (.name 17) [17] (.bi .range [(.con (.int (1))), (.con (.int (6)))]) [] (.call 6 [(.var 19), (.var 17)])) (.lst [(.con (.int (4))), (.con (.int (12))), (.con (.int (24))), (.con (.int (24))), (.con (.int (0)))])) (.cmp .Eq (.bi .len [(.call 7 [(.var 19), (.con (.int (4)))])]) (.con (.int (24)))))]
theorem lawS_eq : lawS = .ite (.cmp .NotEq (.tup [(.con (.int (6))), (.con (.int (4)))]) (.tup [(.con (.int (6))), (.con (.int (4)))])) [.ret (.con (.bool false))] [] :: .for_ (.name 2) (.bi .range [(.con (.int (3)))]) gTurn :: gEnd := rfl

theorem env20 {ρ : Env} (h : ρ.length = 20) : ∃ y0 y1 y2 y3 y4 y5 y6 y7 y8 y9 y10 y11 y12 y13 y14 y15 y16 y17 y18 y19, ρ = [y0, y1, y2, y3, y4, y5, y6, y7, y8, y9, y10, y11, y12, y13, y14, y15, y16, y17, y18, y19] := by
  match ρ, h with
  | [y0, y1, y2, y3, y4, y5, y6, y7, y8, y9, y10, y11, y12, y13, y14, y15, y16, y17, y18, y19], _ => exact ⟨y0, y1, y2, y3, y4, y5, y6, y7, y8, y9, y10, y11, y12, y13, y14, y15, y16, y17, y18, y19, rfl⟩
def P0 : Phi := callN tab 200
theorem p_draw {n : Int} (h0 : 0 < n) (h1 : n < 1073741824) : P0 16 [.box, .v (.int n)] = .draw n.toNat fun d => .ret (.int (d : Int)) := m_draw 195 h0 h1
theorem p_table {ls : Str} (h1 : 1 ≤ ls.length) (h2 : ls.length ≤ 900) (lok : okS ls) : Al (P0 18 [.box, .v (.int 3), .v (.str ls)]) fun d => ∃ rows r c, d = tbl rows ∧ Tb rows r c ∧ r ≤ 3 ∧ c ≤ 3 ∧ ∀ x ∈ rows, okS x := m_table 194 h1 h2 lok
theorem p_count {rows : List Str} {r c : Nat} (t : Tb rows r c) {m : Nat} (h9 : r * c ≤ 9) (hm : m ≤ 5) : P0 6 [.v (tbl rows), .v (.int ((m : Int) + 1))] = .ret (.int (walks r c m).length) := m_count 195 t h9 hm
theorem p_lcount {rows : List Str} {r c : Nat} (t : Tb rows r c) {m : Nat} (h9 : r * c ≤ 9) (hm : m ≤ 5) : P0 20 [.v (tbl rows), .v (.int ((m : Int) + 1))] = .ret (wks (walks r c m)) := m_lcount 198 t h9 hm
theorem p_texts {rows : List Str} {r c : Nat} (t : Tb rows r c) {m : Nat} (h9 : r * c ≤ 9) (hm : m ≤ 5) : P0 7 [.v (tbl rows), .v (.int ((m : Int) + 1))] = .ret (.tuple (srt (texts rows r c m))) := m_texts 195 t h9 hm
theorem p_same_int (i j : Int) : P0 17 [.v (.int i), .v (.int j)] = .ret (.bool (decide (i = j))) := m_same_int 199 i j
theorem p_same_self {ds : List D} (hs : ∀ d ∈ ds, ∃ x, d = .str x) (hl : ds.length ≤ 4096) : P0 17 [.v (.tuple ds), .v (.tuple ds)] = .ret (.bool true) := m_same_self 198 hs hl
theorem p_short {rows : List Str} {r c : Nat} (t : Tb rows r c) (h9 : r * c ≤ 9) {w : List Sq} (hn : w.Nodup) (hw : onTab r c w) (hl : w.length ≤ 1000) : P0 8 [.v (tbl rows), .v (.str (txt rows w))] = .ret (.str (Str.ofString "")) := m_short 199 t h9 hn hw hl
theorem p_first {rows : List Str} {r c : Nat} (t : Tb rows r c) (h9 : r * c ≤ 9) {m : Nat} (hm : m ≤ 3) {w : List Sq} (hw : w ∈ walks r c m) : ∃ v, P0 11 [.v (tbl rows), .v (.str (txt rows w))] = .ret (wk v) := m_first 194 t h9 hm hw
theorem p_walked {rows : List Str} {r c : Nat} (t : Tb rows r c) (h9 : r * c ≤ 9) {words : List Str} (hw : ∀ x ∈ words, x.length ≤ 4) (hn : words.length ≤ 1000)
    (hall : ∀ x ∈ words, ∃ m w, w ∈ walks r c m ∧ x = txt rows w) : P0 12 [.v (tbl rows), .v (strs_ words)] = .ret (strs_ words) := m_walked 195 t h9 hw hn hall
theorem b_mul {i j : Int} (h : small i = true) : dBin .Mult (.int i) (.int j) = .ret (.int (i * j)) := by
  show (guard (small i || small j) >>= fun _ => Tree.ret (PyData.int (i * j))) = _
  rw [guard_of (by rw [h]; rfl)]
theorem small_nat {n : Nat} (h : n ≤ 4096) : small (n : Int) = true := by
  unfold small
  rw [Bool.and_eq_true]
  exact ⟨decide_eq_true (by omega), decide_eq_true (by omega)⟩
theorem idx3 {d : Nat} (h : d < 3) : ∃ ls : Str, dIdx (.list [.str "ab", .str "abc", .str "abcdefgh"]) (.int (d : Int)) = .ret (.str ls) ∧ 1 ≤ ls.length ∧ ls.length ≤ 900 ∧ okS ls := by
  match d, h with
  | 0, _ => exact ⟨_, rfl, by decide, by decide, okS_iff.mp (by decide +kernel)⟩
  | 1, _ => exact ⟨_, rfl, by decide, by decide, okS_iff.mp (by decide +kernel)⟩
  | 2, _ => exact ⟨_, rfl, by decide, by decide, okS_iff.mp (by decide +kernel)⟩
theorem idx2 {d : Nat} (h : d < 2) : ∃ n : Nat, dIdx (.list [.int 5, .int 6]) (.int (d : Int)) = .ret (.int (n : Int)) ∧ 1 ≤ n ∧ n ≤ 6 := by
  match d, h with
  | 0, _ => exact ⟨5, rfl, by decide, by decide⟩
  | 1, _ => exact ⟨6, rfl, by decide, by decide⟩
theorem a_seg {y0 y2 y3 y4 y5 y6 y7 y8 y9 y10 y11 y12 y13 y14 y15 y16 y17 y18 y19 : Option B} : Al (exs P0 gA [y0, some .box, y2, y3, y4, y5, y6, y7, y8, y9, y10, y11, y12, y13, y14, y15, y16, y17, y18, y19]) fun o => ∃ ρ', o = .nx ρ' ∧ ∃ rows r c, ∃ m : Nat, Tb rows r c ∧ r ≤ 3 ∧ c ≤ 3 ∧ (∀ x ∈ rows, okS x) ∧ m ≤ 5 ∧ (ρ'.length = 20 ∧ ρ'[1]? = some (some .box) ∧ ρ'[3]? = some (some (.v (tbl rows))) ∧ ρ'[4]? = some (some (.v (.int ((m : Int) + 1))))) := by
  have d3 := p_draw (n := 3) (by decide) (by decide)
  have d2 := p_draw (n := 2) (by decide) (by decide)
  have d3l : decide (0 + 1 + 1 + 1 ≤ lim) = true := id rfl
  unfold gA
  simp only [tr_b, as_b, decide_true, ite_true, ite_false, Bool.false_eq_true, rd, rdW, rdB, List.getElem?_cons_zero, List.getElem?_cons_succ, List.set_cons_zero, List.set_cons_succ, List.replicate, List.cons_append, List.nil_append, List.append_nil, List.length_cons, List.length_nil, List.map_cons, List.map_nil, Nat.sub_self, frzAt, e_var_v, e_var_w, e_var_t, e_var_i, e_con, e_tup, e_lst, e_bin, e_neg, e_not_v, e_not_t, e_and_v, e_and_t, e_or_v, e_or_t, e_ite_v, e_ite_w, e_ite_t, e_cmp, e_cmp2, e_idx, e_slc, e_rev, e_call, e_isa, e_bi_v, e_bi_w, e_bi_t, e_rng1, e_rng2, e_join, e_count, e_ws_nil, e_ws_cons, e_s_nil, e_s_cons, e_b_nil, e_b_cons, e_B_var, e_B_con, e_B_tup, e_B_lst, e_B_bin, e_B_idx, e_B_slc, e_B_call, e_B_bi, e_B_ite, e_B_lc, e_B_rev, e_o_none, e_o_some, e_if_nil, e_if_one, e_T, e_I, x_nil, x_cons, x_asg, x_own, x_ret, x_ite, x_for, x_frz, bT_name, bT_tup, bTs_nil, bTs_cons, post_v, post_w, post_t', post_i', rb, gtrue, d3, dbind, d3l]
  refine al_draw fun d hd => ?_
  obtain ⟨ls, h1, h2, h3, lok⟩ := idx3 hd
  simp only [Tree.bind_assoc', rb]
  rw [h1, rb]
  refine al_seq _ (p_table h2 h3 lok) fun x hx => ?_
  obtain ⟨rows, r, c, rfl, t, hr, hc, rok⟩ := hx
  obtain ⟨r0, _, h0c, h0⟩ := t.first
  have l2 : r0.length ≤ lim := by rw [h0c]; exact Nat.le_trans t.c4 (by decide)
  simp only [tr_b, as_b, decide_true, ite_true, ite_false, Bool.false_eq_true, rd, rdW, rdB, List.getElem?_cons_zero, List.getElem?_cons_succ, List.set_cons_zero, List.set_cons_succ, List.replicate, List.cons_append, List.nil_append, List.append_nil, List.length_cons, List.length_nil, List.map_cons, List.map_nil, Nat.sub_self, frzAt, e_var_v, e_var_w, e_var_t, e_var_i, e_con, e_tup, e_lst, e_bin, e_neg, e_not_v, e_not_t, e_and_v, e_and_t, e_or_v, e_or_t, e_ite_v, e_ite_w, e_ite_t, e_cmp, e_cmp2, e_idx, e_slc, e_rev, e_call, e_isa, e_bi_v, e_bi_w, e_bi_t, e_rng1, e_rng2, e_join, e_count, e_ws_nil, e_ws_cons, e_s_nil, e_s_cons, e_b_nil, e_b_cons, e_B_var, e_B_con, e_B_tup, e_B_lst, e_B_bin, e_B_idx, e_B_slc, e_B_call, e_B_bi, e_B_ite, e_B_lc, e_B_rev, e_o_none, e_o_some, e_if_nil, e_if_one, e_T, e_I, x_nil, x_cons, x_asg, x_own, x_ret, x_ite, x_for, x_frz, bT_name, bT_tup, bTs_nil, bTs_cons, post_v, post_w, post_t', post_i', rb, gtrue, len_tbl, h0, len_str l2, h0c, t.hr, b_mul (small_nat t.r4), c_lt, Tree.bind_assoc']
  have fin : ∀ q : Nat, 1 ≤ q → q ≤ 6 → ∀ ρ' : Env, (ρ'.length = 20 ∧ ρ'[1]? = some (some .box) ∧ ρ'[3]? = some (some (.v (tbl rows)))) → Al ((P0 16 [.box, .v (.int (q : Int))] >>= fun a => dBin .Add (.int 1) a >>= fun x => Tree.ret (Out.nx (ρ'.set 4 (some (.v x)))))) fun o => ∃ ρ', o = .nx ρ' ∧ ∃ rows r c, ∃ m : Nat, Tb rows r c ∧ r ≤ 3 ∧ c ≤ 3 ∧ (∀ x ∈ rows, okS x) ∧ m ≤ 5 ∧ (ρ'.length = 20 ∧ ρ'[1]? = some (some .box) ∧ ρ'[3]? = some (some (.v (tbl rows))) ∧ ρ'[4]? = some (some (.v (.int ((m : Int) + 1))))) := by
    intro q h1 h6 ρ' h
    obtain ⟨hl, g1, g3⟩ := h; obtain ⟨y0, y1, y2, y3, y4, y5, y6, y7, y8, y9, y10, y11, y12, y13, y14, y15, y16, y17, y18, y19, rfl⟩ := env20 hl; have e1 : y1 = _ := Option.some.inj g1; subst e1; have e3 : y3 = _ := Option.some.inj g3; subst e3
    rw [p_draw (by omega) (by omega), dbind]
    refine al_draw fun d hd => ?_
    rw [Int.toNat_natCast] at hd
    rw [rb, b_add, rb]
    refine al_ret ⟨_, rfl, rows, r, c, d, t, hr, hc, rok, by omega, rfl, rfl, rfl, ?_⟩
    rw [Int.add_comm]
    rfl
  refine al_seq (fun a => ∃ q : Nat, a = .int (q : Int) ∧ 1 ≤ q ∧ q ≤ 6) ?_ fun a ha => ?_
  · split
    · rw [d2lim, gtrue, d2, dbind]
      refine al_draw fun d hd => ?_
      obtain ⟨q, h4, h5, h6⟩ := idx2 hd
      rw [rb, h4]
      exact al_ret ⟨q, rfl, h5, h6⟩
    · exact al_ret ⟨4, rfl, by omega, by omega⟩
  · obtain ⟨q, rfl, h5, h6⟩ := ha
    exact fin q h5 h6 [y0, some .box, y2, some (.v (tbl rows)), y4, y5, y6, y7, y8, y9, y10, y11, y12, y13, y14, y15, y16, y17, y18, y19] ⟨rfl, rfl, rfl⟩
theorem b_seg {rows : List Str} {r c m : Nat} (t : Tb rows r c) (h9 : r * c ≤ 9) (hm : m ≤ 5) {y0 y2 y5 y6 y7 y8 y9 y10 y11 y12 y13 y14 y15 y16 y17 y18 y19 : Option B} : exs P0 gB [y0, some .box, y2, some (.v (tbl rows)), some (.v (.int ((m : Int) + 1))), y5, y6, y7, y8, y9, y10, y11, y12, y13, y14, y15, y16, y17, y18, y19] = .ret (.nx [y0, some .box, y2, some (.v (tbl rows)), some (.v (.int ((m : Int) + 1))), some (.v (wks (walks r c m))), y6, y7, y8, y9, y10, y11, y12, y13, y14, y15, y16, y17, y18, y19]) := by
  have l : dBi .len [wks (walks r c m)] = .ret (.int (walks r c m).length) := by
    unfold wks
    rw [bi_len_lst, List.length_map]
  unfold gB
  simp only [tr_b, as_b, decide_true, ite_true, ite_false, Bool.false_eq_true, rd, rdW, rdB, List.getElem?_cons_zero, List.getElem?_cons_succ, List.set_cons_zero, List.set_cons_succ, List.replicate, List.cons_append, List.nil_append, List.append_nil, List.length_cons, List.length_nil, List.map_cons, List.map_nil, Nat.sub_self, frzAt, e_var_v, e_var_w, e_var_t, e_var_i, e_con, e_tup, e_lst, e_bin, e_neg, e_not_v, e_not_t, e_and_v, e_and_t, e_or_v, e_or_t, e_ite_v, e_ite_w, e_ite_t, e_cmp, e_cmp2, e_idx, e_slc, e_rev, e_call, e_isa, e_bi_v, e_bi_w, e_bi_t, e_rng1, e_rng2, e_join, e_count, e_ws_nil, e_ws_cons, e_s_nil, e_s_cons, e_b_nil, e_b_cons, e_B_var, e_B_con, e_B_tup, e_B_lst, e_B_bin, e_B_idx, e_B_slc, e_B_call, e_B_bi, e_B_ite, e_B_lc, e_B_rev, e_o_none, e_o_some, e_if_nil, e_if_one, e_T, e_I, x_nil, x_cons, x_asg, x_own, x_ret, x_ite, x_for, x_frz, bT_name, bT_tup, bTs_nil, bTs_cons, post_v, post_w, post_t', post_i', rb, gtrue, p_lcount t h9 hm, p_count t h9 hm, l, p_same_int, Bool.not_true]
def turnR (rows : List Str) (r c : Nat) : List Str := (List.range c).map fun j => mk ((List.range r).map fun i => lt rows (r - 1 - i, j))
def plainR (r c : Nat) : List Str := List.replicate r (mk (List.replicate c 97))
theorem tb_turn {rows : List Str} {r c : Nat} (t : Tb rows r c) : Tb (turnR rows r c) c r := by
  refine ⟨by unfold turnR; rw [List.length_map, List.length_range], fun x hx => ?_, t.c0, t.c4, t.r0, t.r4⟩
  obtain ⟨j, _, rfl⟩ := List.mem_map.mp hx
  rw [mk_len, List.length_map, List.length_range]
theorem tb_plain {rows : List Str} {r c : Nat} (t : Tb rows r c) : Tb (plainR r c) r c := by
  refine ⟨by unfold plainR; rw [List.length_replicate], fun x hx => ?_, t.r0, t.r4, t.c0, t.c4⟩
  rw [List.eq_of_mem_replicate hx, mk_len, List.length_replicate]
theorem tb_up {rows : List Str} {r c : Nat} (t : Tb rows r c) : Tb rows.reverse r c :=
  ⟨by rw [List.length_reverse]; exact t.hr, fun x hx => t.hc x (List.mem_reverse.mp hx), t.r0, t.r4, t.c0, t.c4⟩
def revS (x : Str) : Str := ⟨x.cps.toList.reverse.toArray⟩
theorem revS_len (x : Str) : (revS x).length = x.length := by
  show (x.cps.toList.reverse.toArray).size = x.cps.size
  simp
theorem tb_side {rows : List Str} {r c : Nat} (t : Tb rows r c) : Tb (rows.map revS) r c := by
  refine ⟨by rw [List.length_map]; exact t.hr, fun x hx => ?_, t.r0, t.r4, t.c0, t.c4⟩
  obtain ⟨y, hy, rfl⟩ := List.mem_map.mp hx
  rw [revS_len]
  exact t.hc y hy
theorem repL_1 (a : Nat) : ∀ n, repL n [a] = List.replicate n a
  | 0 => rfl
  | n + 1 => by
    have ih := repL_1 a n
    unfold repL at ih ⊢
    rw [List.replicate_succ, List.flatten_cons, ih]
    rfl
theorem mul_a {c : Nat} (hc : c ≤ 1000) : dBin .Mult (.str (Str.ofString "a")) (.int (c : Int)) = .ret (.str (mk (List.replicate c 97))) := by
    show (guard (decide (-(2 ^ 62) ≤ (c : Int)) && decide ((c : Int) < 2 ^ 62) && decide ((Str.ofString "a").length * (c : Int).toNat ≤ lim)) >>= fun _ => Tree.ret (PyData.str ⟨(repL (c : Int).toNat (Str.ofString "a").cps.toList).toArray⟩)) = _
    have la : (Str.ofString "a").length = 1 := rfl
    rw [guard_of (by
      rw [Bool.and_eq_true, Bool.and_eq_true]
      refine ⟨⟨decide_eq_true (by omega), decide_eq_true (by omega)⟩, decide_eq_true ?_⟩
      rw [la, Int.toNat_natCast, lim_eq']; omega)]
    have e3 : repL (c : Int).toNat (Str.ofString "a").cps.toList = List.replicate c 97 := by
      rw [Int.toNat_natCast]
      exact repL_1 97 c
    rw [e3]
    rfl
theorem bi_tup_tbl (l : List Str) : dBi .tuple [.list (l.map .str)] = .ret (tbl l) := id rfl
theorem c_seg {rows : List Str} {r c : Nat} (t : Tb rows r c) (hr : r ≤ 3) (hc : c ≤ 3) {y0 y2 y4 y5 y6 y7 y8 y9 y10 y11 y12 y13 y14 y15 y16 y17 y18 y19 : Option B} : exs P0 gC [y0, some .box, y2, some (.v (tbl rows)), y4, y5, y6, y7, y8, y9, y10, y11, y12, y13, y14, y15, y16, y17, y18, y19] = .ret (.nx [y0, some .box, y2, some (.v (tbl rows)), y4, y5, some (.v (tbl (turnR rows r c))), y7, y8, some (.v (tbl (plainR r c))), y10, y11, y12, y13, y14, y15, y16, y17, y18, y19]) := by
  obtain ⟨r0, _, h0c, h0⟩ := t.first
  have l2 : r0.length ≤ lim := by rw [h0c]; exact Nat.le_trans t.c4 (by decide)
  have ok : meOk .join (.str (Str.ofString "")) = true := rfl
  have it : items (tbl rows) = .ret (rows.map .str) := id rfl
  have cl : decide (c ≤ lim) = true := decide_eq_true (by rw [lim_eq']; omega)
  have rl : decide (r ≤ lim) = true := decide_eq_true (by rw [lim_eq']; omega)
  have e1 : ev P0 .w (.lc (.name 8) [8] (.bi .range [(.bi .len [(.idx (.var 3) (.con (.int (0))))])]) [] (.me .join (.con (.str ("" : Str))) [(.lc (.name 7) [7] (.bi .range [(.bi .len [(.var 3)])]) [] (.idx (.idx (.var 3) (.bin .Sub (.bin .Sub (.bi .len [(.var 3)]) (.con (.int (1)))) (.var 7))) (.var 8)))])) [y0, some .box, y2, some (.v (tbl rows)), y4, y5, y6, y7, y8, y9, y10, y11, y12, y13, y14, y15, y16, y17, y18, y19] = .ret (.list ((turnR rows r c).map .str)) := by
    simp only [e_lc, e_I, e_rng1, e_bi_v, e_ws_cons, e_ws_nil, e_idx, e_var_w, e_con, rdW, List.getElem?_cons_zero, List.getElem?_cons_succ, rb, post_w, post_v, h0, len_str l2, h0c, asI, near_nat t.c4, gtrue, Int.toNat_natCast, asL, rng_len, cl]
    rw [lcD_map (g := fun y => some (onI .none (fun j => .str (mk ((List.range r).map fun i => lt rows (r - 1 - i, j)))) y)) fun x hx => ?_]
    · rw [fm_some, rng_map]
      simp only [rb]
      unfold turnR
      rw [List.map_map]
      rfl
    · obtain ⟨j, hj, rfl⟩ := rng_mem hx
      simp only [tr_b, as_b, decide_true, ite_true, ite_false, Bool.false_eq_true, rd, rdW, rdB, List.getElem?_cons_zero, List.getElem?_cons_succ, List.set_cons_zero, List.set_cons_succ, List.replicate, List.cons_append, List.nil_append, List.append_nil, List.length_cons, List.length_nil, List.map_cons, List.map_nil, Nat.sub_self, frzAt, e_var_v, e_var_w, e_var_t, e_var_i, e_con, e_tup, e_lst, e_bin, e_neg, e_not_v, e_not_t, e_and_v, e_and_t, e_or_v, e_or_t, e_ite_v, e_ite_w, e_ite_t, e_cmp, e_cmp2, e_idx, e_slc, e_rev, e_call, e_isa, e_bi_v, e_bi_w, e_bi_t, e_rng1, e_rng2, e_join, e_count, e_ws_nil, e_ws_cons, e_s_nil, e_s_cons, e_b_nil, e_b_cons, e_B_var, e_B_con, e_B_tup, e_B_lst, e_B_bin, e_B_idx, e_B_slc, e_B_call, e_B_bi, e_B_ite, e_B_lc, e_B_rev, e_o_none, e_o_some, e_if_nil, e_if_one, e_T, e_I, x_nil, x_cons, x_asg, x_own, x_ret, x_ite, x_for, x_frz, bT_name, bT_tup, bTs_nil, bTs_cons, post_v, post_w, post_t', post_i', rb, gtrue, e_lc, ok, len_tbl, t.hr, asI, near_nat t.r4, asL, rng_len, rl, Pd.wip, Int.toNat_natCast]
      rw [lcD_map (g := fun y => some (onI .none (fun i => sign (lt rows (r - 1 - i, j))) y)) fun x hx => ?_]
      · rw [fm_some, rng_map]
        simp only [rb]
        have e : ((List.range r).map fun i : Nat => onI PyData.none (fun i => sign (lt rows (r - 1 - i, j))) (.int (i : Int))) = ((List.range r).map fun i => lt rows (r - 1 - i, j)).map sign := by
          rw [List.map_map]
          rfl
        rw [e, join_signs (by rw [List.length_map, List.length_range, lim_eq']; omega)]
        rfl
      · obtain ⟨i, hi, rfl⟩ := rng_mem hx
        obtain ⟨x, h1, h2, h3⟩ := lt_at t (a := (r - 1 - i, j)) ⟨by show r - 1 - i < r; omega, hj⟩
        have ei : ((r : Int) - 1 - (i : Int)) = ((r - 1 - i : Nat) : Int) := by omega
        simp only [tr_b, as_b, decide_true, ite_true, ite_false, Bool.false_eq_true, rd, rdW, rdB, List.getElem?_cons_zero, List.getElem?_cons_succ, List.set_cons_zero, List.set_cons_succ, List.replicate, List.cons_append, List.nil_append, List.append_nil, List.length_cons, List.length_nil, List.map_cons, List.map_nil, Nat.sub_self, frzAt, e_var_v, e_var_w, e_var_t, e_var_i, e_con, e_tup, e_lst, e_bin, e_neg, e_not_v, e_not_t, e_and_v, e_and_t, e_or_v, e_or_t, e_ite_v, e_ite_w, e_ite_t, e_cmp, e_cmp2, e_idx, e_slc, e_rev, e_call, e_isa, e_bi_v, e_bi_w, e_bi_t, e_rng1, e_rng2, e_join, e_count, e_ws_nil, e_ws_cons, e_s_nil, e_s_cons, e_b_nil, e_b_cons, e_B_var, e_B_con, e_B_tup, e_B_lst, e_B_bin, e_B_idx, e_B_slc, e_B_call, e_B_bi, e_B_ite, e_B_lc, e_B_rev, e_o_none, e_o_some, e_if_nil, e_if_one, e_T, e_I, x_nil, x_cons, x_asg, x_own, x_ret, x_ite, x_for, x_frz, bT_name, bT_tup, bTs_nil, bTs_cons, post_v, post_w, post_t', post_i', rb, gtrue, len_tbl, t.hr, b_sub, ei, tbl_row h1, str_idx (by rw [h2, lim_eq']; omega) h3]
        rfl
  have e2 : ev P0 .w (.lc (.name 10) [10] (.var 3) [] (.bin .Mult (.con (.str ("a" : Str))) (.bi .len [(.var 10)]))) [y0, some .box, y2, some (.v (tbl rows)), y4, y5, some (.v (tbl (turnR rows r c))), y7, y8, y9, y10, y11, y12, y13, y14, y15, y16, y17, y18, y19] = .ret (.list ((plainR r c).map .str)) := by
    have lr : decide ((rows.map PyData.str).length ≤ lim) = true := by rw [List.length_map, t.hr]; exact rl
    simp only [e_lc, e_I, e_var_i, rd, List.getElem?_cons_zero, List.getElem?_cons_succ, rb, post_w, post_i', it, asL, lr, gtrue]
    rw [lcD_map (g := fun y => some (.str (mk (List.replicate c 97)))) fun x hx => ?_]
    · rw [fm_some]
      simp only [rb]
      congr 2
      unfold plainR
      rw [List.map_replicate, List.map_map]
      have : ∀ l : List Str, l.map ((fun _ => PyData.str (mk (List.replicate c 97))) ∘ PyData.str) = List.replicate l.length (PyData.str (mk (List.replicate c 97))) := fun l => by
        induction l with
        | nil => rfl
        | cons x l ih => rw [List.map_cons, ih]; rfl
      rw [this, t.hr]
    · obtain ⟨x, hx', rfl⟩ := List.mem_map.mp hx
      have hl := t.hc x hx'
      have hm := mul_a (c := c) (by omega)
      simp only [tr_b, as_b, decide_true, ite_true, ite_false, Bool.false_eq_true, rd, rdW, rdB, List.getElem?_cons_zero, List.getElem?_cons_succ, List.set_cons_zero, List.set_cons_succ, List.replicate, List.cons_append, List.nil_append, List.append_nil, List.length_cons, List.length_nil, List.map_cons, List.map_nil, Nat.sub_self, frzAt, e_var_v, e_var_w, e_var_t, e_var_i, e_con, e_tup, e_lst, e_bin, e_neg, e_not_v, e_not_t, e_and_v, e_and_t, e_or_v, e_or_t, e_ite_v, e_ite_w, e_ite_t, e_cmp, e_cmp2, e_idx, e_slc, e_rev, e_call, e_isa, e_bi_v, e_bi_w, e_bi_t, e_rng1, e_rng2, e_join, e_count, e_ws_nil, e_ws_cons, e_s_nil, e_s_cons, e_b_nil, e_b_cons, e_B_var, e_B_con, e_B_tup, e_B_lst, e_B_bin, e_B_idx, e_B_slc, e_B_call, e_B_bi, e_B_ite, e_B_lc, e_B_rev, e_o_none, e_o_some, e_if_nil, e_if_one, e_T, e_I, x_nil, x_cons, x_asg, x_own, x_ret, x_ite, x_for, x_frz, bT_name, bT_tup, bTs_nil, bTs_cons, post_v, post_w, post_t', post_i', rb, gtrue, Pd.wip, len_str (show x.length ≤ lim by rw [hl, lim_eq']; omega), hl, hm]
  unfold gC
  simp only [tr_b, as_b, decide_true, ite_true, ite_false, Bool.false_eq_true, rd, rdW, rdB, List.getElem?_cons_zero, List.getElem?_cons_succ, List.set_cons_zero, List.set_cons_succ, List.replicate, List.cons_append, List.nil_append, List.append_nil, List.length_cons, List.length_nil, List.map_cons, List.map_nil, Nat.sub_self, frzAt, e_var_v, e_var_w, e_var_t, e_var_i, e_con, e_tup, e_lst, e_bin, e_neg, e_not_v, e_not_t, e_and_v, e_and_t, e_or_v, e_or_t, e_ite_v, e_ite_w, e_ite_t, e_cmp, e_cmp2, e_idx, e_slc, e_rev, e_call, e_isa, e_bi_v, e_bi_w, e_bi_t, e_rng1, e_rng2, e_join, e_count, e_ws_nil, e_ws_cons, e_s_nil, e_s_cons, e_b_nil, e_b_cons, e_B_var, e_B_con, e_B_tup, e_B_lst, e_B_bin, e_B_idx, e_B_slc, e_B_call, e_B_bi, e_B_ite, e_B_lc, e_B_rev, e_o_none, e_o_some, e_if_nil, e_if_one, e_T, e_I, x_nil, x_cons, x_asg, x_own, x_ret, x_ite, x_for, x_frz, bT_name, bT_tup, bTs_nil, bTs_cons, post_v, post_w, post_t', post_i', rb, gtrue, e1, bi_tup_tbl]
  simp only [tr_b, as_b, decide_true, ite_true, ite_false, Bool.false_eq_true, rd, rdW, rdB, List.getElem?_cons_zero, List.getElem?_cons_succ, List.set_cons_zero, List.set_cons_succ, List.replicate, List.cons_append, List.nil_append, List.append_nil, List.length_cons, List.length_nil, List.map_cons, List.map_nil, Nat.sub_self, frzAt, e_var_v, e_var_w, e_var_t, e_var_i, e_con, e_tup, e_lst, e_bin, e_neg, e_not_v, e_not_t, e_and_v, e_and_t, e_or_v, e_or_t, e_ite_v, e_ite_w, e_ite_t, e_cmp, e_cmp2, e_idx, e_slc, e_rev, e_call, e_isa, e_bi_v, e_bi_w, e_bi_t, e_rng1, e_rng2, e_join, e_count, e_ws_nil, e_ws_cons, e_s_nil, e_s_cons, e_b_nil, e_b_cons, e_B_var, e_B_con, e_B_tup, e_B_lst, e_B_bin, e_B_idx, e_B_slc, e_B_call, e_B_bi, e_B_ite, e_B_lc, e_B_rev, e_o_none, e_o_some, e_if_nil, e_if_one, e_T, e_I, x_nil, x_cons, x_asg, x_own, x_ret, x_ite, x_for, x_frz, bT_name, bT_tup, bTs_nil, bTs_cons, post_v, post_w, post_t', post_i', rb, gtrue, e2, bi_tup_tbl]
end Pd


namespace Pd
open PySem L2
theorem len_wks (ws : List (List Sq)) : dBi .len [wks ws] = .ret (.int ws.length) := by
  unfold wks
  rw [bi_len_lst, List.length_map]
theorem rev_tbl (rows : List Str) : dRev (tbl rows) = .ret (tbl rows.reverse) := by
  show Tree.ret (PyData.tuple (rows.map PyData.str).reverse) = _
  rw [← List.map_reverse]
  rfl
theorem rev_str {x : Str} (h : x.length ≤ lim) : dRev (.str x) = .ret (.str (revS x)) := by
  show (guard (decide (x.length ≤ lim)) >>= fun _ => _) = _
  rw [guard_of (decide_eq_true h)]
  rfl
theorem d_seg {rows : List Str} {r c m : Nat} (t : Tb rows r c) (hr : r ≤ 3) (hc : c ≤ 3) (h9 : r * c ≤ 9) (hm : m ≤ 5) {A B' : D} {y0 y2 y7 y8 y10 y11 y12 y13 y14 y15 y16 y17 y18 y19 : Option B} : Al (exs P0 gD [y0, some .box, y2, some (.v (tbl rows)), some (.v (.int ((m : Int) + 1))), some (.v (wks (walks r c m))), some (.v (tbl (turnR rows r c))), y7, y8, some (.v (tbl (plainR r c))), y10, y11, y12, y13, y14, y15, y16, y17, y18, y19]) fun o => ∃ ρ', o = .nx ρ' ∧ (ρ'.length = 20 ∧ ρ'[1]? = some (some .box) ∧ ρ'[3]? = some (some (.v (tbl rows))) ∧ ρ'[4]? = some (some (.v (.int ((m : Int) + 1)))) ∧ ρ'[5]? = some (some (.v (wks (walks r c m)))) ∧ ρ'[6]? = some (some (.v (tbl (turnR rows r c)))) ∧ ρ'[9]? = some (some (.v (tbl (plainR r c))))) := by
  have it : items (tbl rows) = .ret (rows.map .str) := id rfl
  have e3 : ev P0 .w (.lc (.name 10) [10] (.var 3) [] (.rev (.var 10))) [y0, some .box, y2, some (.v (tbl rows)), some (.v (.int ((m : Int) + 1))), some (.v (wks (walks r c m))), some (.v (tbl (turnR rows r c))), y7, y8, some (.v (tbl (plainR r c))), y10, y11, y12, y13, y14, y15, y16, y17, y18, y19] = .ret (.list ((rows.map revS).map .str)) := by
    have lr : decide ((rows.map PyData.str).length ≤ lim) = true := by rw [List.length_map, t.hr]; exact decide_eq_true (by rw [lim_eq']; omega)
    simp only [e_lc, e_I, e_var_i, rd, List.getElem?_cons_zero, List.getElem?_cons_succ, rb, post_w, post_i', it, asL, lr, gtrue]
    rw [lcD_map (g := fun y => some (.str (revS (toS y)))) fun x hx => ?_]
    · rw [fm_some, List.map_map, List.map_map]
      rfl
    · obtain ⟨x, hx', rfl⟩ := List.mem_map.mp hx
      have hl := t.hc x hx'
      simp only [tr_b, as_b, decide_true, ite_true, ite_false, Bool.false_eq_true, rd, rdW, rdB, List.getElem?_cons_zero, List.getElem?_cons_succ, List.set_cons_zero, List.set_cons_succ, List.replicate, List.cons_append, List.nil_append, List.append_nil, List.length_cons, List.length_nil, List.map_cons, List.map_nil, Nat.sub_self, frzAt, e_var_v, e_var_w, e_var_t, e_var_i, e_con, e_tup, e_lst, e_bin, e_neg, e_not_v, e_not_t, e_and_v, e_and_t, e_or_v, e_or_t, e_ite_v, e_ite_w, e_ite_t, e_cmp, e_cmp2, e_idx, e_slc, e_rev, e_call, e_isa, e_bi_v, e_bi_w, e_bi_t, e_rng1, e_rng2, e_join, e_count, e_ws_nil, e_ws_cons, e_s_nil, e_s_cons, e_b_nil, e_b_cons, e_B_var, e_B_con, e_B_tup, e_B_lst, e_B_bin, e_B_idx, e_B_slc, e_B_call, e_B_bi, e_B_ite, e_B_lc, e_B_rev, e_o_none, e_o_some, e_if_nil, e_if_one, e_T, e_I, x_nil, x_cons, x_asg, x_own, x_ret, x_ite, x_for, x_frz, bT_name, bT_tup, bTs_nil, bTs_cons, post_v, post_w, post_t', post_i', rb, gtrue, Pd.wip, rev_str (show x.length ≤ lim by rw [hl, lim_eq']; omega), toS]
  have d4 : decide (0 + 1 + 1 + 1 + 1 ≤ lim) = true := id rfl
  have all4 : ∀ x ∈ [tbl (turnR rows r c), tbl rows.reverse, tbl (rows.map revS), tbl (plainR r c)], ∃ T r' c', x = tbl T ∧ Tb T r' c' ∧ r' * c' ≤ 9 ∧ (walks r' c' m).length = (walks r c m).length := by
    intro x hx
    simp only [List.mem_cons, List.not_mem_nil, or_false] at hx
    rcases hx with rfl | rfl | rfl | rfl
    · exact ⟨_, c, r, rfl, tb_turn t, by rw [Nat.mul_comm]; exact h9, count_turn c r m⟩
    · exact ⟨_, r, c, rfl, tb_up t, h9, rfl⟩
    · exact ⟨_, r, c, rfl, tb_side t, h9, rfl⟩
    · exact ⟨_, r, c, rfl, tb_plain t, h9, rfl⟩
  unfold gD
  simp only [x_cons, x_frz, frzAt, List.getElem?_cons_zero, List.getElem?_cons_succ, rb, x_for, e_I, e_tup, e_s_cons, e_s_nil, e_var_v, rd, e_rev, e_var_w, rdW, rev_tbl, e_bi_v, e_ws_cons, e_ws_nil, e3, bi_tup_tbl, post_v, List.length_cons, List.length_nil, d4, gtrue, post_i', it_tup, asL, x_nil]
  refine al_seq _ (forD_al (fun ρ' => (ρ'.length = 20 ∧ ρ'[1]? = some (some .box) ∧ ρ'[3]? = some (some (.v (tbl rows))) ∧ ρ'[4]? = some (some (.v (.int ((m : Int) + 1)))) ∧ ρ'[5]? = some (some (.v (wks (walks r c m)))) ∧ ρ'[6]? = some (some (.v (tbl (turnR rows r c)))) ∧ ρ'[9]? = some (some (.v (tbl (plainR r c)))))) ⟨rfl, rfl, rfl, rfl, rfl, rfl, rfl⟩ fun x hx ρ' h => ?_) fun o ho => ?_
  · obtain ⟨T, r', c', rfl, tT, h9', hcnt⟩ := all4 x hx
    obtain ⟨hl, g1, g3, g4, g5, g6, g9⟩ := h; obtain ⟨y0, y1, y2, y3, y4, y5, y6, y7, y8, y9, y10, y11, y12, y13, y14, y15, y16, y17, y18, y19, rfl⟩ := env20 hl; have e1 : y1 = _ := Option.some.inj g1; subst e1; have e3 : y3 = _ := Option.some.inj g3; subst e3; have e4 : y4 = _ := Option.some.inj g4; subst e4; have e5 : y5 = _ := Option.some.inj g5; subst e5; have e6 : y6 = _ := Option.some.inj g6; subst e6; have e9 : y9 = _ := Option.some.inj g9; subst e9
    simp only [tr_b, as_b, decide_true, ite_true, ite_false, Bool.false_eq_true, rd, rdW, rdB, List.getElem?_cons_zero, List.getElem?_cons_succ, List.set_cons_zero, List.set_cons_succ, List.replicate, List.cons_append, List.nil_append, List.append_nil, List.length_cons, List.length_nil, List.map_cons, List.map_nil, Nat.sub_self, frzAt, e_var_v, e_var_w, e_var_t, e_var_i, e_con, e_tup, e_lst, e_bin, e_neg, e_not_v, e_not_t, e_and_v, e_and_t, e_or_v, e_or_t, e_ite_v, e_ite_w, e_ite_t, e_cmp, e_cmp2, e_idx, e_slc, e_rev, e_call, e_isa, e_bi_v, e_bi_w, e_bi_t, e_rng1, e_rng2, e_join, e_count, e_ws_nil, e_ws_cons, e_s_nil, e_s_cons, e_b_nil, e_b_cons, e_B_var, e_B_con, e_B_tup, e_B_lst, e_B_bin, e_B_idx, e_B_slc, e_B_call, e_B_bi, e_B_ite, e_B_lc, e_B_rev, e_o_none, e_o_some, e_if_nil, e_if_one, e_T, e_I, x_nil, x_cons, x_asg, x_own, x_ret, x_ite, x_for, x_frz, bT_name, bT_tup, bTs_nil, bTs_cons, post_v, post_w, post_t', post_i', rb, gtrue, p_count tT h9' hm, len_wks, c_ne, dEq_int, hcnt, Bool.not_true]
    exact al_ret ⟨_, rfl, rfl, rfl, rfl, rfl, rfl, rfl, rfl⟩
  · obtain ⟨ρ', rfl, h⟩ := ho
    exact al_ret ⟨ρ', rfl, h⟩
end Pd


namespace Pd
open PySem L2
theorem bi_min (i j : Int) : dBi .min [.int i, .int j] = .ret (.int (if j < i then j else i)) := id rfl
theorem pairs_1 (l : List Str) : pairs (l.map fun x => PyData.tuple [.str x, .int 1]) = .ret (asD (.int 1) l) := by
  induction l with
  | nil => rfl
  | cons x l ih =>
    show (pairOf (.tuple [.str x, .int 1]) >>= fun p => pairs (l.map fun x => PyData.tuple [.str x, .int 1]) >>= fun xs => Tree.ret (p :: xs)) = _
    rw [ih]
    rfl
theorem bi_dict_1 (l : List Str) : dBi .dict [.list (l.map fun x => PyData.tuple [.str x, .int 1])] = .ret (.dict (asD (.int 1) (uniq l))) := by
  show (pairs (l.map fun x => PyData.tuple [.str x, .int 1]) >>= fun ps => Tree.ret (PyData.dict (putAll [] ps))) = _
  rw [pairs_1, rb]
  have := putAll_asD (.int 1) l []
  rw [show asD (.int 1) [] = [] from rfl] at this
  rw [this]
  rfl
theorem texts_few {rows : List Str} {r c s : Nat} (h9 : r * c ≤ 9) (hs : s ≤ 5) : (texts rows r c s).length ≤ lim := by
  unfold texts
  refine Nat.le_trans (len_uniq _) ?_
  rw [List.length_map]
  exact Nat.le_trans (walks_few s) (lim_pow h9 (by omega))
theorem e_seg {rows : List Str} {r c m : Nat} (t : Tb rows r c) (h9 : r * c ≤ 9) (hm : m ≤ 5) {y0 y2 y5 y6 y7 y8 y9 y10 y11 y12 y13 y14 y15 y16 y17 y18 y19 : Option B} : exs P0 gE [y0, some .box, y2, some (.v (tbl rows)), some (.v (.int ((m : Int) + 1))), y5, y6, y7, y8, y9, y10, y11, y12, y13, y14, y15, y16, y17, y18, y19] = .ret (.nx [y0, some .box, y2, some (.v (tbl rows)), some (.v (.int ((m : Int) + 1))), y5, y6, y7, y8, y9, y10, y11, some (.v (.int ((min m 3 : Nat) + 1))), some (.v (.tuple (srt (texts rows r c (min m 3))))), some (.v (.tuple (srt (texts rows r c (min m 3))))), y15, y16, y17, y18, y19]) := by
  have hs : min m 3 ≤ 5 := by omega
  have emin : (if (4 : Int) < (m : Int) + 1 then (4 : Int) else (m : Int) + 1) = ((min m 3 : Nat) : Int) + 1 := by
    split <;> omega
  generalize hms : min m 3 = s at *
  have few : (walks r c s).length ≤ lim := Nat.le_trans (walks_few s) (lim_pow h9 (by omega))
  have e1 : ev P0 .w (.lc (.name 10) [10] (.call 20 [(.var 3), (.var 12)]) [] (.tup [(.me .join (.con (.str ("" : Str))) [(.lc (.tup [.name 7, .name 8]) [7, 8] (.var 10) [] (.idx (.idx (.var 3) (.var 7)) (.var 8)))]), (.con (.int (1)))])) [y0, some .box, y2, some (.v (tbl rows)), some (.v (.int ((m : Int) + 1))), y5, y6, y7, y8, y9, y10, y11, some (.v (.int ((s : Int) + 1))), y13, y14, y15, y16, y17, y18, y19] = .ret (.list (((walks r c s).map (txt rows)).map fun x => PyData.tuple [.str x, .int 1])) := by
    have iw : items (wks (walks r c s)) = .ret ((walks r c s).map wk) := id rfl
    have lw : decide (((walks r c s).map wk).length ≤ lim) = true := by rw [List.length_map]; exact decide_eq_true few
    simp only [e_lc, e_I, e_call, e_b_cons, e_b_nil, e_B_var, rdB, List.getElem?_cons_zero, List.getElem?_cons_succ, rb, p_lcount t h9 hs, post_i', iw, asL, lw, gtrue, post_w]
    rw [lcD_map (g := fun y => some (.tuple [.str (txt rows (unwk y)), .int 1])) fun x hx => ?_]
    · rw [fm_some, List.map_map, List.map_map]
      simp only [rb]
      congr 2
      exact map_eq fun w _ => by
        show PyData.tuple [.str (txt rows (unwk (wk w))), .int 1] = _
        rw [unwk_wk]
        rfl
    · obtain ⟨w, hw, rfl⟩ := List.mem_map.mp hx
      have won := walks_on hw
      have wl := walks_len hw
      have ok : meOk .join (.str (Str.ofString "")) = true := rfl
      have cl : c ≤ lim := Nat.le_trans t.c4 (by rw [lim_eq']; decide)
      have hl' : decide ((w.map sq).length ≤ lim) = true := by rw [List.length_map, wl, lim_eq']; exact decide_eq_true (by omega)
      have hi : items (wk w) = .ret (w.map sq) := id rfl
      have d1 : decide (0 + 1 + 1 ≤ lim) = true := id rfl
      rw [unwk_wk]
      simp only [tr_b, as_b, decide_true, ite_true, ite_false, Bool.false_eq_true, rd, rdW, rdB, List.getElem?_cons_zero, List.getElem?_cons_succ, List.set_cons_zero, List.set_cons_succ, List.replicate, List.cons_append, List.nil_append, List.append_nil, List.length_cons, List.length_nil, List.map_cons, List.map_nil, Nat.sub_self, frzAt, e_var_v, e_var_w, e_var_t, e_var_i, e_con, e_tup, e_lst, e_bin, e_neg, e_not_v, e_not_t, e_and_v, e_and_t, e_or_v, e_or_t, e_ite_v, e_ite_w, e_ite_t, e_cmp, e_cmp2, e_idx, e_slc, e_rev, e_call, e_isa, e_bi_v, e_bi_w, e_bi_t, e_rng1, e_rng2, e_join, e_count, e_ws_nil, e_ws_cons, e_s_nil, e_s_cons, e_b_nil, e_b_cons, e_B_var, e_B_con, e_B_tup, e_B_lst, e_B_bin, e_B_idx, e_B_slc, e_B_call, e_B_bi, e_B_ite, e_B_lc, e_B_rev, e_o_none, e_o_some, e_if_nil, e_if_one, e_T, e_I, x_nil, x_cons, x_asg, x_own, x_ret, x_ite, x_for, x_frz, bT_name, bT_tup, bTs_nil, bTs_cons, post_v, post_w, post_t', post_i', rb, gtrue, e_lc, hi, asL, hl', ok, Pd.wip]
      rw [lcD_map (g := fun y => some (.str ⟨#[lt rows (unsq y)]⟩)) fun x hx => ?_]
      · simp only [rb]
        rw [fm_some, List.map_map]
        have e : (w.map ((fun y => PyData.str ⟨#[lt rows (unsq y)]⟩) ∘ sq)) = ((w.map (lt rows)).map fun c => (⟨#[c]⟩ : Str)).map .str := by
          rw [List.map_map, List.map_map]
          refine map_eq fun a _ => ?_
          show PyData.str ⟨#[lt rows (unsq (sq a))]⟩ = _
          rw [unsq_sq]
          rfl
        rw [e, join_ones _ (by rw [List.length_map, wl, lim_eq']; omega)]
        simp only [rb, d1, gtrue]
        rfl
      · obtain ⟨a, ha, rfl⟩ := List.mem_map.mp hx
        obtain ⟨x, h1, h2, h3⟩ := lt_at t (won a ha)
        have d2 : decide ([PyData.int a.1, PyData.int a.2].length = [T.name 7, T.name 8].length) = true := rfl
        rw [unsq_sq]
        unfold sq
        simp only [tr_b, as_b, decide_true, ite_true, ite_false, Bool.false_eq_true, rd, rdW, rdB, List.getElem?_cons_zero, List.getElem?_cons_succ, List.set_cons_zero, List.set_cons_succ, List.replicate, List.cons_append, List.nil_append, List.append_nil, List.length_cons, List.length_nil, List.map_cons, List.map_nil, Nat.sub_self, frzAt, e_var_v, e_var_w, e_var_t, e_var_i, e_con, e_tup, e_lst, e_bin, e_neg, e_not_v, e_not_t, e_and_v, e_and_t, e_or_v, e_or_t, e_ite_v, e_ite_w, e_ite_t, e_cmp, e_cmp2, e_idx, e_slc, e_rev, e_call, e_isa, e_bi_v, e_bi_w, e_bi_t, e_rng1, e_rng2, e_join, e_count, e_ws_nil, e_ws_cons, e_s_nil, e_s_cons, e_b_nil, e_b_cons, e_B_var, e_B_con, e_B_tup, e_B_lst, e_B_bin, e_B_idx, e_B_slc, e_B_call, e_B_bi, e_B_ite, e_B_lc, e_B_rev, e_o_none, e_o_some, e_if_nil, e_if_one, e_T, e_I, x_nil, x_cons, x_asg, x_own, x_ret, x_ite, x_for, x_frz, bT_name, bT_tup, bTs_nil, bTs_cons, post_v, post_w, post_t', post_i', rb, gtrue, d2, tbl_row h1, str_idx (by rw [h2]; exact cl) h3]
  unfold gE
  simp only [tr_b, as_b, decide_true, ite_true, ite_false, Bool.false_eq_true, rd, rdW, rdB, List.getElem?_cons_zero, List.getElem?_cons_succ, List.set_cons_zero, List.set_cons_succ, List.replicate, List.cons_append, List.nil_append, List.append_nil, List.length_cons, List.length_nil, List.map_cons, List.map_nil, Nat.sub_self, frzAt, e_var_v, e_var_w, e_var_t, e_var_i, e_con, e_tup, e_lst, e_bin, e_neg, e_not_v, e_not_t, e_and_v, e_and_t, e_or_v, e_or_t, e_ite_v, e_ite_w, e_ite_t, e_cmp, e_cmp2, e_idx, e_slc, e_rev, e_call, e_isa, e_bi_v, e_bi_w, e_bi_t, e_rng1, e_rng2, e_join, e_count, e_ws_nil, e_ws_cons, e_s_nil, e_s_cons, e_b_nil, e_b_cons, e_B_var, e_B_con, e_B_tup, e_B_lst, e_B_bin, e_B_idx, e_B_slc, e_B_call, e_B_bi, e_B_ite, e_B_lc, e_B_rev, e_o_none, e_o_some, e_if_nil, e_if_one, e_T, e_I, x_nil, x_cons, x_asg, x_own, x_ret, x_ite, x_for, x_frz, bT_name, bT_tup, bTs_nil, bTs_cons, post_v, post_w, post_t', post_i', rb, gtrue, bi_min, emin, e1, bi_dict_1, p_texts t h9 hs]
  rw [show uniq ((walks r c s).map (txt rows)) = texts rows r c s from rfl]
  simp only [tr_b, as_b, decide_true, ite_true, ite_false, Bool.false_eq_true, rd, rdW, rdB, List.getElem?_cons_zero, List.getElem?_cons_succ, List.set_cons_zero, List.set_cons_succ, List.replicate, List.cons_append, List.nil_append, List.append_nil, List.length_cons, List.length_nil, List.map_cons, List.map_nil, Nat.sub_self, frzAt, e_var_v, e_var_w, e_var_t, e_var_i, e_con, e_tup, e_lst, e_bin, e_neg, e_not_v, e_not_t, e_and_v, e_and_t, e_or_v, e_or_t, e_ite_v, e_ite_w, e_ite_t, e_cmp, e_cmp2, e_idx, e_slc, e_rev, e_call, e_isa, e_bi_v, e_bi_w, e_bi_t, e_rng1, e_rng2, e_join, e_count, e_ws_nil, e_ws_cons, e_s_nil, e_s_cons, e_b_nil, e_b_cons, e_B_var, e_B_con, e_B_tup, e_B_lst, e_B_bin, e_B_idx, e_B_slc, e_B_call, e_B_bi, e_B_ite, e_B_lc, e_B_rev, e_o_none, e_o_some, e_if_nil, e_if_one, e_T, e_I, x_nil, x_cons, x_asg, x_own, x_ret, x_ite, x_for, x_frz, bT_name, bT_tup, bTs_nil, bTs_cons, post_v, post_w, post_t', post_i', rb, gtrue, sorted_asD (texts_few h9 hs), bi_tup_lst, p_texts t h9 hs]
theorem lt_plain {r c : Nat} {a : Sq} (h : a.1 < r ∧ a.2 < c) : lt (plainR r c) a = 97 := by
  unfold lt plainR
  rw [List.getElem?_replicate_of_lt h.1]
  simp only [Option.map_some, Option.getD_some]
  show ((List.replicate c 97).toArray.toList)[a.2]?.getD _ = 97
  rw [List.getElem?_replicate_of_lt h.2]
  rfl
theorem uniq_same {x : Str} : ∀ {l : List Str}, (∀ y ∈ l, y = x) → uniq l = if l = [] then [] else [x]
  | [], _ => rfl
  | y :: l, h => by
    have e : y = x := h y List.mem_cons_self
    subst e
    rw [if_neg (by intro z; cases z)]
    unfold uniq
    rw [List.foldl_cons]
    have : ∀ l : List Str, (∀ z ∈ l, z = y) → l.foldl put1 [y] = [y] := fun l => by
      induction l with
      | nil => intro _; rfl
      | cons z l ih =>
        intro hz
        have e : z = y := hz z List.mem_cons_self
        subst e
        rw [List.foldl_cons]
        have : put1 [z] z = [z] := by unfold put1; simp
        rw [this]
        exact ih fun q hq => hz q (List.mem_cons_of_mem _ hq)
    exact this l fun z hz => h z (List.mem_cons_of_mem _ hz)
def aS (s : Nat) : Str := mk (List.replicate s 97)
theorem texts_plain {r c s : Nat} : texts (plainR r c) r c s = if walks r c s = [] then [] else [aS (s + 1)] := by
  unfold texts
  rw [uniq_same (x := aS (s + 1)) fun y hy => ?_]
  · by_cases h : walks r c s = []
    · rw [if_pos h, if_pos (by rw [h]; rfl)]
    · rw [if_neg h, if_neg fun z => h (List.map_eq_nil_iff.mp z)]
  · obtain ⟨w, hw, rfl⟩ := List.mem_map.mp hy
    have wl := walks_len hw
    have won := walks_on hw
    unfold txt aS
    congr 1
    have : ∀ l : List Sq, onTab r c l → l.map (lt (plainR r c)) = List.replicate l.length 97 := fun l => by
      induction l with
      | nil => intro _; rfl
      | cons a l ih => intro h; rw [List.map_cons, lt_plain (h a List.mem_cons_self), ih fun b hb => h b (List.mem_cons_of_mem _ hb)]; rfl
    rw [this w won, wl]
theorem srt_len (l : List Str) : (srt l).length = l.length := by
  unfold srt
  rw [List.length_mergeSort, List.length_map]
theorem texts_nil {rows : List Str} {r c s : Nat} : texts rows r c s = [] ↔ walks r c s = [] := by
  constructor
  · intro h
    cases q : walks r c s with
    | nil => rfl
    | cons w l =>
      have : txt rows w ∈ texts rows r c s := mem_uniq.mpr (by rw [q]; exact List.mem_cons_self)
      rw [h] at this
      cases this
  · intro h
    unfold texts
    rw [h]
    rfl
theorem few4 : ∀ r, r < 4 → ∀ c, c < 4 → ∀ m, m < 4 → (walks r c m).length ≤ 4096 := by decide +kernel
theorem all_str {l : List Str} : ∀ d ∈ srt l, ∃ x, d = PyData.str x := fun d hd => by
  obtain ⟨x, _, e⟩ := mem_srt.mp hd
  exact ⟨x, e⟩
theorem texts_4096 {rows : List Str} {r c s : Nat} (hr : r ≤ 3) (hc : c ≤ 3) (hs : s ≤ 3) : (srt (texts rows r c s)).length ≤ 4096 := by
  rw [srt_len]
  unfold texts
  refine Nat.le_trans (len_uniq _) ?_
  rw [List.length_map]
  exact few4 r (by omega) c (by omega) s (by omega)
theorem f_seg {rows : List Str} {r c s : Nat} (t : Tb rows r c) (hr : r ≤ 3) (hc : c ≤ 3) (h9 : r * c ≤ 9) (hs : s ≤ 3) {y0 y1 y2 y3 y4 y5 y6 y7 y8 y10 y11 y15 y16 y17 y18 y19 : Option B} : exs P0 gF [y0, y1, y2, y3, y4, y5, y6, y7, y8, some (.v (tbl (plainR r c))), y10, y11, some (.v (.int ((s : Int) + 1))), some (.v (.tuple (srt (texts rows r c s)))), some (.v (.tuple (srt (texts rows r c s)))), y15, y16, y17, y18, y19] = .ret (.nx [y0, y1, y2, y3, y4, y5, y6, y7, y8, some (.v (tbl (plainR r c))), y10, y11, some (.v (.int ((s : Int) + 1))), some (.v (.tuple (srt (texts rows r c s)))), some (.v (.tuple (srt (texts rows r c s)))), y15, y16, y17, y18, y19]) := by
  have e1 := p_same_self (all_str (l := texts rows r c s)) (texts_4096 hr hc hs)
  have e2 := p_same_self (all_str (l := texts (plainR r c) r c s)) (texts_4096 hr hc hs)
  have e3 := p_texts (tb_plain t) h9 (show s ≤ 5 by omega)
  have e4 : dBin .Mult (.str (Str.ofString "a")) (.int ((s : Int) + 1)) = .ret (.str (aS (s + 1))) := mul_a (c := s + 1) (by omega)
  have d1 : decide (0 + 1 ≤ lim) = true := id rfl
  have d0 : decide (0 ≤ lim) = true := id rfl
  unfold gF
  by_cases h : walks r c s = []
  · have e5 : texts (plainR r c) r c s = [] := texts_nil.mpr h
    have e6 : texts rows r c s = [] := texts_nil.mpr h
    have e7 : srt [] = ([] : List D) := by unfold srt; simp
    have e8 : decide ((0 : Int) < ((([] : List D).length : Nat) : Int)) = false := rfl
    rw [e6, e7] at e1
    rw [e5, e7] at e3
    rw [e6, e7]
    have e9 : P0 17 [.v (.tuple []), .v (.tuple [])] = .ret (.bool true) := p_same_self (ds := []) (fun _ h => by cases h) (by decide)
    have e10 : decide ((0 : Int) < ((0 : Nat) : Int)) = false := rfl
    simp only [tr_b, as_b, decide_true, ite_true, ite_false, Bool.false_eq_true, rd, rdW, rdB, List.getElem?_cons_zero, List.getElem?_cons_succ, List.set_cons_zero, List.set_cons_succ, List.replicate, List.cons_append, List.nil_append, List.append_nil, List.length_cons, List.length_nil, List.map_cons, List.map_nil, Nat.sub_self, frzAt, e_var_v, e_var_w, e_var_t, e_var_i, e_con, e_tup, e_lst, e_bin, e_neg, e_not_v, e_not_t, e_and_v, e_and_t, e_or_v, e_or_t, e_ite_v, e_ite_w, e_ite_t, e_cmp, e_cmp2, e_idx, e_slc, e_rev, e_call, e_isa, e_bi_v, e_bi_w, e_bi_t, e_rng1, e_rng2, e_join, e_count, e_ws_nil, e_ws_cons, e_s_nil, e_s_cons, e_b_nil, e_b_cons, e_B_var, e_B_con, e_B_tup, e_B_lst, e_B_bin, e_B_idx, e_B_slc, e_B_call, e_B_bi, e_B_ite, e_B_lc, e_B_rev, e_o_none, e_o_some, e_if_nil, e_if_one, e_T, e_I, x_nil, x_cons, x_asg, x_own, x_ret, x_ite, x_for, x_frz, bT_name, bT_tup, bTs_nil, bTs_cons, post_v, post_w, post_t', post_i', rb, gtrue, e1, e3, bi_len_tup, c_gt, e8, e10, d0, e9, Bool.not_true]
  · have e5 : texts (plainR r c) r c s = [aS (s + 1)] := by rw [texts_plain, if_neg h]
    have e7 : srt [aS (s + 1)] = [PyData.str (aS (s + 1))] := by unfold srt; simp
    have e6 : decide ((0 : Int) < ((srt (texts rows r c s)).length : Int)) = true := by
      rw [srt_len]
      refine decide_eq_true ?_
      have : texts rows r c s ≠ [] := fun z => h (texts_nil.mp z)
      have := List.length_pos_iff.mpr this
      omega
    rw [e5, e7] at e2 e3
    simp only [tr_b, as_b, decide_true, ite_true, ite_false, Bool.false_eq_true, rd, rdW, rdB, List.getElem?_cons_zero, List.getElem?_cons_succ, List.set_cons_zero, List.set_cons_succ, List.replicate, List.cons_append, List.nil_append, List.append_nil, List.length_cons, List.length_nil, List.map_cons, List.map_nil, Nat.sub_self, frzAt, e_var_v, e_var_w, e_var_t, e_var_i, e_con, e_tup, e_lst, e_bin, e_neg, e_not_v, e_not_t, e_and_v, e_and_t, e_or_v, e_or_t, e_ite_v, e_ite_w, e_ite_t, e_cmp, e_cmp2, e_idx, e_slc, e_rev, e_call, e_isa, e_bi_v, e_bi_w, e_bi_t, e_rng1, e_rng2, e_join, e_count, e_ws_nil, e_ws_cons, e_s_nil, e_s_cons, e_b_nil, e_b_cons, e_B_var, e_B_con, e_B_tup, e_B_lst, e_B_bin, e_B_idx, e_B_slc, e_B_call, e_B_bi, e_B_ite, e_B_lc, e_B_rev, e_o_none, e_o_some, e_if_nil, e_if_one, e_T, e_I, x_nil, x_cons, x_asg, x_own, x_ret, x_ite, x_for, x_frz, bT_name, bT_tup, bTs_nil, bTs_cons, post_v, post_w, post_t', post_i', rb, gtrue, e1, e2, e3, bi_len_tup, c_gt, e6, e4, d1, Bool.not_true]
end Pd


namespace Pd
open PySem L2
theorem shaped_strs {l : List Str} (ok : ∀ x ∈ l, okS x) : SeqAt.shaped (.tuple (l.map .str)) = true := by
  have h1 : PyData.canLayAll0 (l.map PyData.str) = true := by
    induction l with
    | nil => simp [PyData.canLayAll0]
    | cons a w ih =>
      simp only [List.map_cons, PyData.canLayAll0, PyData.canLay0, Bool.and_eq_true]
      exact ⟨okS_iff.mpr (ok a List.mem_cons_self), ih fun x hx => ok x (List.mem_cons_of_mem _ hx)⟩
  have h2 : ∀ l : List Str, PyData.depthAll (l.map PyData.str) ≤ 0 := fun l => by
    induction l with
    | nil => simp [PyData.depthAll]
    | cons a w ih => simp only [List.map_cons, PyData.depthAll, PyData.depth]; omega
  have h2 := h2 l
  unfold SeqAt.shaped
  rw [Bool.and_eq_true]
  refine ⟨by simp only [PyData.canLay0]; exact h1, decide_eq_true ?_⟩
  simp only [PyData.depth]
  omega
theorem shaped_str {x : Str} (ok : okS x) : SeqAt.shaped (.str x) = true := by
  unfold SeqAt.shaped
  rw [Bool.and_eq_true]
  exact ⟨by simp only [PyData.canLay0]; exact okS_iff.mpr ok, by simp [PyData.depth]⟩
theorem in_strs {y : Str} {l : List Str} (oy : okS y) (ol : ∀ x ∈ l, okS x) : dIn (.str y) (.tuple (l.map .str)) = .ret (decide (y ∈ l)) := by
  show (guard (SeqAt.shaped (.str y) && SeqAt.shaped (.tuple (l.map .str))) >>= fun _ => Tree.ret ((l.map PyData.str).any fun z => PyData.eqv z (.str y))) = _
  rw [shaped_str oy, shaped_strs ol]
  show Tree.ret _ = _
  congr 1
  rw [List.any_map]
  clear ol
  induction l with
  | nil => simp
  | cons b w ih =>
    rw [List.any_cons, ih]
    have : ((fun z => PyData.eqv z (.str y)) ∘ PyData.str) b = decide (b = y) := by
      show PyData.eqv (.str b) (.str y) = _
      simp only [PyData.eqv]
      by_cases h : b = y
      · subst h; simp
      · rw [decide_eq_false h]; exact beq_eq_false_iff_ne.mpr h
    rw [this]
    by_cases h : b = y
    · subst h; simp
    · simp [h, Ne.symm h]
theorem in_srt {y : Str} {l : List Str} (oy : okS y) (ol : ∀ x ∈ l, okS x) : dIn (.str y) (.tuple (srt l)) = .ret (decide (y ∈ l)) := by
  rw [srt_str, in_strs oy fun x hx => ol x (mem_unsrt.mp hx)]
  congr 1
  exact decide_eq_decide.mpr mem_unsrt
theorem lt_ok {rows : List Str} (ok : ∀ x ∈ rows, okS x) (a : Sq) : lt rows a < 1114112 := by
  unfold lt
  cases h : rows[a.1]? with
  | none => simp
  | some x =>
    simp only [Option.map_some, Option.getD_some]
    cases h2 : x.cps.toList[a.2]? with
    | none => simp
    | some ch => exact ok x (List.mem_of_getElem? h) ch (List.mem_of_getElem? h2)
theorem txt_ok {rows : List Str} (ok : ∀ x ∈ rows, okS x) (w : List Sq) : okS (txt rows w) := fun ch h => by
  rw [txt_cps] at h
  obtain ⟨a, _, rfl⟩ := List.mem_map.mp h
  exact lt_ok ok a
theorem cut_take {α : Type} (xs : List α) (k : Nat) : Pd.cut xs none (some (k : Int)) = xs.take k := by
  unfold Pd.cut
  rw [HT.sIx_none, HT.sIx_nat, List.drop_zero, Nat.sub_zero]
  by_cases h : k ≤ xs.length
  · rw [Nat.min_eq_left h]
  · rw [Nat.min_eq_right (by omega), List.take_length, List.take_of_length_le (by omega)]
theorem slc_tup (xs : List D) (k : Nat) : dSlc (.tuple xs) none (some (k : Int)) = .ret (.tuple (xs.take k)) := by
  show Tree.ret (PyData.tuple (Pd.cut xs none (some (k : Int)))) = _
  rw [cut_take]
theorem slc_40 (xs : List D) : dSlc (.tuple xs) none (some 40) = .ret (.tuple (xs.take 40)) := slc_tup xs 40
theorem slc_20 (xs : List D) : dSlc (.tuple xs) none (some 20) = .ret (.tuple (xs.take 20)) := slc_tup xs 20
/-- text[:-1] -/
theorem cut_but {α : Type} (xs : List α) : Pd.cut xs none (some (-1)) = xs.take (xs.length - 1) := by
  unfold Pd.cut
  rw [HT.sIx_none, List.drop_zero, Nat.sub_zero]
  congr 1
  unfold HT.sIx
  simp
  omega
theorem slc_but {x : Str} (h : x.length ≤ lim) : dSlc (.str x) none (some (-1)) = .ret (.str (mk (x.cps.toList.take (x.length - 1)))) := by
  show (guard (decide (x.length ≤ lim)) >>= fun _ => Tree.ret (PyData.str ⟨(Pd.cut x.cps.toList none (some (-1))).toArray⟩)) = _
  rw [guard_of (decide_eq_true h), cut_but, Array.length_toList]
  rfl
theorem mem_texts {rows : List Str} {r c s : Nat} {x : Str} : x ∈ texts rows r c s ↔ ∃ w ∈ walks r c s, x = txt rows w := by
  unfold texts
  rw [mem_uniq, List.mem_map]
  constructor
  · rintro ⟨w, h, rfl⟩; exact ⟨w, h, rfl⟩
  · rintro ⟨w, h, rfl⟩; exact ⟨w, h, rfl⟩
theorem texts_ok {rows : List Str} (ok : ∀ x ∈ rows, okS x) {r c s : Nat} : ∀ x ∈ texts rows r c s, okS x := fun x h => by
  obtain ⟨w, _, rfl⟩ := mem_texts.mp h
  exact txt_ok ok w
theorem c_is (x : D) : dCmp .Is x .none = .ret (isNon x) := by cases x <;> rfl
theorem g_seg {rows : List Str} {r c m s : Nat} (t : Tb rows r c) (ok : ∀ x ∈ rows, okS x) (h9 : r * c ≤ 9) (hs : s ≤ 3) {y0 y2 y5 y6 y7 y8 y9 y10 y11 y13 y15 y16 y17 y18 y19 : Option B} : Al (exs P0 gG [y0, some .box, y2, some (.v (tbl rows)), some (.v (.int ((m : Int) + 1))), y5, y6, y7, y8, y9, y10, y11, some (.v (.int ((s : Int) + 1))), y13, some (.v (.tuple (srt (texts rows r c s)))), y15, y16, y17, y18, y19]) fun o => ∃ ρ', o = .nx ρ' ∧ (ρ'.length = 20 ∧ ρ'[1]? = some (some .box) ∧ ρ'[3]? = some (some (.v (tbl rows))) ∧ ρ'[4]? = some (some (.v (.int ((m : Int) + 1)))) ∧ ρ'[12]? = some (some (.v (.int ((s : Int) + 1)))) ∧ ρ'[14]? = some (some (.v (.tuple (srt (texts rows r c s)))))) := by
  have ne : decide (Str.ofString "" = Str.ofString "") = true := by simp
  unfold gG
  simp only [x_cons, x_for, e_I, e_slc, e_var_w, rdW, List.getElem?_cons_zero, List.getElem?_cons_succ, rb, e_o_none, e_o_some, e_con, post_v, asI, slc_40, post_i', it_tup, asL, x_nil]
  refine al_seq _ (forD_al (fun ρ' => (ρ'.length = 20 ∧ ρ'[1]? = some (some .box) ∧ ρ'[3]? = some (some (.v (tbl rows))) ∧ ρ'[4]? = some (some (.v (.int ((m : Int) + 1)))) ∧ ρ'[12]? = some (some (.v (.int ((s : Int) + 1)))) ∧ ρ'[14]? = some (some (.v (.tuple (srt (texts rows r c s))))))) ⟨rfl, rfl, rfl, rfl, rfl, rfl⟩ fun x hx ρ' h => ?_) fun o ho => ?_
  · obtain ⟨x, hx1, rfl⟩ := mem_srt.mp (List.mem_of_mem_take hx)
    obtain ⟨w, hw, rfl⟩ := mem_texts.mp hx1
    have wl := walks_len hw
    have hlen : (txt rows w).length ≤ lim := by rw [txt_len, wl, lim_eq']; omega
    obtain ⟨v, hv⟩ := p_first t h9 hs hw
    have sh := p_short t h9 (walks_nd hw) (walks_on hw) (by rw [wl]; omega)
    have rv : revS (txt rows w) ∈ texts rows r c s := mem_texts.mpr ⟨w.reverse, walks_rev hw, (txt_rev rows w).symm⟩
    have nn : isNon (wk v) = false := rfl
    obtain ⟨hl, g1, g3, g4, g12, g14⟩ := h; obtain ⟨y0, y1, y2, y3, y4, y5, y6, y7, y8, y9, y10, y11, y12, y13, y14, y15, y16, y17, y18, y19, rfl⟩ := env20 hl; have e1 : y1 = _ := Option.some.inj g1; subst e1; have e3 : y3 = _ := Option.some.inj g3; subst e3; have e4 : y4 = _ := Option.some.inj g4; subst e4; have e12 : y12 = _ := Option.some.inj g12; subst e12; have e14 : y14 = _ := Option.some.inj g14; subst e14
    simp only [tr_b, as_b, decide_true, ite_true, ite_false, Bool.false_eq_true, rd, rdW, rdB, List.getElem?_cons_zero, List.getElem?_cons_succ, List.set_cons_zero, List.set_cons_succ, List.replicate, List.cons_append, List.nil_append, List.append_nil, List.length_cons, List.length_nil, List.map_cons, List.map_nil, Nat.sub_self, frzAt, e_var_v, e_var_w, e_var_t, e_var_i, e_con, e_tup, e_lst, e_bin, e_neg, e_not_v, e_not_t, e_and_v, e_and_t, e_or_v, e_or_t, e_ite_v, e_ite_w, e_ite_t, e_cmp, e_cmp2, e_idx, e_slc, e_rev, e_call, e_isa, e_bi_v, e_bi_w, e_bi_t, e_rng1, e_rng2, e_join, e_count, e_ws_nil, e_ws_cons, e_s_nil, e_s_cons, e_b_nil, e_b_cons, e_B_var, e_B_con, e_B_tup, e_B_lst, e_B_bin, e_B_idx, e_B_slc, e_B_call, e_B_bi, e_B_ite, e_B_lc, e_B_rev, e_o_none, e_o_some, e_if_nil, e_if_one, e_T, e_I, x_nil, x_cons, x_asg, x_own, x_ret, x_ite, x_for, x_frz, bT_name, bT_tup, bTs_nil, bTs_cons, post_v, post_w, post_t', post_i', rb, gtrue, sh, hv, c_ne, dEq_str, ne, Bool.not_true, c_is, nn, rev_str hlen, e_not_in, in_srt (texts_ok ok _ rv) (texts_ok ok), decide_eq_true rv]
    exact al_ret ⟨_, rfl, rfl, rfl, rfl, rfl, rfl, rfl⟩
  · obtain ⟨ρ', rfl, h⟩ := ho
    exact al_ret ⟨ρ', rfl, h⟩
theorem h_seg {rows : List Str} {r c s : Nat} (t : Tb rows r c) (ok : ∀ x ∈ rows, okS x) (hr : r ≤ 3) (hc : c ≤ 3) (h9 : r * c ≤ 9) (hs : s ≤ 3) {y0 y1 y2 y4 y5 y6 y7 y8 y9 y10 y11 y13 y15 y16 y17 y18 y19 : Option B} : exs P0 gH [y0, y1, y2, some (.v (tbl rows)), y4, y5, y6, y7, y8, y9, y10, y11, some (.v (.int ((s : Int) + 1))), y13, some (.v (.tuple (srt (texts rows r c s)))), y15, y16, y17, y18, y19] = .ret (.nx [y0, y1, y2, some (.v (tbl rows)), y4, y5, y6, y7, y8, y9, y10, y11, some (.v (.int ((s : Int) + 1))), y13, some (.v (.tuple (srt (texts rows r c s)))), y15, y16, y17, y18, y19]) := by
  unfold gH
  by_cases h0 : s = 0
  · subst h0
    have e1 : decide ((1 : Int) < ((0 : Nat) : Int) + 1) = false := rfl
    simp only [tr_b, as_b, decide_true, ite_true, ite_false, Bool.false_eq_true, rd, rdW, rdB, List.getElem?_cons_zero, List.getElem?_cons_succ, List.set_cons_zero, List.set_cons_succ, List.replicate, List.cons_append, List.nil_append, List.append_nil, List.length_cons, List.length_nil, List.map_cons, List.map_nil, Nat.sub_self, frzAt, e_var_v, e_var_w, e_var_t, e_var_i, e_con, e_tup, e_lst, e_bin, e_neg, e_not_v, e_not_t, e_and_v, e_and_t, e_or_v, e_or_t, e_ite_v, e_ite_w, e_ite_t, e_cmp, e_cmp2, e_idx, e_slc, e_rev, e_call, e_isa, e_bi_v, e_bi_w, e_bi_t, e_rng1, e_rng2, e_join, e_count, e_ws_nil, e_ws_cons, e_s_nil, e_s_cons, e_b_nil, e_b_cons, e_B_var, e_B_con, e_B_tup, e_B_lst, e_B_bin, e_B_idx, e_B_slc, e_B_call, e_B_bi, e_B_ite, e_B_lc, e_B_rev, e_o_none, e_o_some, e_if_nil, e_if_one, e_T, e_I, x_nil, x_cons, x_asg, x_own, x_ret, x_ite, x_for, x_frz, bT_name, bT_tup, bTs_nil, bTs_cons, post_v, post_w, post_t', post_i', rb, gtrue, c_gt, e1]
  · have e1 : decide ((1 : Int) < (s : Int) + 1) = true := decide_eq_true (by omega)
    obtain ⟨s', rfl⟩ : ∃ s', s = s' + 1 := ⟨s - 1, by omega⟩
    have e2 : ((s' + 1 : Nat) : Int) + 1 - 1 = (s' : Int) + 1 := by omega
    have ll : decide ((srt (texts rows r c (s' + 1))).length ≤ lim) = true := by rw [srt_len]; exact decide_eq_true (texts_few h9 (by omega))
    have e3 : ev P0 .w (.lc (.name 15) [15] (.var 14) [] (.cmp .In (.slc (.var 15) none (some (.neg (.con (.int (1)))))) (.call 7 [(.var 3), (.bin .Sub (.var 12) (.con (.int (1))))]))) [y0, y1, y2, some (.v (tbl rows)), y4, y5, y6, y7, y8, y9, y10, y11, some (.v (.int (((s' + 1 : Nat) : Int) + 1))), y13, some (.v (.tuple (srt (texts rows r c (s' + 1))))), y15, y16, y17, y18, y19] = .ret (.list ((List.replicate (srt (texts rows r c (s' + 1))).length true).map .bool)) := by
      simp only [e_lc, e_I, e_var_i, rd, List.getElem?_cons_zero, List.getElem?_cons_succ, rb, post_w, post_i', it_tup, asL, ll, gtrue]
      rw [lcD_map (g := fun y => some (.bool true)) fun x hx => ?_]
      · rw [fm_some, List.map_replicate]
        simp only [rb]
        congr 2
        generalize srt (texts rows r c (s' + 1)) = l
        induction l with
        | nil => rfl
        | cons x l ih => rw [List.map_cons, ih]; rfl
      · obtain ⟨x, hx1, rfl⟩ := mem_srt.mp hx
        obtain ⟨w, hw, rfl⟩ := mem_texts.mp hx1
        have wl := walks_len hw
        have hl : (txt rows w).length ≤ lim := by rw [txt_len, wl, lim_eq']; omega
        have cutd : mk ((txt rows w).cps.toList.take ((txt rows w).length - 1)) ∈ texts rows r c s' := by
          refine mem_texts.mpr ⟨_, walks_take hw s' (by omega), ?_⟩
          rw [txt_cps, txt_len, wl, ← List.map_take]
          rfl
        simp only [tr_b, as_b, decide_true, ite_true, ite_false, Bool.false_eq_true, rd, rdW, rdB, List.getElem?_cons_zero, List.getElem?_cons_succ, List.set_cons_zero, List.set_cons_succ, List.replicate, List.cons_append, List.nil_append, List.append_nil, List.length_cons, List.length_nil, List.map_cons, List.map_nil, Nat.sub_self, frzAt, e_var_v, e_var_w, e_var_t, e_var_i, e_con, e_tup, e_lst, e_bin, e_neg, e_not_v, e_not_t, e_and_v, e_and_t, e_or_v, e_or_t, e_ite_v, e_ite_w, e_ite_t, e_cmp, e_cmp2, e_idx, e_slc, e_rev, e_call, e_isa, e_bi_v, e_bi_w, e_bi_t, e_rng1, e_rng2, e_join, e_count, e_ws_nil, e_ws_cons, e_s_nil, e_s_cons, e_b_nil, e_b_cons, e_B_var, e_B_con, e_B_tup, e_B_lst, e_B_bin, e_B_idx, e_B_slc, e_B_call, e_B_bi, e_B_ite, e_B_lc, e_B_rev, e_o_none, e_o_some, e_if_nil, e_if_one, e_T, e_I, x_nil, x_cons, x_asg, x_own, x_ret, x_ite, x_for, x_frz, bT_name, bT_tup, bTs_nil, bTs_cons, post_v, post_w, post_t', post_i', rb, gtrue, Pd.wip, asI, slc_but hl, b_sub, e2, p_texts t h9 (show s' ≤ 5 by omega), c_in, in_srt (texts_ok ok _ cutd) (texts_ok ok), decide_eq_true cutd]
    have al : ((List.replicate (srt (texts rows r c (s' + 1))).length true).all id) = true := by
      rw [List.all_replicate]
      split <;> rfl
    simp only [tr_b, as_b, decide_true, ite_true, ite_false, Bool.false_eq_true, rd, rdW, rdB, List.getElem?_cons_zero, List.getElem?_cons_succ, List.set_cons_zero, List.set_cons_succ, List.replicate, List.cons_append, List.nil_append, List.append_nil, List.length_cons, List.length_nil, List.map_cons, List.map_nil, Nat.sub_self, frzAt, e_var_v, e_var_w, e_var_t, e_var_i, e_con, e_tup, e_lst, e_bin, e_neg, e_not_v, e_not_t, e_and_v, e_and_t, e_or_v, e_or_t, e_ite_v, e_ite_w, e_ite_t, e_cmp, e_cmp2, e_idx, e_slc, e_rev, e_call, e_isa, e_bi_v, e_bi_w, e_bi_t, e_rng1, e_rng2, e_join, e_count, e_ws_nil, e_ws_cons, e_s_nil, e_s_cons, e_b_nil, e_b_cons, e_B_var, e_B_con, e_B_tup, e_B_lst, e_B_bin, e_B_idx, e_B_slc, e_B_call, e_B_bi, e_B_ite, e_B_lc, e_B_rev, e_o_none, e_o_some, e_if_nil, e_if_one, e_T, e_I, x_nil, x_cons, x_asg, x_own, x_ret, x_ite, x_for, x_frz, bT_name, bT_tup, bTs_nil, bTs_cons, post_v, post_w, post_t', post_i', rb, gtrue, c_gt, e1, e3, bi_all, al, Bool.not_true]
theorem i_seg {rows : List Str} {r c s : Nat} (t : Tb rows r c) (h9 : r * c ≤ 9) (hs : s ≤ 3) {y0 y1 y2 y4 y5 y6 y7 y8 y9 y10 y11 y12 y13 y15 y16 y17 y18 y19 : Option B} : exs P0 gI [y0, y1, y2, some (.v (tbl rows)), y4, y5, y6, y7, y8, y9, y10, y11, y12, y13, some (.v (.tuple (srt (texts rows r c s)))), y15, y16, y17, y18, y19] = .ret (.nx [y0, y1, y2, some (.v (tbl rows)), y4, y5, y6, y7, y8, y9, y10, y11, y12, y13, some (.v (.tuple (srt (texts rows r c s)))), y15, y16, y17, y18, y19]) := by
  have e0 : PyData.tuple ((srt (texts rows r c s)).take 20) = strs_ ((unsrt (texts rows r c s)).take 20) := by
    rw [srt_str, ← List.map_take]
    rfl
  have mem : ∀ x ∈ (unsrt (texts rows r c s)).take 20, ∃ w ∈ walks r c s, x = txt rows w := fun x hx => mem_texts.mp (mem_unsrt.mp (List.mem_of_mem_take hx))
  have e1 := p_walked t h9 (words := (unsrt (texts rows r c s)).take 20) (fun x hx => by
      obtain ⟨w, hw, rfl⟩ := mem x hx
      rw [txt_len, walks_len hw]; omega) (by rw [List.length_take]; omega) fun x hx => by
      obtain ⟨w, hw, rfl⟩ := mem x hx
      exact ⟨s, w, hw, rfl⟩
  have e2 : P0 17 [.v (strs_ ((unsrt (texts rows r c s)).take 20)), .v (strs_ ((unsrt (texts rows r c s)).take 20))] = .ret (.bool true) := p_same_self (fun d hd => by
    obtain ⟨x, _, rfl⟩ := List.mem_map.mp hd
    exact ⟨x, rfl⟩) (by rw [List.length_map, List.length_take]; omega)
  unfold gI
  simp only [tr_b, as_b, decide_true, ite_true, ite_false, Bool.false_eq_true, rd, rdW, rdB, List.getElem?_cons_zero, List.getElem?_cons_succ, List.set_cons_zero, List.set_cons_succ, List.replicate, List.cons_append, List.nil_append, List.append_nil, List.length_cons, List.length_nil, List.map_cons, List.map_nil, Nat.sub_self, frzAt, e_var_v, e_var_w, e_var_t, e_var_i, e_con, e_tup, e_lst, e_bin, e_neg, e_not_v, e_not_t, e_and_v, e_and_t, e_or_v, e_or_t, e_ite_v, e_ite_w, e_ite_t, e_cmp, e_cmp2, e_idx, e_slc, e_rev, e_call, e_isa, e_bi_v, e_bi_w, e_bi_t, e_rng1, e_rng2, e_join, e_count, e_ws_nil, e_ws_cons, e_s_nil, e_s_cons, e_b_nil, e_b_cons, e_B_var, e_B_con, e_B_tup, e_B_lst, e_B_bin, e_B_idx, e_B_slc, e_B_call, e_B_bi, e_B_ite, e_B_lc, e_B_rev, e_o_none, e_o_some, e_if_nil, e_if_one, e_T, e_I, x_nil, x_cons, x_asg, x_own, x_ret, x_ite, x_for, x_frz, bT_name, bT_tup, bTs_nil, bTs_cons, post_v, post_w, post_t', post_i', rb, gtrue, asI, slc_20, e0, e1, e2, Bool.not_true]
theorem j_seg {y0 y2 y3 y4 y5 y6 y7 y8 y9 y10 y11 y12 y13 y14 y15 y16 y17 y18 y19 : Option B} : Al (exs P0 gJ [y0, some .box, y2, y3, y4, y5, y6, y7, y8, y9, y10, y11, y12, y13, y14, y15, y16, y17, y18, y19]) fun o => ∃ ρ', o = .nx ρ' ∧ ∃ (n : Nat) (x : Str), n < 6 ∧ x.length = n + 1 ∧ (ρ'.length = 20 ∧ ρ'[1]? = some (some .box) ∧ ρ'[10]? = some (some (.v (tbl [x]))) ∧ ρ'[16]? = some (some (.v (.int ((n : Int) + 1))))) := by
  have d6 := p_draw (n := 6) (by decide) (by decide)
  have d3 := p_draw (n := 3) (by decide) (by decide)
  have ok : meOk .join (.str (Str.ofString "")) = true := rfl
  have d1 : decide (0 + 1 ≤ lim) = true := id rfl
  unfold gJ
  simp only [tr_b, as_b, decide_true, ite_true, ite_false, Bool.false_eq_true, rd, rdW, rdB, List.getElem?_cons_zero, List.getElem?_cons_succ, List.set_cons_zero, List.set_cons_succ, List.replicate, List.cons_append, List.nil_append, List.append_nil, List.length_cons, List.length_nil, List.map_cons, List.map_nil, Nat.sub_self, frzAt, e_var_v, e_var_w, e_var_t, e_var_i, e_con, e_tup, e_lst, e_bin, e_neg, e_not_v, e_not_t, e_and_v, e_and_t, e_or_v, e_or_t, e_ite_v, e_ite_w, e_ite_t, e_cmp, e_cmp2, e_idx, e_slc, e_rev, e_call, e_isa, e_bi_v, e_bi_w, e_bi_t, e_rng1, e_rng2, e_join, e_count, e_ws_nil, e_ws_cons, e_s_nil, e_s_cons, e_b_nil, e_b_cons, e_B_var, e_B_con, e_B_tup, e_B_lst, e_B_bin, e_B_idx, e_B_slc, e_B_call, e_B_bi, e_B_ite, e_B_lc, e_B_rev, e_o_none, e_o_some, e_if_nil, e_if_one, e_T, e_I, x_nil, x_cons, x_asg, x_own, x_ret, x_ite, x_for, x_frz, bT_name, bT_tup, bTs_nil, bTs_cons, post_v, post_w, post_t', post_i', rb, gtrue, d6, dbind, b_add, ok]
  refine al_draw fun n hn => ?_
  have hn : n < 6 := hn
  have en : (1 : Int) + (n : Int) = ((n + 1 : Nat) : Int) := by omega
  have dl : decide (n + 1 ≤ lim) = true := decide_eq_true (by rw [lim_eq']; omega)
  have hlc : Al (ev P0 .w (.lc (.name 17) [17] (.bi .range [(.var 16)]) [] (.idx (.con (.str ("abc" : Str))) (.call 16 [(.var 1), (.con (.int (3)))]))) [y0, some .box, y2, y3, y4, y5, y6, y7, y8, y9, y10, y11, y12, y13, y14, y15, some (.v (.int ((n + 1 : Nat) : Int))), y17, y18, y19]) fun d => ∃ l : List Nat, d = .list (l.map sign) ∧ l.length = n + 1 := by
    rw [e_lc]
    simp only [e_I, e_rng1, e_var_v, rd, List.getElem?_cons_zero, List.getElem?_cons_succ, rb, asI, near_nat (show n + 1 ≤ 4096 by omega), asL, gtrue, rng_len, Int.toNat_natCast, dl, post_w]
    refine al_seq _ (lcD_al (P := fun d => ∃ ch, d = sign ch ∧ ch < 1114112) fun x hx => ?_) fun ys hys => ?_
    · simp only [tr_b, as_b, decide_true, ite_true, ite_false, Bool.false_eq_true, rd, rdW, rdB, List.getElem?_cons_zero, List.getElem?_cons_succ, List.set_cons_zero, List.set_cons_succ, List.replicate, List.cons_append, List.nil_append, List.append_nil, List.length_cons, List.length_nil, List.map_cons, List.map_nil, Nat.sub_self, frzAt, e_var_v, e_var_w, e_var_t, e_var_i, e_con, e_tup, e_lst, e_bin, e_neg, e_not_v, e_not_t, e_and_v, e_and_t, e_or_v, e_or_t, e_ite_v, e_ite_w, e_ite_t, e_cmp, e_cmp2, e_idx, e_slc, e_rev, e_call, e_isa, e_bi_v, e_bi_w, e_bi_t, e_rng1, e_rng2, e_join, e_count, e_ws_nil, e_ws_cons, e_s_nil, e_s_cons, e_b_nil, e_b_cons, e_B_var, e_B_con, e_B_tup, e_B_lst, e_B_bin, e_B_idx, e_B_slc, e_B_call, e_B_bi, e_B_ite, e_B_lc, e_B_rev, e_o_none, e_o_some, e_if_nil, e_if_one, e_T, e_I, x_nil, x_cons, x_asg, x_own, x_ret, x_ite, x_for, x_frz, bT_name, bT_tup, bTs_nil, bTs_cons, post_v, post_w, post_t', post_i', rb, gtrue, Pd.wip, d3, dbind]
      refine al_draw fun d hd => ?_
      obtain ⟨ch, hch, hlt⟩ := idx_str (x := Str.ofString "abc") (i := d) (by decide) hd (okS_iff.mp (by decide +kernel))
      rw [hch]
      exact al_ret ⟨_, rfl, ch, rfl, hlt⟩
    · obtain ⟨l, rfl, _⟩ := signs_of hys.2
      exact al_ret ⟨l, rfl, by have := hys.1; rw [List.length_map, rng_len] at this; exact this⟩
  rw [en]
  simp only [Tree.bind_assoc', rb]
  refine al_seq _ hlc fun d hd => ?_
  obtain ⟨l, rfl, hl⟩ := hd
  simp only [rb, join_signs (show l.length ≤ lim by rw [hl, lim_eq']; omega), d1, gtrue]
  exact al_ret ⟨_, rfl, n, mk l, hn, by rw [mk_len, hl], rfl, rfl, rfl, rfl⟩
theorem k_seg {x : Str} {n : Nat} (hn : n < 6) (hx : x.length = n + 1) {y0 y2 y3 y4 y5 y6 y7 y8 y9 y11 y12 y13 y14 y15 y17 y18 y19 : Option B} : Al (exs P0 gK [y0, some .box, y2, y3, y4, y5, y6, y7, y8, y9, some (.v (tbl [x])), y11, y12, y13, y14, y15, some (.v (.int ((n : Int) + 1))), y17, y18, y19]) fun o => ∃ ρ', o = .nx ρ' ∧ (ρ'.length = 20 ∧ ρ'[1]? = some (some .box)) := by
  have t : Tb [x] 1 (n + 1) := ⟨rfl, fun y hy => by rw [List.mem_singleton.mp hy]; exact hx, by omega, by omega, by omega, by omega⟩
  have n1 : near62 1 = true := rfl
  have n2 : near62 ((n : Int) + 1 + 2) = true := by
    have : ((n : Int) + 1 + 2) = ((n + 3 : Nat) : Int) := by omega
    rw [this]
    exact near_nat (by omega)
  have n3 : ((n : Int) + 1 + 2 - 1).toNat = n + 2 := by omega
  unfold gK
  simp only [x_cons, x_for, e_I, e_rng2, e_con, post_v, e_bin, e_var_v, rd, List.getElem?_cons_zero, List.getElem?_cons_succ, rb, b_add, asI, n1, n2, Bool.and_self, gtrue, n3, asL, x_nil]
  refine al_seq _ (forD_al (fun ρ' => (ρ'.length = 20 ∧ ρ'[1]? = some (some .box) ∧ ρ'[10]? = some (some (.v (tbl [x]))) ∧ ρ'[16]? = some (some (.v (.int ((n : Int) + 1)))))) ⟨rfl, rfl, rfl, rfl⟩ fun y hy ρ' h => ?_) fun o ho => ?_
  · obtain ⟨k, hk, rfl⟩ := rng1_mem hy
    obtain ⟨hl, g1, g10, g16⟩ := h; obtain ⟨y0, y1, y2, y3, y4, y5, y6, y7, y8, y9, y10, y11, y12, y13, y14, y15, y16, y17, y18, y19, rfl⟩ := env20 hl; have e1 : y1 = _ := Option.some.inj g1; subst e1; have e10 : y10 = _ := Option.some.inj g10; subst e10; have e16 : y16 = _ := Option.some.inj g16; subst e16
    have ek : ((k + 1 : Nat) : Int) = (k : Int) + 1 := by omega
    rw [ek]
    by_cases h6 : k < 6
    · have e1 : decide ((k : Int) + 1 ≤ 6) = true := decide_eq_true (by omega)
      have cnt := p_count t (m := k) (by omega) (by omega)
      have row := one_row n hn k h6
      have bm := b_mul (i := 2) (j := if (n : Int) + 1 - ((k : Int) + 1) + 1 > 0 then (n : Int) + 1 - ((k : Int) + 1) + 1 else 0) (by decide)
      by_cases hk0 : k = 0
      · subst hk0
        have e2 : decide (((0 : Nat) : Int) + 1 = 1) = true := rfl
        have e3 : decide (((walks 1 (n + 1) 0).length : Int) = (n : Int) + 1) = true := by
          rw [row]; exact decide_eq_true (by simp)
        simp only [tr_b, as_b, decide_true, ite_true, ite_false, Bool.false_eq_true, rd, rdW, rdB, List.getElem?_cons_zero, List.getElem?_cons_succ, List.set_cons_zero, List.set_cons_succ, List.replicate, List.cons_append, List.nil_append, List.append_nil, List.length_cons, List.length_nil, List.map_cons, List.map_nil, Nat.sub_self, frzAt, e_var_v, e_var_w, e_var_t, e_var_i, e_con, e_tup, e_lst, e_bin, e_neg, e_not_v, e_not_t, e_and_v, e_and_t, e_or_v, e_or_t, e_ite_v, e_ite_w, e_ite_t, e_cmp, e_cmp2, e_idx, e_slc, e_rev, e_call, e_isa, e_bi_v, e_bi_w, e_bi_t, e_rng1, e_rng2, e_join, e_count, e_ws_nil, e_ws_cons, e_s_nil, e_s_cons, e_b_nil, e_b_cons, e_B_var, e_B_con, e_B_tup, e_B_lst, e_B_bin, e_B_idx, e_B_slc, e_B_call, e_B_bi, e_B_ite, e_B_lc, e_B_rev, e_o_none, e_o_some, e_if_nil, e_if_one, e_T, e_I, x_nil, x_cons, x_asg, x_own, x_ret, x_ite, x_for, x_frz, bT_name, bT_tup, bTs_nil, bTs_cons, post_v, post_w, post_t', post_i', rb, gtrue, c_le, e1, cnt, c_ne, c_eq, dEq_int, e2, e3, Bool.not_true]
        exact al_ret ⟨_, rfl, rfl, rfl, rfl, rfl⟩
      · have e2 : decide ((k : Int) + 1 = 1) = false := decide_eq_false (by omega)
        have e3 : decide (((walks 1 (n + 1) k).length : Int) = 2 * (if (n : Int) + 1 - ((k : Int) + 1) + 1 > 0 then (n : Int) + 1 - ((k : Int) + 1) + 1 else 0)) = true := by
          rw [row, if_neg hk0]
          refine decide_eq_true ?_
          split <;> omega
        simp only [tr_b, as_b, decide_true, ite_true, ite_false, Bool.false_eq_true, rd, rdW, rdB, List.getElem?_cons_zero, List.getElem?_cons_succ, List.set_cons_zero, List.set_cons_succ, List.replicate, List.cons_append, List.nil_append, List.append_nil, List.length_cons, List.length_nil, List.map_cons, List.map_nil, Nat.sub_self, frzAt, e_var_v, e_var_w, e_var_t, e_var_i, e_con, e_tup, e_lst, e_bin, e_neg, e_not_v, e_not_t, e_and_v, e_and_t, e_or_v, e_or_t, e_ite_v, e_ite_w, e_ite_t, e_cmp, e_cmp2, e_idx, e_slc, e_rev, e_call, e_isa, e_bi_v, e_bi_w, e_bi_t, e_rng1, e_rng2, e_join, e_count, e_ws_nil, e_ws_cons, e_s_nil, e_s_cons, e_b_nil, e_b_cons, e_B_var, e_B_con, e_B_tup, e_B_lst, e_B_bin, e_B_idx, e_B_slc, e_B_call, e_B_bi, e_B_ite, e_B_lc, e_B_rev, e_o_none, e_o_some, e_if_nil, e_if_one, e_T, e_I, x_nil, x_cons, x_asg, x_own, x_ret, x_ite, x_for, x_frz, bT_name, bT_tup, bTs_nil, bTs_cons, post_v, post_w, post_t', post_i', rb, gtrue, c_le, e1, cnt, c_ne, c_eq, dEq_int, e2, b_sub, b_add, bi_max, bm, e3, Bool.not_true]
        exact al_ret ⟨_, rfl, rfl, rfl, rfl, rfl⟩
    · have e1 : decide ((k : Int) + 1 ≤ 6) = false := decide_eq_false (by omega)
      simp only [tr_b, as_b, decide_true, ite_true, ite_false, Bool.false_eq_true, rd, rdW, rdB, List.getElem?_cons_zero, List.getElem?_cons_succ, List.set_cons_zero, List.set_cons_succ, List.replicate, List.cons_append, List.nil_append, List.append_nil, List.length_cons, List.length_nil, List.map_cons, List.map_nil, Nat.sub_self, frzAt, e_var_v, e_var_w, e_var_t, e_var_i, e_con, e_tup, e_lst, e_bin, e_neg, e_not_v, e_not_t, e_and_v, e_and_t, e_or_v, e_or_t, e_ite_v, e_ite_w, e_ite_t, e_cmp, e_cmp2, e_idx, e_slc, e_rev, e_call, e_isa, e_bi_v, e_bi_w, e_bi_t, e_rng1, e_rng2, e_join, e_count, e_ws_nil, e_ws_cons, e_s_nil, e_s_cons, e_b_nil, e_b_cons, e_B_var, e_B_con, e_B_tup, e_B_lst, e_B_bin, e_B_idx, e_B_slc, e_B_call, e_B_bi, e_B_ite, e_B_lc, e_B_rev, e_o_none, e_o_some, e_if_nil, e_if_one, e_T, e_I, x_nil, x_cons, x_asg, x_own, x_ret, x_ite, x_for, x_frz, bT_name, bT_tup, bTs_nil, bTs_cons, post_v, post_w, post_t', post_i', rb, gtrue, c_le, e1]
      exact al_ret ⟨_, rfl, rfl, rfl, rfl, rfl⟩
  · obtain ⟨ρ', rfl, h⟩ := ho
    exact al_ret ⟨ρ', rfl, h.1, h.2.1⟩
end Pd


namespace Pd
open PySem L2
theorem nx_al {a b : List S} {ρ ρ1 : Env} {Q : Out → Prop} (h1 : exs P0 a ρ = .ret (.nx ρ1)) (h2 : Al (exs P0 b ρ1) Q) : Al (exs P0 (a ++ b) ρ) Q := by
  rw [exs_app, h1, rb]
  exact h2
theorem turn_al {y0 y2 y3 y4 y5 y6 y7 y8 y9 y10 y11 y12 y13 y14 y15 y16 y17 y18 y19 : Option B} : Al (exs P0 gTurn [y0, some .box, y2, y3, y4, y5, y6, y7, y8, y9, y10, y11, y12, y13, y14, y15, y16, y17, y18, y19]) fun o => ∃ ρ', o = .nx ρ' ∧ (ρ'.length = 20 ∧ ρ'[1]? = some (some .box)) := by
  unfold gTurn
  refine exs_al_app _ a_seg fun ρ' h => ?_
  obtain ⟨rows, r, c, m, t, hr, hc, ok, hm, h⟩ := h
  have h9 : r * c ≤ 9 := Nat.mul_le_mul hr hc
  obtain ⟨hl, g1, g3, g4⟩ := h; obtain ⟨y0, y1, y2, y3, y4, y5, y6, y7, y8, y9, y10, y11, y12, y13, y14, y15, y16, y17, y18, y19, rfl⟩ := env20 hl; have e1 : y1 = _ := Option.some.inj g1; subst e1; have e3 : y3 = _ := Option.some.inj g3; subst e3; have e4 : y4 = _ := Option.some.inj g4; subst e4
  refine nx_al (b_seg t h9 hm) ?_
  refine nx_al (c_seg t hr hc) ?_
  refine exs_al_app _ (d_seg t hr hc h9 hm (A := .none) (B' := .none)) fun ρ' h => ?_
  clear hl
  obtain ⟨hl, g1, g3, g4, g5, g6, g9⟩ := h; obtain ⟨y0, y1, y2, y3, y4, y5, y6, y7, y8, y9, y10, y11, y12, y13, y14, y15, y16, y17, y18, y19, rfl⟩ := env20 hl; have e1 : y1 = _ := Option.some.inj g1; subst e1; have e3 : y3 = _ := Option.some.inj g3; subst e3; have e4 : y4 = _ := Option.some.inj g4; subst e4; have e5 : y5 = _ := Option.some.inj g5; subst e5; have e6 : y6 = _ := Option.some.inj g6; subst e6; have e9 : y9 = _ := Option.some.inj g9; subst e9
  have hs : min m 3 ≤ 3 := by omega
  refine nx_al (e_seg t h9 hm) ?_
  refine nx_al (f_seg t hr hc h9 hs) ?_
  refine exs_al_app _ (g_seg t ok h9 hs) fun ρ' h => ?_
  clear hl
  obtain ⟨hl, g1, g3, g4, g12, g14⟩ := h; obtain ⟨y0, y1, y2, y3, y4, y5, y6, y7, y8, y9, y10, y11, y12, y13, y14, y15, y16, y17, y18, y19, rfl⟩ := env20 hl; have e1 : y1 = _ := Option.some.inj g1; subst e1; have e3 : y3 = _ := Option.some.inj g3; subst e3; have e4 : y4 = _ := Option.some.inj g4; subst e4; have e12 : y12 = _ := Option.some.inj g12; subst e12; have e14 : y14 = _ := Option.some.inj g14; subst e14
  refine nx_al (h_seg t ok hr hc h9 hs) ?_
  refine nx_al (i_seg t h9 hs) ?_
  refine exs_al_app _ j_seg fun ρ' h => ?_
  obtain ⟨n, x, hn, hx, h⟩ := h
  clear hl
  obtain ⟨hl, g1, g10, g16⟩ := h; obtain ⟨y0, y1, y2, y3, y4, y5, y6, y7, y8, y9, y10, y11, y12, y13, y14, y15, y16, y17, y18, y19, rfl⟩ := env20 hl; have e1 : y1 = _ := Option.some.inj g1; subst e1; have e10 : y10 = _ := Option.some.inj g10; subst e10; have e16 : y16 = _ := Option.some.inj g16; subst e16
  exact k_seg hn hx
theorem dEq_self {a : D} (h1 : SeqAt.shaped a = true) (h2 : PyData.eqv a a = true) (h3 : dEq a a = (guard (SeqAt.shaped a && SeqAt.shaped a) >>= fun _ => Tree.ret (PyData.eqv a a))) : dEq a a = .ret true := by
  rw [h3, h1, h2]
  rfl
theorem t22 : Tb ["ab", "cd"] 2 2 := ⟨rfl, fun x hx => by
    simp only [List.mem_cons, List.not_mem_nil, or_false] at hx
    rcases hx with rfl | rfl <;> rfl, by omega, by omega, by omega, by omega⟩
theorem len22 : (texts ["ab", "cd"] 2 2 3).length = 24 := by decide +kernel
theorem end_al {y0 y2 y3 y4 y5 y6 y7 y8 y9 y10 y11 y12 y13 y14 y15 y16 y17 y18 y19 : Option B} : exs P0 gEnd [y0, some .box, y2, y3, y4, y5, y6, y7, y8, y9, y10, y11, y12, y13, y14, y15, y16, y17, y18, y19] = .ret (.ret (.bool true)) := by
  have d2 : decide (0 + 1 + 1 ≤ lim) = true := id rfl
  have d5 : decide (0 + 1 + 1 + 1 + 1 + 1 ≤ lim) = true := id rfl
  have n16 : (near62 1 && near62 6) = true := by decide
  have n5 : ((6 : Int) - 1).toNat = 5 := rfl
  have dl5 : decide (5 ≤ lim) = true := id rfl
  have cnt : ∀ m : Nat, m ≤ 5 → P0 6 [.v (.tuple [.str "ab", .str "cd"]), .v (.int ((m : Int) + 1))] = .ret (.int (walks 2 2 m).length) := fun m hm => p_count t22 (by omega) hm
  have tx : P0 7 [.v (.tuple [.str "ab", .str "cd"]), .v (.int 4)] = .ret (.tuple (srt (texts ["ab", "cd"] 2 2 3))) := p_texts (m := 3) t22 (by omega) (by omega)
  have e1 : ev P0 .w (.lc (.name 17) [17] (.bi .range [(.con (.int (1))), (.con (.int (6)))]) [] (.call 6 [(.var 19), (.var 17)])) [y0, some .box, y2, y3, y4, y5, y6, y7, y8, y9, y10, y11, y12, y13, y14, y15, y16, y17, y18, some (.v (.tuple [.str "ab", .str "cd"]))] = .ret (.list [.int 4, .int 12, .int 24, .int 24, .int 0]) := by
    simp only [e_lc, e_I, e_rng2, e_con, post_v, post_w, rb, asI, n16, gtrue, n5, asL, rng_len, dl5]
    rw [lcD_map (g := fun y => some (onI .none (fun k => .int ((walks 2 2 (k - 1)).length : Nat)) y)) fun x hx => ?_]
    · rw [fm_some]
      have two := two_two
      simp only [List.cons.injEq, and_true] at two
      obtain ⟨h0, h1, h2, h3, h4⟩ := two
      show Tree.ret (PyData.list [.int ((walks 2 2 0).length : Nat), .int ((walks 2 2 1).length : Nat), .int ((walks 2 2 2).length : Nat), .int ((walks 2 2 3).length : Nat), .int ((walks 2 2 4).length : Nat)]) = _
      rw [h0, h1, h2, h3, h4]
      rfl
    · obtain ⟨k, hk, rfl⟩ := rng1_mem hx
      have ek : ((k + 1 : Nat) : Int) = (k : Int) + 1 := by omega
      simp only [tr_b, as_b, decide_true, ite_true, ite_false, Bool.false_eq_true, rd, rdW, rdB, List.getElem?_cons_zero, List.getElem?_cons_succ, List.set_cons_zero, List.set_cons_succ, List.replicate, List.cons_append, List.nil_append, List.append_nil, List.length_cons, List.length_nil, List.map_cons, List.map_nil, Nat.sub_self, frzAt, e_var_v, e_var_w, e_var_t, e_var_i, e_con, e_tup, e_lst, e_bin, e_neg, e_not_v, e_not_t, e_and_v, e_and_t, e_or_v, e_or_t, e_ite_v, e_ite_w, e_ite_t, e_cmp, e_cmp2, e_idx, e_slc, e_rev, e_call, e_isa, e_bi_v, e_bi_w, e_bi_t, e_rng1, e_rng2, e_join, e_count, e_ws_nil, e_ws_cons, e_s_nil, e_s_cons, e_b_nil, e_b_cons, e_B_var, e_B_con, e_B_tup, e_B_lst, e_B_bin, e_B_idx, e_B_slc, e_B_call, e_B_bi, e_B_ite, e_B_lc, e_B_rev, e_o_none, e_o_some, e_if_nil, e_if_one, e_T, e_I, x_nil, x_cons, x_asg, x_own, x_ret, x_ite, x_for, x_frz, bT_name, bT_tup, bTs_nil, bTs_cons, post_v, post_w, post_t', post_i', rb, gtrue, Pd.wip, ek, cnt k (by omega)]
      have : ((k : Int) + 1).toNat - 1 = k := by omega
      show _ = Tree.ret (some (PyData.int ((walks 2 2 (((k : Int) + 1).toNat - 1)).length : Nat)))
      rw [this]
  have e2 : dEq (.list [.int 4, .int 12, .int 24, .int 24, .int 0]) (.list [.int 4, .int 12, .int 24, .int 24, .int 0]) = .ret true := dEq_self (by decide +kernel) (by decide +kernel) rfl
  have e3 : decide (((srt (texts ["ab", "cd"] 2 2 3)).length : Int) = 24) = true := by rw [srt_len, len22]; rfl
  unfold gEnd
  simp only [tr_b, as_b, decide_true, ite_true, ite_false, Bool.false_eq_true, rd, rdW, rdB, List.getElem?_cons_zero, List.getElem?_cons_succ, List.set_cons_zero, List.set_cons_succ, List.replicate, List.cons_append, List.nil_append, List.append_nil, List.length_cons, List.length_nil, List.map_cons, List.map_nil, Nat.sub_self, frzAt, e_var_v, e_var_w, e_var_t, e_var_i, e_con, e_tup, e_lst, e_bin, e_neg, e_not_v, e_not_t, e_and_v, e_and_t, e_or_v, e_or_t, e_ite_v, e_ite_w, e_ite_t, e_cmp, e_cmp2, e_idx, e_slc, e_rev, e_call, e_isa, e_bi_v, e_bi_w, e_bi_t, e_rng1, e_rng2, e_join, e_count, e_ws_nil, e_ws_cons, e_s_nil, e_s_cons, e_b_nil, e_b_cons, e_B_var, e_B_con, e_B_tup, e_B_lst, e_B_bin, e_B_idx, e_B_slc, e_B_call, e_B_bi, e_B_ite, e_B_lc, e_B_rev, e_o_none, e_o_some, e_if_nil, e_if_one, e_T, e_I, x_nil, x_cons, x_asg, x_own, x_ret, x_ite, x_for, x_frz, bT_name, bT_tup, bTs_nil, bTs_cons, post_v, post_w, post_t', post_i', rb, gtrue, d2, d5, e1, c_eq, e2, tx, bi_len_tup, dEq_int, e3]
theorem start_al {y0 y2 y3 y4 y5 y6 y7 y8 y9 y10 y11 y12 y13 y14 y15 y16 y17 y18 y19 : Option B} : ex P0 (.ite (.cmp .NotEq (.tup [(.con (.int (6))), (.con (.int (4)))]) (.tup [(.con (.int (6))), (.con (.int (4)))])) [.ret (.con (.bool false))] []) [y0, some .box, y2, y3, y4, y5, y6, y7, y8, y9, y10, y11, y12, y13, y14, y15, y16, y17, y18, y19] = .ret (.nx [y0, some .box, y2, y3, y4, y5, y6, y7, y8, y9, y10, y11, y12, y13, y14, y15, y16, y17, y18, y19]) := by
  have d2 : decide (0 + 1 + 1 ≤ lim) = true := id rfl
  have e2 : dEq (.tuple [.int 6, .int 4]) (.tuple [.int 6, .int 4]) = .ret true := dEq_self (by decide +kernel) (by decide +kernel) rfl
  simp only [tr_b, as_b, decide_true, ite_true, ite_false, Bool.false_eq_true, rd, rdW, rdB, List.getElem?_cons_zero, List.getElem?_cons_succ, List.set_cons_zero, List.set_cons_succ, List.replicate, List.cons_append, List.nil_append, List.append_nil, List.length_cons, List.length_nil, List.map_cons, List.map_nil, Nat.sub_self, frzAt, e_var_v, e_var_w, e_var_t, e_var_i, e_con, e_tup, e_lst, e_bin, e_neg, e_not_v, e_not_t, e_and_v, e_and_t, e_or_v, e_or_t, e_ite_v, e_ite_w, e_ite_t, e_cmp, e_cmp2, e_idx, e_slc, e_rev, e_call, e_isa, e_bi_v, e_bi_w, e_bi_t, e_rng1, e_rng2, e_join, e_count, e_ws_nil, e_ws_cons, e_s_nil, e_s_cons, e_b_nil, e_b_cons, e_B_var, e_B_con, e_B_tup, e_B_lst, e_B_bin, e_B_idx, e_B_slc, e_B_call, e_B_bi, e_B_ite, e_B_lc, e_B_rev, e_o_none, e_o_some, e_if_nil, e_if_one, e_T, e_I, x_nil, x_cons, x_asg, x_own, x_ret, x_ite, x_for, x_frz, bT_name, bT_tup, bTs_nil, bTs_cons, post_v, post_w, post_t', post_i', rb, gtrue, d2, c_ne, e2, Bool.not_true]
theorem law_al : Al (exs P0 lawS (lawEnv 20 1)) fun o => o = .ret (.bool true) := by
  have e0 : lawEnv 20 1 = [none, some .box, none, none, none, none, none, none, none, none, none, none, none, none, none, none, none, none, none, none] := rfl
  have n3 : near62 3 = true := by decide
  rw [lawS_eq, e0, x_cons, start_al, rb]
  refine exs_al (fun ρ' => (ρ'.length = 20 ∧ ρ'[1]? = some (some .box))) ?_ fun ρ' h => ?_
  · simp only [x_for, e_I, e_rng1, e_con, post_v, rb, asI, n3, gtrue, asL]
    have i0 : (fun ρ' : Env => (ρ'.length = 20 ∧ ρ'[1]? = some (some .box))) [none, some .box, none, none, none, none, none, none, none, none, none, none, none, none, none, none, none, none, none, none] := ⟨rfl, rfl⟩
    refine forD_al (fun ρ' => (ρ'.length = 20 ∧ ρ'[1]? = some (some .box))) i0 fun x hx ρ' h => ?_
    obtain ⟨hl, g1⟩ := h; obtain ⟨y0, y1, y2, y3, y4, y5, y6, y7, y8, y9, y10, y11, y12, y13, y14, y15, y16, y17, y18, y19, rfl⟩ := env20 hl; have e1 : y1 = _ := Option.some.inj g1; subst e1
    simp only [bT_name, rb, List.set_cons_zero, List.set_cons_succ]
    exact turn_al
  · obtain ⟨hl, g1⟩ := h; obtain ⟨y0, y1, y2, y3, y4, y5, y6, y7, y8, y9, y10, y11, y12, y13, y14, y15, y16, y17, y18, y19, rfl⟩ := env20 hl; have e1 : y1 = _ := Option.some.inj g1; subst e1
    rw [end_al]
    exact al_ret rfl
theorem law_true : LawTrue := law_al.out
end Pd
theorem PySem.Challenge.cw_lettergrids_k48_whole_walks_of_a_length_holds : PySem.Challenge.rw_lettergrids_k48_whole_walks_of_a_length.Holds :=
  holds_of Pd.law_true


