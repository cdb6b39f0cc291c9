import PyProof.Rows.All
import Wide.All
import OpenK.AllK
import Wide.FinOn
import HandS.ForMost
import HandS.TupAny
import HandS.TupMul
import HandS.Deep
import HandS.IsInst
import HandS.SortInts
import HandS.SortRule
import KE.GoesEnum
import HandS.More
import HandS.Style
import HandS.HeadEnd
import PySem.Challenge.RW_boxwitness_k04_runs_by_names
section
/-! # PF: a plain reading of the programs' language: values as trees, objects that change in a store. Core Lean alone. -/
set_option autoImplicit false
namespace PF

/-- values: tuples are trees; what can change is named by its place in the store -/
inductive D where
  | non
  | bl (b : Bool)
  | int (i : Int)
  | str (s : List Nat)
  | tup (ds : List D)
  | ref (n : Nat)
  deriving Inhabited

mutual
def D.decEq : (a b : D) → Decidable (a = b)
  | .non, .non => .isTrue rfl
  | .bl a, .bl b => if h : a = b then .isTrue (h ▸ rfl) else .isFalse (fun e => by cases e; exact h rfl)
  | .int a, .int b => if h : a = b then .isTrue (h ▸ rfl) else .isFalse (fun e => by cases e; exact h rfl)
  | .str a, .str b => if h : a = b then .isTrue (h ▸ rfl) else .isFalse (fun e => by cases e; exact h rfl)
  | .ref a, .ref b => if h : a = b then .isTrue (h ▸ rfl) else .isFalse (fun e => by cases e; exact h rfl)
  | .tup a, .tup b => match D.decEqs a b with
    | .isTrue h => .isTrue (h ▸ rfl)
    | .isFalse h => .isFalse (fun e => by cases e; exact h rfl)
  | .non, .bl _ | .non, .int _ | .non, .str _ | .non, .tup _ | .non, .ref _ => .isFalse (fun e => nomatch e)
  | .bl _, .non | .bl _, .int _ | .bl _, .str _ | .bl _, .tup _ | .bl _, .ref _ => .isFalse (fun e => nomatch e)
  | .int _, .non | .int _, .bl _ | .int _, .str _ | .int _, .tup _ | .int _, .ref _ => .isFalse (fun e => nomatch e)
  | .str _, .non | .str _, .bl _ | .str _, .int _ | .str _, .tup _ | .str _, .ref _ => .isFalse (fun e => nomatch e)
  | .tup _, .non | .tup _, .bl _ | .tup _, .int _ | .tup _, .str _ | .tup _, .ref _ => .isFalse (fun e => nomatch e)
  | .ref _, .non | .ref _, .bl _ | .ref _, .int _ | .ref _, .str _ | .ref _, .tup _ => .isFalse (fun e => nomatch e)
def D.decEqs : (a b : List D) → Decidable (a = b)
  | [], [] => .isTrue rfl
  | [], _ :: _ => .isFalse (fun e => nomatch e)
  | _ :: _, [] => .isFalse (fun e => nomatch e)
  | x :: xs, y :: ys => match D.decEq x y with
    | .isFalse h => .isFalse (fun e => by cases e; exact h rfl)
    | .isTrue h => match D.decEqs xs ys with
      | .isFalse h' => .isFalse (fun e => by cases e; exact h' rfl)
      | .isTrue h' => .isTrue (h ▸ h' ▸ rfl)
end
instance : DecidableEq D := D.decEq

/-- what can change: lists (rol: the script, read alone), dicts (keys numbers and texts; keysT: tuples), instances -/
inductive MO where
  | lst (ds : List D)
  | rol (ds : List D)
  | dic (kvs : List (D × D))
  | dit (kvs : List (D × D))
  | ins (c : Nat) (fs : List (Nat × D))
  deriving DecidableEq, Inhabited

abbrev Sto := List MO
/-- the largest length of a list, a dict, a text -/
def LIM : Nat := 16777216

/-- an error on its way: its class, its row -/
structure Exc where
  c : Nat
  row : Option D

inductive Out (α : Type) where
  | ok (a : α) (S : Sto)
  | err (e : Exc) (S : Sto)
  | bad
abbrev M (α : Type) := Sto → Out α
def Out.bind {α β : Type} : Out α → (α → M β) → Out β
  | .ok a S, k => k a S
  | .err e S, _ => .err e S
  | .bad, _ => .bad
@[simp] theorem bind_ok {α β : Type} (a : α) (S : Sto) (k : α → M β) : (Out.ok a S).bind k = k a S := rfl

abbrev Env := List (Option D)
abbrev E := Env → M D
abbrev T := Env → M Bool
abbrev A := Env → M (List D)
inductive Fl where
  | nx | bk | ct | rt (d : D)
abbrev St := Env → M (Fl × Env)
abbrev Fn := List D → M D

/-! ### values -/
/-- a new object -/
def alloc (o : MO) : M D := fun S => .ok (.ref S.length) (S ++ [o])
/-- the items of a list -/
def lstOf (n : Nat) (S : Sto) : Option (List D) :=
  match S[n]? with
  | some (.lst ds) => some ds
  | some (.rol ds) => some ds
  | _ => none
/-- the items of a list or a tuple -/
def seqOf (d : D) (S : Sto) : Option (List D) :=
  match d with
  | .tup ds => some ds
  | .ref n => lstOf n S
  | _ => none
def b2i (b : Bool) : Int := if b then 1 else 0

/-! ### == -/
/-- a value as a tree, its lists told -/
inductive J where
  | non | bl (b : Bool) | int (i : Int) | str (s : List Nat) | tup (js : List J) | lst (js : List J)
  deriving Inhabited
def allSome {α β : Type} (f : α → Option β) : List α → Option (List β)
  | [] => some []
  | x :: xs => match f x with
    | none => none
    | some y => match allSome f xs with
      | none => none
      | some ys => some (y :: ys)
def tree (S : Sto) : Nat → D → Option J
  | _, .non => some .non
  | _, .bl b => some (.bl b)
  | _, .int i => some (.int i)
  | _, .str s => if s.all (fun c => decide (c < 1114112)) then some (.str s) else none
  | 0, _ => none
  | n + 1, .tup ds => match allSome (tree S n) ds with
    | some js => some (.tup js)
    | none => none
  | n + 1, .ref i => match lstOf i S with
    | some ds => match allSome (tree S n) ds with
      | some js => some (.lst js)
      | none => none
    | none => none
mutual
def J.eqv : J → J → Bool
  | .non, .non => true
  | .bl x, .bl y => x == y
  | .int x, .int y => x == y
  | .bl x, .int y => b2i x == y
  | .int x, .bl y => x == b2i y
  | .str x, .str y => x == y
  | .tup xs, .tup ys => J.eqvs xs ys
  | .lst xs, .lst ys => J.eqvs xs ys
  | .non, .bl _ | .non, .int _ | .non, .str _ | .non, .tup _ | .non, .lst _ => false
  | .bl _, .non | .bl _, .str _ | .bl _, .tup _ | .bl _, .lst _ => false
  | .int _, .non | .int _, .str _ | .int _, .tup _ | .int _, .lst _ => false
  | .str _, .non | .str _, .bl _ | .str _, .int _ | .str _, .tup _ | .str _, .lst _ => false
  | .tup _, .non | .tup _, .bl _ | .tup _, .int _ | .tup _, .str _ | .tup _, .lst _ => false
  | .lst _, .non | .lst _, .bl _ | .lst _, .int _ | .lst _, .str _ | .lst _, .tup _ => false
def J.eqvs : List J → List J → Bool
  | [], [] => true
  | [], _ :: _ => false
  | _ :: _, [] => false
  | x :: xs, y :: ys => J.eqv x y && J.eqvs xs ys
end
/-- the depth that == goes to -/
def EQD : Nat := 40
def eqT (S : Sto) (x y : D) : Option Bool := match tree S EQD x, tree S EQD y with
  | some a, some b => some (J.eqv a b)
  | _, _ => none
def eqF (S : Sto) : D → D → Option Bool
  | .non, .non => some true
  | .bl x, .bl y => some (x == y)
  | .int x, .int y => some (x == y)
  | .str x, .str y => some (x == y)
  | .non, .bl _ | .non, .int _ | .non, .str _ => some false
  | .bl _, .non | .bl _, .str _ => some false
  | .int _, .non | .int _, .str _ => some false
  | .str _, .non | .str _, .bl _ | .str _, .int _ => some false
  | x, y => eqT S x y
-- how deep tuples lie in one another; 0: none; refs have no bound told here
mutual
def D.deep : D → Nat
  | .tup ds => D.deeps ds + 1
  | _ => 0
def D.deeps : List D → Nat
  | [] => 0
  | d :: ds => max (D.deep d) (D.deeps ds)
end
-- no objects that change
mutual
def D.flat : D → Bool
  | .ref _ => false
  | .tup ds => D.flats ds
  | _ => true
def D.flats : List D → Bool
  | [] => true
  | d :: ds => D.flat d && D.flats ds
end
-- no bools, no objects: == is =
mutual
def D.plain : D → Bool
  | .ref _ => false
  | .bl _ => false
  | .tup ds => D.plains ds
  | _ => true
def D.plains : List D → Bool
  | [] => true
  | d :: ds => D.plain d && D.plains ds
end
/-! ### expressions -/
def eVar (i : Nat) : E := fun ρ S => match ρ[i]? with
  | some (some d) => .ok d S
  | _ => .bad
def eC (d : D) : E := fun _ S => .ok d S
def e1 (g : D → M D) (a : E) : E := fun ρ S => (a ρ S).bind g
def e2 (g : D → D → M D) (a b : E) : E := fun ρ S => (a ρ S).bind fun x S => (b ρ S).bind fun y S => g x y S
def aNil : A := fun _ S => .ok [] S
def aCons (a : E) (r : A) : A := fun ρ S => (a ρ S).bind fun x S => (r ρ S).bind fun xs S => .ok (x :: xs) S
/-- (a, b, ..) -/
def eTup (a : A) : E := fun ρ S => (a ρ S).bind fun xs S => .ok (.tup xs) S
/-- [a, b, ..] -/
def eLst (a : A) : E := fun ρ S => (a ρ S).bind fun xs S => alloc (.lst xs) S
/-- a def's call, a built-in's -/
def eCall (f : Fn) (a : A) : E := fun ρ S => (a ρ S).bind fun xs S => f xs S
/-- a if t else b -/
def eIf (t : T) (a b : E) : E := fun ρ S => (t ρ S).bind fun c S => if c then a ρ S else b ρ S
/-- a test as a value, a truth as a test -/
def tE (a : E) : T := fun ρ S => (a ρ S).bind fun x S => match x with
  | .bl b => .ok b S
  | _ => .bad
def eAnd (a b : E) : E := fun ρ S => (a ρ S).bind fun x S => match x with
  | .bl true => b ρ S
  | .bl false => .ok (.bl false) S
  | _ => .bad
def eOr (a b : E) : E := fun ρ S => (a ρ S).bind fun x S => match x with
  | .bl true => .ok (.bl true) S
  | .bl false => b ρ S
  | _ => .bad
def eNot (a : E) : E := fun ρ S => (a ρ S).bind fun x S => match x with
  | .bl b => .ok (.bl (!b)) S
  | _ => .bad
def tAnd (a b : T) : T := fun ρ S => (a ρ S).bind fun c S => if c then b ρ S else .ok false S
def tOr (a b : T) : T := fun ρ S => (a ρ S).bind fun c S => if c then .ok true S else b ρ S
def tNot (a : T) : T := fun ρ S => (a ρ S).bind fun c S => .ok (!c) S
/-- a op b op' c -/
def eChain (g g' : D → D → M D) (a b c : E) : E := fun ρ S => (a ρ S).bind fun x S => (b ρ S).bind fun y S => (g x y S).bind fun z S => match z with
  | .bl true => (c ρ S).bind fun w S => g' y w S
  | .bl false => .ok (.bl false) S
  | _ => .bad

/-! ### operations on values -/
/-- a list that can be changed -/
def wrOf (n : Nat) (S : Sto) : Option (List D) := match S[n]? with
  | some (.lst ds) => some ds
  | _ => none
def gAdd (x y : D) : M D := fun S => match x, y with
  | .int i, .int j => .ok (.int (i + j)) S
  | .str a, .str b => if a.length + b.length ≤ LIM then .ok (.str (a ++ b)) S else .bad
  | .tup a, .tup b => if a.length + b.length ≤ LIM then .ok (.tup (a ++ b)) S else .bad
  | .ref m, .ref n => match wrOf m S, wrOf n S with
    | some a, some b => if a.length + b.length ≤ LIM then alloc (.lst (a ++ b)) S else .bad
    | _, _ => .bad
  | _, _ => .bad
def gSub (x y : D) : M D := fun S => match x, y with
  | .int i, .int j => .ok (.int (i - j)) S
  | _, _ => .bad
/-- so many times -/
def rep {α : Type} (xs : List α) (k : Nat) : List α := (List.replicate k xs).flatten
def gMul (x y : D) : M D := fun S => match x, y with
  | .int i, .int j => if (-(2 ^ 64) < i ∧ i < 2 ^ 64) ∨ (-(2 ^ 64) < j ∧ j < 2 ^ 64) then .ok (.int (i * j)) S else .bad
  | .ref m, .int k => match wrOf m S with
    | some a => if -(2 ^ 62) < k ∧ k < 2 ^ 62 ∧ a.length * k.toNat ≤ LIM then alloc (.lst (rep a k.toNat)) S else .bad
    | none => .bad
  | .tup a, .int k => if a ≠ [] ∧ 2 ≤ k ∧ k ≤ 1000 ∧ a.length ≤ 1000 then .ok (.tup (rep a k.toNat)) S else .bad
  | _, _ => .bad
def gFdiv (x y : D) : M D := fun S => match x, y with
  | .int i, .int j => if 0 < j ∧ j < 1073741824 then .ok (.int (i / j)) S else .bad
  | _, _ => .bad
def gMod (x y : D) : M D := fun S => match x, y with
  | .int i, .int j => if 0 < j then .ok (.int (i % j)) S else .bad
  | _, _ => .bad
def gPow (x y : D) : M D := fun S => match x, y with
  | .int i, .int j => if 0 ≤ j ∧ j ≤ 1000000 ∧ i.natAbs < 2 ^ 64 then .ok (.int (i ^ j.toNat)) S else .bad
  | _, _ => .bad
def gNeg (x : D) : M D := fun S => match x with
  | .int i => .ok (.int (-i)) S
  | _ => .bad
def gEq (x y : D) : M D := fun S => match eqF S x y with
  | some b => .ok (.bl b) S
  | none => .bad
def gNe (x y : D) : M D := fun S => match eqF S x y with
  | some b => .ok (.bl (!b)) S
  | none => .bad
def gCmp (p : Int → Int → Bool) (x y : D) : M D := fun S => match x, y with
  | .int i, .int j => .ok (.bl (p i j)) S
  | _, _ => .bad
def gLt : D → D → M D := gCmp fun i j => decide (i < j)
def gLe : D → D → M D := gCmp fun i j => decide (i ≤ j)
def gGt : D → D → M D := gCmp fun i j => decide (j < i)
def gGe : D → D → M D := gCmp fun i j => decide (j ≤ i)
/-- is None, is True -/
def gIsN (x : D) : M D := fun S => .ok (.bl (decide (x = .non))) S
def gNotN (x : D) : M D := fun S => .ok (.bl (!decide (x = .non))) S
def gNotTrue (x : D) : M D := fun S => .ok (.bl (!decide (x = .bl true))) S
def keyOk : D → Bool
  | .int _ => true
  | .str _ => true
  | _ => false
def dget (kvs : List (D × D)) (k : D) : Option D := (kvs.find? fun p => decide (p.1 = k)).map (·.2)
/-- in its place, or at the end -/
def dput (kvs : List (D × D)) (k v : D) : List (D × D) :=
  if (kvs.any fun p => decide (p.1 = k)) = true then kvs.map (fun p => if p.1 = k then (p.1, v) else p) else kvs ++ [(k, v)]
/-- numbers, texts, truths, None -/
def D.scal : D → Bool
  | .tup _ => false
  | .ref _ => false
  | _ => true
def inTree (S : Sto) (x : D) (ds : List D) : Option Bool := match tree S EQD x, allSome (tree S EQD) ds with
  | some j, some js => some (js.any fun z => J.eqv z j)
  | _, _ => none
def inB (x y : D) (S : Sto) : Option Bool := match y with
  | .tup ds => if x.scal && ds.all D.scal then inTree S x ds else none
  | .str s => match x with
    | .str [c] => some (s.contains c)
    | _ => none
  | .ref n => match lstOf n S with
    | some ds => inTree S x ds
    | none => none
  | _ => none
def gIn (x y : D) : M D := fun S => match inB x y S with
  | some b => .ok (.bl b) S
  | none => .bad
def gNotIn (x y : D) : M D := fun S => match inB x y S with
  | some b => .ok (.bl (!b)) S
  | none => .bad
/-- a dict's -/
def dicOf (n : Nat) (S : Sto) : Option (List (D × D)) := match S[n]? with
  | some (.dic kvs) => some kvs
  | _ => none
def inD (x y : D) (S : Sto) : Option Bool := match y with
  | .ref n => match dicOf n S with
    | some kvs => if keyOk x then some (dget kvs x).isSome else none
    | none => none
  | _ => none
def gInD (x y : D) : M D := fun S => match inD x y S with
  | some b => .ok (.bl b) S
  | none => .bad
def gNotInD (x y : D) : M D := fun S => match inD x y S with
  | some b => .ok (.bl (!b)) S
  | none => .bad
/-- the place of an index, from the end where it is negative -/
def ixN (n : Nat) (i : Int) : Option Nat := if 0 ≤ i then (if i < n then some i.toNat else none) else if -(n : Int) ≤ i then some (i + n).toNat else none
def at? {α : Type} (xs : List α) (i : Int) : Option α := (ixN xs.length i).bind fun j => xs[j]?
def gIx (x y : D) : M D := fun S => match x, y with
  | .tup ds, .int i => match at? ds i with
    | some d => .ok d S
    | none => .bad
  | .str s, .int i => if s.length ≤ LIM then match at? s i with
    | some c => .ok (.str [c]) S
    | none => .bad
    else .bad
  | .ref n, .int i => match lstOf n S with
    | some ds => match at? ds i with
      | some d => .ok d S
      | none => .bad
    | none => .bad
  | _, _ => .bad
/-- d[k] -/
def gDx (x k : D) : M D := fun S => match x with
  | .ref n => match dicOf n S with
    | some kvs => if keyOk k then match dget kvs k with
        | some d => .ok d S
        | none => .bad
      else .bad
    | none => .bad
  | _ => .bad
/-- where a slice's end lies, within -/
def sIx (n d : Nat) : Option Int → Nat
  | none => d
  | some i => if i < 0 then (i + (n : Int)).toNat else min i.toNat n
def cut {α : Type} (xs : List α) (lo hi : Option Int) : List α := (xs.drop (sIx xs.length 0 lo)).take (sIx xs.length xs.length hi - sIx xs.length 0 lo)
abbrev O := Env → M (Option Int)
def oNone : O := fun _ S => .ok none S
def oSome (a : E) : O := fun ρ S => (a ρ S).bind fun x S => match x with
  | .int i => .ok (some i) S
  | _ => .bad
def gSlice (x : D) (lo hi : Option Int) : M D := fun S => match x with
  | .tup ds => .ok (.tup (cut ds lo hi)) S
  | .str s => if s.length ≤ LIM then .ok (.str (cut s lo hi)) S else .bad
  | .ref n => match lstOf n S with
    | some ds => alloc (.lst (cut ds lo hi)) S
    | none => .bad
  | _ => .bad
def eSlice (a : E) (lo hi : O) : E := fun ρ S => (a ρ S).bind fun x S => (lo ρ S).bind fun i S => (hi ρ S).bind fun j S => gSlice x i j S

/-! ### built-ins -/
def fLen : Fn := fun xs S => match xs with
  | [.tup ds] => .ok (.int ds.length) S
  | [.str s] => if s.length ≤ LIM then .ok (.int s.length) S else .bad
  | [.ref n] => match lstOf n S with
    | some ds => .ok (.int ds.length) S
    | none => .bad
  | _ => .bad
def fInt : Fn := fun xs S => match xs with
  | [.int i] => .ok (.int i) S
  | [.bl b] => .ok (.int (b2i b)) S
  | _ => .bad
def fMin : Fn := fun xs S => match xs with
  | [.int i, .int j] => .ok (.int (if j < i then j else i)) S
  | _ => .bad
def fMax : Fn := fun xs S => match xs with
  | [.int i, .int j] => .ok (.int (if j > i then j else i)) S
  | _ => .bad
def fList : Fn := fun xs S => match xs with
  | [d] => match seqOf d S with
    | some ds => alloc (.lst ds) S
    | none => .bad
  | _ => .bad
def fTuple : Fn := fun xs S => match xs with
  | [d] => match seqOf d S with
    | some ds => .ok (.tup ds) S
    | none => .bad
  | _ => .bad
inductive Kind where
  | tup | int | bool | str | lst
  deriving DecidableEq
def isK (k : Kind) (x : D) (S : Sto) : Option Bool := match x with
  | .non => some false
  | .bl _ => some (k == .bool || k == .int)
  | .int _ => some (k == .int)
  | .str _ => some (k == .str)
  | .tup _ => some (k == .tup)
  | .ref n => match lstOf n S with
    | some _ => some (k == .lst)
    | none => none
def gIs (k : Kind) (x : D) : M D := fun S => match isK k x S with
  | some b => .ok (.bl b) S
  | none => .bad
/-- an order of numbers and tuples of numbers -/
def lexLt : List Int → List Int → Bool
  | [], [] => false
  | [], _ :: _ => true
  | _ :: _, [] => false
  | a :: as, b :: bs => if a = b then lexLt as bs else decide (a < b)
def intsOf : List D → Option (List Int)
  | [] => some []
  | .int i :: r => (intsOf r).map (i :: ·)
  | _ => none
def rowsOf : List D → Option (List (List Int))
  | [] => some []
  | .tup ds :: r => match intsOf ds with
    | some is => (rowsOf r).map (is :: ·)
    | none => none
  | _ => none
/-- sorted by a strict order (the first of equal ones first) -/
def ins {α : Type} (lt : α → α → Bool) (x : α) : List α → List α
  | [] => [x]
  | y :: ys => if lt y x then y :: ins lt x ys else x :: y :: ys
def sortBy {α : Type} (lt : α → α → Bool) : List α → List α
  | [] => []
  | x :: xs => ins lt x (sortBy lt xs)
def sortI : List Int → List Int := sortBy fun a b => decide (a < b)
def sortL : List (List Int) → List (List Int) := sortBy lexLt
/-- sorted(x), x a list of numbers -/
def fSortedI : Fn := fun xs S => match xs with
  | [.ref n] => match lstOf n S with
    | some ds => match intsOf ds with
      | some is => alloc (.lst ((sortI is).map .int)) S
      | none => .bad
    | none => .bad
  | _ => .bad
/-- sorted(x), x a list of pairs of numbers -/
def fSortedP : Fn := fun xs S => match xs with
  | [.ref n] => match lstOf n S with
    | some ds => match rowsOf ds with
      | some rs => if rs.all (fun r => r.length == 2) then alloc (.lst ((sortL rs).map fun r => .tup (r.map .int))) S else .bad
      | none => .bad
    | none => .bad
  | _ => .bad
/-- each once -/
def dedup {α : Type} [DecidableEq α] : List α → List α
  | [] => []
  | x :: xs => x :: (dedup xs).filter fun y => decide (y ≠ x)
/-- sorted(set(x)) of numbers; len(set(x)) -/
def fSortedSet : Fn := fun xs S => match xs with
  | [.tup ds] => match intsOf ds with
    | some is => if is.length < 64 then alloc (.lst ((sortI (dedup is)).map .int)) S else .bad
    | none => .bad
  | _ => .bad
def fLenSet : Fn := fun xs S => match xs with
  | [d] => match seqOf d S with
    | some ds => if ds.length ≤ 1000 ∧ D.plains ds then .ok (.int (dedup ds).length) S else .bad
    | none => .bad
  | _ => .bad

/-! ### what is walked -/
/-- the items, and the lists in which they stand, where these may change -/
structure Iter where
  chk : List (Nat × List D)
  all : List D
abbrev I := Env → M Iter
/-- the lists are as they were -/
def Iter.same (it : Iter) (S : Sto) : Bool := it.chk.all fun p => decide (lstOf p.1 S = some p.2)
/-- where a thing to be walked stands -/
def chkOf (d : D) (S : Sto) : List (Nat × List D) := match d with
  | .ref n => match lstOf n S with
    | some ds => [(n, ds)]
    | none => []
  | _ => []
/-- a list, a tuple -/
def iSeq (a : E) : I := fun ρ S => (a ρ S).bind fun x S => match seqOf x S with
  | some ds => .ok ⟨chkOf x S, ds⟩ S
  | none => .bad
def rangeD (lo hi : Int) : List D := (List.range (hi - lo).toNat).map fun (k : Nat) => .int (lo + (k : Int))
def iRange1 (a : E) : I := fun ρ S => (a ρ S).bind fun x S => match x with
  | .int j => if -(2 ^ 62) ≤ j ∧ j < 2 ^ 62 then .ok ⟨[], rangeD 0 j⟩ S else .bad
  | _ => .bad
def iRange2 (a b : E) : I := fun ρ S => (a ρ S).bind fun x S => (b ρ S).bind fun y S => match x, y with
  | .int i, .int j => if -(2 ^ 62) ≤ i ∧ i < 2 ^ 62 ∧ -(2 ^ 62) ≤ j ∧ j < 2 ^ 62 then .ok ⟨[], rangeD i j⟩ S else .bad
  | _, _ => .bad
def enumD (k : Nat) : List D → List D
  | [] => []
  | d :: ds => .tup [.int (k : Int), d] :: enumD (k + 1) ds
def charsD (s : List Nat) : List D := s.map fun c => .str [c]
/-- a list, a tuple, a text -/
def seqZ (d : D) (S : Sto) : Option (List D) := match d with
  | .str s => some (charsD s)
  | _ => seqOf d S
def iEnum (a : E) : I := fun ρ S => (a ρ S).bind fun x S => match seqZ x S with
  | some ds => .ok ⟨chkOf x S, enumD 0 ds⟩ S
  | none => .bad
def zipD : List D → List D → List D
  | x :: xs, y :: ys => .tup [x, y] :: zipD xs ys
  | _, _ => []
def iZip (a b : E) : I := fun ρ S => (a ρ S).bind fun x S => (b ρ S).bind fun y S => match seqZ x S, seqZ y S with
  | some xs, some ys => .ok ⟨chkOf x S ++ chkOf y S, zipD xs ys⟩ S
  | _, _ => .bad
/-- list(range(..)), tuple(range(..)) -/
def eLRg (i : I) : E := fun ρ S => (i ρ S).bind fun it S => if it.all.length ≤ LIM then alloc (.lst it.all) S else .bad
def eTRg (i : I) : E := fun ρ S => (i ρ S).bind fun it S => if it.all.length ≤ LIM then .ok (.tup it.all) S else .bad
/-! targets -/
abbrev G := D → Env → Option Env
def gName (i : Nat) : G := fun d ρ => some (ρ.set i (some d))
def setAll : List Nat → List D → Env → Option Env
  | [], [], ρ => some ρ
  | i :: is, d :: ds, ρ => setAll is ds (ρ.set i (some d))
  | _, _, _ => none
def gTup (is : List Nat) : G := fun d ρ => match d with
  | .tup ds => setAll is ds ρ
  | _ => none
/-! comprehensions -/
def wipe (ρ : Env) : List Nat → Env
  | [] => ρ
  | v :: vs => (wipe ρ vs).set v none
def compLoop (it : Iter) (g : G) (t : T) (e : E) (ρ : Env) : List D → M (List D)
  | [] => fun S => if it.same S then .ok [] S else .bad
  | x :: xs => fun S => if it.same S then match g x ρ with
    | none => .bad
    | some ρ1 => (t ρ1 S).bind fun b S => if b then (e ρ1 S).bind fun y S => (compLoop it g t e ρ xs S).bind fun ys S => .ok (y :: ys) S else compLoop it g t e ρ xs S
    else .bad
def eComp (i : I) (vs : List Nat) (g : G) (t : T) (e : E) : E := fun ρ S => (i ρ S).bind fun it S => (compLoop it g t e (wipe ρ vs) it.all S).bind fun ys S =>
  if ys.length ≤ LIM then alloc (.lst ys) S else .bad
def tYes : T := fun _ S => .ok true S

/-! ### statements -/
def sNext : St := fun ρ S => .ok (.nx, ρ) S
def sSeq (a b : St) : St := fun ρ S => (a ρ S).bind fun r S => match r.1 with
  | .nx => b r.2 S
  | f => .ok (f, r.2) S
def sSet (i : Nat) (a : E) : St := fun ρ S => (a ρ S).bind fun x S => .ok (.nx, ρ.set i (some x)) S
/-- a target of names = e -/
def sAsg (g : G) (a : E) : St := fun ρ S => (a ρ S).bind fun x S => match g x ρ with
  | some ρ1 => .ok (.nx, ρ1) S
  | none => .bad
/-- a, b = x, y by names -/
def sPar (is : List Nat) (a : A) : St := fun ρ S => (a ρ S).bind fun xs S => match setAll is xs ρ with
  | some ρ1 => .ok (.nx, ρ1) S
  | none => .bad
def sExpr (a : E) : St := fun ρ S => (a ρ S).bind fun _ S => .ok (.nx, ρ) S
def sRet (a : E) : St := fun ρ S => (a ρ S).bind fun x S => .ok (.rt x, ρ) S
def sIf (t : T) (a b : St) : St := fun ρ S => (t ρ S).bind fun c S => if c then a ρ S else b ρ S
def sBreak : St := fun ρ S => .ok (.bk, ρ) S
def sCont : St := fun ρ S => .ok (.ct, ρ) S
def sRaise (c : Nat) (a : A) : St := fun ρ S => (a ρ S).bind fun xs S => .err ⟨c, xs.head?⟩ S
def forLoop (it : Iter) (g : G) (b : St) : List D → St
  | [] => fun ρ S => if it.same S then .ok (.nx, ρ) S else .bad
  | x :: xs => fun ρ S => if it.same S then match g x ρ with
    | none => .bad
    | some ρ1 => (b ρ1 S).bind fun r S => match r.1 with
      | .nx => forLoop it g b xs r.2 S
      | .ct => forLoop it g b xs r.2 S
      | .bk => .ok (.nx, r.2) S
      | .rt d => .ok (.rt d, r.2) S
    else .bad
def sFor (i : I) (g : G) (b : St) : St := fun ρ S => (i ρ S).bind fun it S => forLoop it g b it.all ρ S
def whileLoop (t : T) (b : St) : Nat → St
  | 0 => fun _ _ => .bad
  | n + 1 => fun ρ S => (t ρ S).bind fun c S => if c then (b ρ S).bind fun r S => match r.1 with
      | .nx => whileLoop t b n r.2 S
      | .ct => whileLoop t b n r.2 S
      | .bk => .ok (.nx, r.2) S
      | .rt d => .ok (.rt d, r.2) S
    else .ok (.nx, ρ) S
/-- the most turns of a while -/
def TURNS : Nat := 1000000000
def sWhile (t : T) (b : St) : St := whileLoop t b TURNS
/-- o[i] = v: v first -/
def setItem (o i v : D) : Sto → Option Sto := fun S => match o, i with
  | .ref n, .int k => match wrOf n S with
    | some ds => match ixN ds.length k with
      | some j => some (S.set n (.lst (ds.set j v)))
      | none => none
    | none => none
  | _, _ => none
def sSub (o i v : E) : St := fun ρ S => (v ρ S).bind fun x S => (o ρ S).bind fun a S => (i ρ S).bind fun k S => match setItem a k x S with
  | some S1 => .ok (.nx, ρ) S1
  | none => .bad
/-- d[k] = v -/
def setDct (o k v : D) : Sto → Option Sto := fun S => match o with
  | .ref n => match dicOf n S with
    | some kvs => if keyOk k ∧ kvs.length < LIM then some (S.set n (.dic (dput kvs k v))) else none
    | none => none
  | _ => none
def sDct (o i v : E) : St := fun ρ S => (v ρ S).bind fun x S => (o ρ S).bind fun a S => (i ρ S).bind fun k S => match setDct a k x S with
  | some S1 => .ok (.nx, ρ) S1
  | none => .bad
/-! instances -/
def fget (fs : List (Nat × D)) (f : Nat) : Option D := (fs.find? fun p => p.1 == f).map (·.2)
def fput : List (Nat × D) → Nat → D → List (Nat × D)
  | [], f, v => [(f, v)]
  | (a, b) :: r, f, v => if a = f then (a, v) :: r else (a, b) :: fput r f v
/-- an instance of the class c -/
def insOf (c n : Nat) (S : Sto) : Option (List (Nat × D)) := match S[n]? with
  | some (.ins c' fs) => if c' = c then some fs else none
  | _ => none
def gFld (c f : Nat) (x : D) : M D := fun S => match x with
  | .ref n => match insOf c n S with
    | some fs => match fget fs f with
      | some d => .ok d S
      | none => .bad
    | none => .bad
  | _ => .bad
def setFld (c f : Nat) (o v : D) : Sto → Option Sto := fun S => match o with
  | .ref n => match insOf c n S with
    | some fs => if fs.length < 100 then some (S.set n (.ins c (fput fs f v))) else none
    | none => none
  | _ => none
def sFld (c f : Nat) (o v : E) : St := fun ρ S => (v ρ S).bind fun x S => (o ρ S).bind fun a S => match setFld c f a x S with
  | some S1 => .ok (.nx, ρ) S1
  | none => .bad
/-- o.m(..), o of the class c -/
def eMeth (c : Nat) (f : Fn) (o : E) (a : A) : E := fun ρ S => (o ρ S).bind fun x S => match x with
  | .ref n => match insOf c n S with
    | some _ => (a ρ S).bind fun xs S => f (x :: xs) S
    | none => .bad
  | _ => .bad
/-- C(..) -/
def eMake (c : Nat) (init : Fn) (a : A) : E := fun ρ S => (a ρ S).bind fun xs S =>
  (init (.ref S.length :: xs) (S ++ [.ins c []])).bind fun r S1 => if r = .non then .ok (.ref S.length) S1 else .bad
/-! methods of lists -/
/-- o.m(e): what o is is looked at first -/
def isL (x : D) (S : Sto) : Bool := match x with
  | .ref n => (wrOf n S).isSome
  | _ => false
def eM1 (g : D → D → M D) (o a : E) : E := fun ρ S => (o ρ S).bind fun x S => if isL x S then (a ρ S).bind fun y S => g x y S else .bad
def eM0 (g : D → M D) (o : E) : E := fun ρ S => (o ρ S).bind fun x S => if isL x S then g x S else .bad
def mAppend (x v : D) : M D := fun S => match x with
  | .ref n => match wrOf n S with
    | some ds => if ds.length < LIM then .ok .non (S.set n (.lst (ds ++ [v]))) else .bad
    | none => .bad
  | _ => .bad
def mExtend (x v : D) : M D := fun S => match x, v with
  | .ref n, .ref m => match wrOf n S, wrOf m S with
    | some ds, some es => if n ≠ m ∧ ds.length + es.length ≤ LIM then .ok .non (S.set n (.lst (ds ++ es))) else .bad
    | _, _ => .bad
  | _, _ => .bad
/-- pop(i), 0 ≤ i -/
def mPop (x i : D) : M D := fun S => match x, i with
  | .ref n, .int k => match wrOf n S with
    | some ds => if 0 ≤ k ∧ k < 2 ^ 62 then match ds[k.toNat]? with
        | some d => .ok d (S.set n (.lst (ds.eraseIdx k.toNat)))
        | none => .bad
      else .bad
    | none => .bad
  | _, _ => .bad
def mPopLast (x : D) : M D := fun S => match x with
  | .ref n => match wrOf n S with
    | some ds => match ds[ds.length - 1]? with
      | some d => .ok d (S.set n (.lst ds.dropLast))
      | none => .bad
    | none => .bad
  | _ => .bad
/-! dicts -/
/-- {k: v, ..}: keys numbers and texts -/
def evPairs : List (E × E) → Env → M (List (D × D))
  | [] => fun _ S => .ok [] S
  | (k, v) :: r => fun ρ S => (k ρ S).bind fun x S => (v ρ S).bind fun y S => if keyOk x then (evPairs r ρ S).bind fun q S => .ok ((x, y) :: q) S else .bad
def putAll (kvs : List (D × D)) : List (D × D) → List (D × D)
  | [] => kvs
  | (k, v) :: r => putAll (dput kvs k v) r
def eDict (ps : List (E × E)) : E := fun ρ S => (evPairs ps ρ S).bind fun q S => alloc (.dic (putAll [] q)) S
/-- {} whose keys will be tuples -/
def eDictT : E := fun _ S => alloc (.dit []) S
/-- d.get(k, v) -/
def eGet (o k v : E) : E := fun ρ S => (o ρ S).bind fun x S => match x with
  | .ref n => match dicOf n S with
    | some _ => (k ρ S).bind fun y S => (v ρ S).bind fun z S => match dicOf n S with
      | some kvs => if keyOk y then .ok ((dget kvs y).getD z) S else .bad
      | none => .bad
    | none => .bad
  | _ => .bad
/-- dict([(k, v), ..]) -/
def pairs? : List D → Option (List (D × D))
  | [] => some []
  | .tup [k, v] :: r => if keyOk k then (pairs? r).map ((k, v) :: ·) else none
  | _ => none
def fDict : Fn := fun xs S => match xs with
  | [.ref n] => match wrOf n S with
    | some ds => match pairs? ds with
      | some ps => if ps.length ≤ 1000 then alloc (.dic (putAll [] ps)) S else .bad
      | none => .bad
    | none => .bad
  | _ => .bad
def mUpdate (x y : D) : M D := fun S => match x, y with
  | .ref n, .ref m => match dicOf n S, dicOf m S with
    | some kvs, some ps => if n ≠ m ∧ kvs.length + ps.length ≤ 1000 then .ok .non (S.set n (.dic (putAll kvs ps))) else .bad
    | _, _ => .bad
  | _, _ => .bad
/-- d.update(e) -/
def eUpd (o a : E) : E := fun ρ S => (o ρ S).bind fun x S => match x with
  | .ref n => match dicOf n S with
    | some _ => (a ρ S).bind fun y S => mUpdate x y S
    | none => .bad
  | _ => .bad
/-- tables of the module: texts to constants -/
def kGet (t : List (D × D)) (k v : D) : M D := fun S => match k with
  | .str _ => .ok ((dget t k).getD v) S
  | _ => .bad
def kIx (t : List (D × D)) (k : D) : M D := fun S => match k with
  | .str _ => match dget t k with
    | some d => .ok d S
    | none => .bad
  | _ => .bad
def kIn (t : List (D × D)) (k : D) : M D := fun S => match k with
  | .str _ => .ok (.bl (dget t k).isSome) S
  | _ => .bad
def kNotIn (t : List (D × D)) (k : D) : M D := fun S => match k with
  | .str _ => .ok (.bl (!(dget t k).isSome)) S
  | _ => .bad

/-! ### a def: its body from its parameters, n names in all -/
def fn (n : Nat) (b : St) : Fn := fun xs S => if xs.length ≤ n then (b (xs.map some ++ List.replicate (n - xs.length) none) S).bind fun r S => match r.1 with
  | .nx => .ok .non S
  | .rt d => .ok d S
  | _ => .bad
  else .bad
end PF
end
section
set_option Elab.async false
set_option linter.all false
set_option maxRecDepth 100003
set_option maxHeartbeats 2000003
set_option autoImplicit false
/-! # Px: what runs by PF's reading runs so by the model -/
namespace PF
open PySem L2

/-- names of classes, of fields -/
structure Nm where
  cls : Nat → Str
  fld : Nat → Str
  inj : ∀ a b, fld a = fld b → a = b

def strOf (s : List Nat) : Str := ⟨s.toArray⟩
/-! ### values -/
mutual
def RelD (K : PySem.W.Frag) (M : List Addr) (H : Hp) : D → V → Prop
  | .non, v => v = .non
  | .bl b, v => v = .bl b
  | .int i, v => v = .int i
  | .str s, v => v = .str (strOf s)
  | .tup ds, v => ∃ a vs, v = .ref a ∧ SqT K H a vs ∧ RelDs K M H ds vs
  | .ref n, v => ∃ a, v = .ref a ∧ M[n]? = some a
def RelDs (K : PySem.W.Frag) (M : List Addr) (H : Hp) : List D → List V → Prop
  | [], vs => vs = []
  | d :: ds, vs => ∃ v r, vs = v :: r ∧ RelD K M H d v ∧ RelDs K M H ds r
end
def keyD : Key → D
  | .inl i => .int i
  | .inr s => .str s.cps.toList
/-- pairs in a row -/
def RelKs (K : PySem.W.Frag) (M : List Addr) (H : Hp) : List (D × D) → List (Key × V) → Prop
  | [], vs => vs = []
  | p :: r, vs => ∃ k v q, vs = (k, v) :: q ∧ p.1 = keyD k ∧ RelD K M H p.2 v ∧ RelKs K M H r q
def RelFs (nm : Nm) (K : PySem.W.Frag) (M : List Addr) (H : Hp) : List (Nat × D) → List (Str × V) → Prop
  | [], vs => vs = []
  | p :: r, vs => ∃ v q, vs = (nm.fld p.1, v) :: q ∧ RelD K M H p.2 v ∧ RelFs nm K M H r q
def RelO (nm : Nm) (K : PySem.W.Frag) (mg : Str → Option Value) (M : List Addr) (H : Hp) (a : Addr) : MO → Prop
  | .lst ds => ∃ vs, H a = some (.lst vs) ∧ RelDs K M H ds vs
  | .rol ds => ∃ o vs, H a = some (.frz o (.lst vs)) ∧ RelDs K M H ds vs
  | .dic kvs => ∃ ps, H a = some (.dK ps) ∧ RelKs K M H kvs ps
  | .dit _ => False
  | .ins c fs => ∃ C dx gs, H a = some (.ins C dx gs) ∧ mg (nm.cls c) = some (.ref C) ∧ RelFs nm K M H fs gs
/-- what M's addresses may hold -/
def mutO : HO → Prop
  | .lst _ => True
  | .frz _ (.lst _) => True
  | .dK _ => True
  | .ins _ _ _ => True
  | _ => False
structure RelS (nm : Nm) (K : PySem.W.Frag) (mg : Str → Option Value) (M : List Addr) (S : Sto) (H : Hp) : Prop where
  len : M.length = S.length
  nd : M.Nodup
  obj : ∀ (n : Nat) (a : Addr) (o : MO), M[n]? = some a → S[n]? = some o → RelO nm K mg M H a o
/-- one state behind another: more places, all else as it was -/
structure Ext (M : List Addr) (H : Hp) (M' : List Addr) (H' : Hp) : Prop where
  pre : ∃ T, M' = M ++ T
  new : ∀ a, a ∈ M' → a ∉ M → H a = none
  fr : ∀ a o, H a = some o → a ∉ M → H' a = some o
structure RelE (K : PySem.W.Frag) (M : List Addr) (H : Hp) (ρ : Env) (σ : L2.St) : Prop where
  len : ρ.length = σ.length
  at_ : ∀ (i : Nat) (d : D), ρ[i]? = some (some d) → ∃ v, σ[i]? = some (some v) ∧ RelD K M H d v

section
variable {nm : Nm} {K : PySem.W.Frag} {mg : Str → Option Value} {M M' M2 : List Addr} {H H' H2 : Hp} {S S' : Sto} {ρ : Env} {σ : L2.St}
theorem Ext.refl : Ext M H M H := ⟨⟨[], by simp⟩, fun a h n => absurd h n, fun _ _ h _ => h⟩
theorem Ext.get (e : Ext M H M' H') {n : Nat} {a : Addr} (h : M[n]? = some a) : M'[n]? = some a := by
  obtain ⟨T, rfl⟩ := e.pre
  rw [List.getElem?_append_left (List.getElem?_eq_some_iff.mp h).1]
  exact h
theorem Ext.mem (e : Ext M H M' H') {a : Addr} (h : a ∈ M) : a ∈ M' := by
  obtain ⟨T, rfl⟩ := e.pre
  exact List.mem_append_left _ h
theorem Ext.trans (a : Ext M H M' H') (b : Ext M' H' M2 H2) : Ext M H M2 H2 where
  pre := by
    obtain ⟨T, rfl⟩ := a.pre
    obtain ⟨U, rfl⟩ := b.pre
    exact ⟨T ++ U, by rw [List.append_assoc]⟩
  new := fun x h n => by
    by_cases hx : x ∈ M'
    · exact a.new x hx n
    · cases q : H x with
      | none => rfl
      | some o =>
        have h1 := b.new x h hx
        rw [a.fr x o q n] at h1
        cases h1
  fr := fun x o h n => b.fr x o (a.fr x o h n) fun hx => by
    have h1 := a.new x hx n
    rw [h] at h1
    cases h1
theorem RelS.has (r : RelS nm K mg M S H) {a : Addr} (h : a ∈ M) : ∃ o, H a = some o ∧ mutO o := by
  obtain ⟨n, hn⟩ := List.mem_iff_getElem?.mp h
  have hl : n < S.length := by rw [← r.len]; exact (List.getElem?_eq_some_iff.mp hn).1
  have q := r.obj n a S[n] hn (by simp [hl])
  cases ho : S[n] with
  | lst ds => rw [ho] at q; obtain ⟨vs, q, _⟩ := q; exact ⟨_, q, trivial⟩
  | rol ds => rw [ho] at q; obtain ⟨o, vs, q, _⟩ := q; exact ⟨_, q, trivial⟩
  | dic ds => rw [ho] at q; obtain ⟨ps, q, _⟩ := q; exact ⟨_, q, trivial⟩
  | dit ds => rw [ho] at q; exact q.elim
  | ins c fs => rw [ho] at q; obtain ⟨C, dx, gs, q, _⟩ := q; exact ⟨_, q, trivial⟩
theorem RelS.apart (r : RelS nm K mg M S H) {a : Addr} {o : HO} (h : H a = some o) (n : ¬ mutO o) : a ∉ M := fun hm => by
  obtain ⟨o', e, m⟩ := r.has hm
  rw [h] at e
  cases e
  exact n m
theorem RelS.fresh (r : RelS nm K mg M S H) {a : Addr} (h : H a = none) : a ∉ M := fun hm => by
  obtain ⟨o', e, m⟩ := r.has hm
  rw [h] at e
  cases e
theorem SqT.ext {a : Addr} {vs : List V} (r : RelS nm K mg M S H) (e : Ext M H M' H') (h : SqT K H a vs) : SqT K H' a vs := by
  rcases h with (h | ⟨o, h⟩) | h
  · exact .inl (.inl (e.fr _ _ h (r.apart h fun q => q)))
  · exact .inl (.inr ⟨o, e.fr _ _ h (r.apart h fun q => q)⟩)
  · exact .inr h
/-- what values lean on: their places, the tuples -/
structure Mo (K : PySem.W.Frag) (M : List Addr) (H : Hp) (M' : List Addr) (H' : Hp) : Prop where
  get : ∀ (n : Nat) (a : Addr), M[n]? = some a → M'[n]? = some a
  tup : ∀ (a : Addr) (vs : List V), SqT K H a vs → SqT K H' a vs
theorem Ext.mo (r : RelS nm K mg M S H) (e : Ext M H M' H') : Mo K M H M' H' := ⟨fun _ _ h => e.get h, fun _ _ h => SqT.ext r e h⟩
mutual
theorem RelD.mo (e : Mo K M H M' H') : ∀ {d : D} {v : V}, RelD K M H d v → RelD K M' H' d v
  | .non, _, h => by unfold RelD at h ⊢; exact h
  | .bl _, _, h => by unfold RelD at h ⊢; exact h
  | .int _, _, h => by unfold RelD at h ⊢; exact h
  | .str _, _, h => by unfold RelD at h ⊢; exact h
  | .tup _, _, h => by
    unfold RelD at h ⊢
    obtain ⟨a, vs, h1, h2, h3⟩ := h
    exact ⟨a, vs, h1, e.tup _ _ h2, RelDs.mo e h3⟩
  | .ref _, _, h => by
    unfold RelD at h ⊢
    obtain ⟨a, h1, h2⟩ := h
    exact ⟨a, h1, e.get _ _ h2⟩
theorem RelDs.mo (e : Mo K M H M' H') : ∀ {ds : List D} {vs : List V}, RelDs K M H ds vs → RelDs K M' H' ds vs
  | [], _, h => by unfold RelDs at h ⊢; exact h
  | _ :: _, _, h => by
    unfold RelDs at h ⊢
    obtain ⟨v, q, h1, h2, h3⟩ := h
    exact ⟨v, q, h1, RelD.mo e h2, RelDs.mo e h3⟩
end
theorem RelKs.mo (e : Mo K M H M' H') : ∀ {ds : List (D × D)} {vs : List (Key × V)}, RelKs K M H ds vs → RelKs K M' H' ds vs
  | [], _, h => h
  | _ :: _, _, h => by
    obtain ⟨k, v, q, h1, h2, h3, h4⟩ := h
    exact ⟨k, v, q, h1, h2, RelD.mo e h3, RelKs.mo e h4⟩
theorem RelFs.mo (e : Mo K M H M' H') : ∀ {ds : List (Nat × D)} {vs : List (Str × V)}, RelFs nm K M H ds vs → RelFs nm K M' H' ds vs
  | [], _, h => h
  | _ :: _, _, h => by
    obtain ⟨v, q, h1, h2, h3⟩ := h
    exact ⟨v, q, h1, RelD.mo e h2, RelFs.mo e h3⟩
theorem RelE.mo (e : Mo K M H M' H') (h : RelE K M H ρ σ) : RelE K M' H' ρ σ :=
  ⟨h.len, fun i d hi => let ⟨v, h1, h2⟩ := h.at_ i d hi; ⟨v, h1, RelD.mo e h2⟩⟩
theorem RelO.mo {a : Addr} {o : MO} (e : Mo K M H M' H') (k : H' a = H a) (h : RelO nm K mg M H a o) : RelO nm K mg M' H' a o := by
  cases o with
  | lst ds => obtain ⟨vs, h1, h2⟩ := h; exact ⟨vs, by rw [k]; exact h1, RelDs.mo e h2⟩
  | rol ds => obtain ⟨ob, vs, h1, h2⟩ := h; exact ⟨ob, vs, by rw [k]; exact h1, RelDs.mo e h2⟩
  | dic ds => obtain ⟨vs, h1, h2⟩ := h; exact ⟨vs, by rw [k]; exact h1, RelKs.mo e h2⟩
  | dit ds => exact h.elim
  | ins c fs => obtain ⟨C, dx, gs, h1, h2, h3⟩ := h; exact ⟨C, dx, gs, by rw [k]; exact h1, h2, RelFs.mo e h3⟩
theorem RelD.ext (r : RelS nm K mg M S H) (e : Ext M H M' H') {d : D} {v : V} (h : RelD K M H d v) : RelD K M' H' d v := h.mo (e.mo r)
theorem RelDs.ext (r : RelS nm K mg M S H) (e : Ext M H M' H') {ds : List D} {vs : List V} (h : RelDs K M H ds vs) : RelDs K M' H' ds vs := h.mo (e.mo r)
theorem RelKs.ext (r : RelS nm K mg M S H) (e : Ext M H M' H') {ds : List (D × D)} {vs : List (Key × V)} (h : RelKs K M H ds vs) : RelKs K M' H' ds vs := h.mo (e.mo r)
theorem RelFs.ext (r : RelS nm K mg M S H) (e : Ext M H M' H') {ds : List (Nat × D)} {vs : List (Str × V)} (h : RelFs nm K M H ds vs) : RelFs nm K M' H' ds vs := h.mo (e.mo r)
theorem RelE.ext (r : RelS nm K mg M S H) (e : Ext M H M' H') (h : RelE K M H ρ σ) : RelE K M' H' ρ σ := h.mo (e.mo r)
theorem RelDs.length : ∀ {ds : List D} {vs : List V}, RelDs K M H ds vs → ds.length = vs.length
  | [], _, h => by unfold RelDs at h; subst h; rfl
  | _ :: _, _, h => by
    unfold RelDs at h
    obtain ⟨v, q, rfl, _, h⟩ := h
    simp [RelDs.length h]
theorem RelDs.nil : RelDs K M H [] [] := by unfold RelDs; rfl
theorem RelDs.cons {d : D} {v : V} {ds : List D} {vs : List V} (h : RelD K M H d v) (t : RelDs K M H ds vs) : RelDs K M H (d :: ds) (v :: vs) := by
  unfold RelDs
  exact ⟨v, vs, rfl, h, t⟩
theorem RelDs.get : ∀ {ds : List D} {vs : List V} {i : Nat} {d : D}, RelDs K M H ds vs → ds[i]? = some d → ∃ v, vs[i]? = some v ∧ RelD K M H d v
  | [], _, _, _, _, e => by simp at e
  | _ :: _, _, 0, _, h, e => by
    unfold RelDs at h
    obtain ⟨v, q, rfl, h1, _⟩ := h
    simp at e
    subst e
    exact ⟨v, rfl, h1⟩
  | _ :: _, _, i + 1, d, h, e => by
    unfold RelDs at h
    obtain ⟨v, q, rfl, _, h⟩ := h
    obtain ⟨u, h1, h2⟩ := RelDs.get (i := i) (d := d) h (by simpa using e)
    exact ⟨u, by simpa using h1, h2⟩
theorem RelDs.append : ∀ {ds es : List D} {vs us : List V}, RelDs K M H ds vs → RelDs K M H es us → RelDs K M H (ds ++ es) (vs ++ us)
  | [], _, _, _, h, t => by unfold RelDs at h; subst h; exact t
  | _ :: _, _, _, _, h, t => by
    unfold RelDs at h
    obtain ⟨v, q, rfl, h1, h⟩ := h
    exact .cons h1 (RelDs.append h t)
theorem RelDs.set : ∀ {ds : List D} {vs : List V} {d : D} {v : V} (i : Nat), RelDs K M H ds vs → RelD K M H d v → RelDs K M H (ds.set i d) (vs.set i v)
  | [], _, _, _, _, h, _ => by unfold RelDs at h; subst h; exact .nil
  | _ :: _, _, _, _, 0, h, r => by
    unfold RelDs at h
    obtain ⟨v, q, rfl, h1, h⟩ := h
    exact .cons r h
  | _ :: _, _, _, _, i + 1, h, r => by
    unfold RelDs at h
    obtain ⟨v, q, rfl, h1, h⟩ := h
    exact .cons h1 (RelDs.set i h r)
theorem RelDs.take : ∀ {ds : List D} {vs : List V} (n : Nat), RelDs K M H ds vs → RelDs K M H (ds.take n) (vs.take n)
  | [], _, n, h => by unfold RelDs at h; subst h; simp [RelDs.nil]
  | _ :: _, _, 0, h => by simp [RelDs.nil]
  | _ :: _, _, n + 1, h => by
    unfold RelDs at h
    obtain ⟨v, q, rfl, h1, h⟩ := h
    exact .cons h1 (RelDs.take n h)
theorem RelDs.drop : ∀ {ds : List D} {vs : List V} (n : Nat), RelDs K M H ds vs → RelDs K M H (ds.drop n) (vs.drop n)
  | [], _, n, h => by unfold RelDs at h; subst h; simp [RelDs.nil]
  | _ :: _, _, 0, h => h
  | _ :: _, _, n + 1, h => by
    unfold RelDs at h
    obtain ⟨v, q, rfl, h1, h⟩ := h
    exact RelDs.drop n h
theorem RelDs.eraseIdx : ∀ {ds : List D} {vs : List V} (n : Nat), RelDs K M H ds vs → RelDs K M H (ds.eraseIdx n) (vs.eraseIdx n)
  | [], _, n, h => by unfold RelDs at h; subst h; simp [RelDs.nil]
  | _ :: _, _, 0, h => by
    unfold RelDs at h
    obtain ⟨v, q, rfl, h1, h⟩ := h
    exact h
  | _ :: _, _, n + 1, h => by
    unfold RelDs at h
    obtain ⟨v, q, rfl, h1, h⟩ := h
    exact .cons h1 (RelDs.eraseIdx n h)
/-- a list is to be read -/
theorem RelS.lst (r : RelS nm K mg M S H) {n : Nat} {a : Addr} {ds : List D} (hn : M[n]? = some a) (h : lstOf n S = some ds) : ∃ vs, SqL K H a vs ∧ RelDs K M H ds vs := by
  unfold lstOf at h
  cases q : S[n]? with
  | none => rw [q] at h; cases h
  | some o =>
    rw [q] at h
    have z := r.obj n a o hn q
    cases o with
    | lst xs => cases h; obtain ⟨vs, h1, h2⟩ := z; exact ⟨vs, .inl (.inl h1), h2⟩
    | rol xs => cases h; obtain ⟨ob, vs, h1, h2⟩ := z; exact ⟨vs, .inl (.inr ⟨ob, h1⟩), h2⟩
    | dic _ => cases h
    | dit _ => cases h
    | ins _ _ => cases h
theorem RelS.at_ (r : RelS nm K mg M S H) {n : Nat} {o : MO} (h : S[n]? = some o) : ∃ a, M[n]? = some a := by
  have hl : n < M.length := by rw [r.len]; exact (List.getElem?_eq_some_iff.mp h).1
  exact ⟨M[n], by simp [hl]⟩

/-! a new object -/
theorem Ext.push {a : Addr} {o : HO} (h : H a = none) : Ext M H (M ++ [a]) (upd H a o) where
  pre := ⟨[a], rfl⟩
  new := fun x hx n => by
    rcases List.mem_append.mp hx with z | z
    · exact absurd z n
    · have : x = a := by simpa using z
      rw [this]
      exact h
  fr := fun x o e _ => by
    rw [upd_ne (ne_of_none e h)]
    exact e
theorem Ext.tup {a : Addr} {o : HO} (h : H a = none) : Ext M H M (upd H a o) where
  pre := ⟨[], by simp⟩
  new := fun x hx n => absurd hx n
  fr := fun x o e _ => by
    rw [upd_ne (ne_of_none e h)]
    exact e
theorem RelO.ext {a : Addr} {o : MO} (r : RelS nm K mg M S H) (e : Ext M H M' H') (k : H' a = H a) (h : RelO nm K mg M H a o) : RelO nm K mg M' H' a o := h.mo (e.mo r) k
/-- a new tuple, another new thing that is not named -/
theorem RelS.tup {a : Addr} {o : HO} (r : RelS nm K mg M S H) (h : H a = none) : RelS nm K mg M S (upd H a o) :=
  ⟨r.len, r.nd, fun n b ob h1 h2 => (r.obj n b ob h1 h2).ext r (Ext.tup h) (upd_ne fun e => r.fresh h (by rw [← e]; exact List.mem_of_getElem? h1))⟩
theorem RelS.push {a : Addr} {o : HO} {mo : MO} (r : RelS nm K mg M S H) (h : H a = none) (ho : RelO nm K mg (M ++ [a]) (upd H a o) a mo) : RelS nm K mg (M ++ [a]) (S ++ [mo]) (upd H a o) := by
  refine ⟨by simp [r.len], ?_, fun n b ob h1 h2 => ?_⟩
  · refine List.nodup_append.mpr ⟨r.nd, by simp, fun x hx y hy e => ?_⟩
    have : y = a := by simpa using hy
    subst this
    subst e
    exact r.fresh h hx
  · by_cases hn : n < M.length
    · rw [List.getElem?_append_left hn] at h1
      rw [List.getElem?_append_left (by rw [← r.len]; exact hn)] at h2
      exact (r.obj n b ob h1 h2).ext r (Ext.push h) (upd_ne fun e => r.fresh h (by rw [← e]; exact List.mem_of_getElem? h1))
    · have hn1 : n < (M ++ [a]).length := (List.getElem?_eq_some_iff.mp h1).1
      rw [List.length_append, List.length_singleton] at hn1
      have e : n = M.length := by omega
      subst e
      rw [List.getElem?_append_right (Nat.le_refl _), Nat.sub_self] at h1
      rw [r.len, List.getElem?_append_right (Nat.le_refl _), Nat.sub_self] at h2
      cases h1
      cases h2
      exact ho
/-- an object that is there already gets a place, as it then is -/
theorem Mo.adopt {a : Addr} {o o' : HO} (h : H a = some o') (n : ∀ vs, o' ≠ .tup vs) (n2 : ∀ b u, o' ≠ .frz b u) : Mo K M H (M ++ [a]) (upd H a o) := by
  refine ⟨fun m b hb => ?_, fun b vs hb => ?_⟩
  · rw [List.getElem?_append_left (List.getElem?_eq_some_iff.mp hb).1]
    exact hb
  · rcases hb with (hb | ⟨ob, hb⟩) | hb
    · exact .inl (.inl (by rw [upd_ne (ne_of hb h (fun z => n vs z.symm))]; exact hb))
    · exact .inl (.inr ⟨ob, by rw [upd_ne (ne_of hb h (fun z => n2 ob (.tup vs) z.symm))]; exact hb⟩)
    · exact .inr hb
theorem RelS.adopt {a : Addr} {o o' : HO} {mo : MO} (r : RelS nm K mg M S H) (na : a ∉ M) (h : H a = some o') (n : ∀ vs, o' ≠ .tup vs) (n2 : ∀ b u, o' ≠ .frz b u) (ho : RelO nm K mg (M ++ [a]) (upd H a o) a mo) : RelS nm K mg (M ++ [a]) (S ++ [mo]) (upd H a o) := by
  refine ⟨by simp [r.len], ?_, fun m b ob h1 h2 => ?_⟩
  · refine List.nodup_append.mpr ⟨r.nd, by simp, fun x hx y hy e => ?_⟩
    have : y = a := by simpa using hy
    subst this
    subst e
    exact na hx
  · by_cases hn : m < M.length
    · rw [List.getElem?_append_left hn] at h1
      rw [List.getElem?_append_left (by rw [← r.len]; exact hn)] at h2
      exact (r.obj m b ob h1 h2).mo (Mo.adopt h n n2) (upd_ne fun e => na (by rw [← e]; exact List.mem_of_getElem? h1))
    · have hn1 : m < (M ++ [a]).length := (List.getElem?_eq_some_iff.mp h1).1
      rw [List.length_append, List.length_singleton] at hn1
      have e : m = M.length := by omega
      subst e
      rw [List.getElem?_append_right (Nat.le_refl _), Nat.sub_self] at h1
      rw [r.len, List.getElem?_append_right (Nat.le_refl _), Nat.sub_self] at h2
      cases h1
      cases h2
      exact ho
/-- .. seen from where it was new -/
theorem Ext.adopt {M1 : List Addr} {H1 : Hp} {a : Addr} {o o0 : HO} (h0 : H a = none) (e : Ext M (upd H a o0) M1 H1) (na : a ∉ M) : Ext M H (M1 ++ [a]) (upd H1 a o) := by
  have e0 : Ext M H M1 H1 := (Ext.tup h0).trans e
  refine ⟨?_, fun x hx n => ?_, fun x u hx n => ?_⟩
  · obtain ⟨T, rfl⟩ := e.pre
    exact ⟨T ++ [a], by rw [List.append_assoc]⟩
  · rcases List.mem_append.mp hx with z | z
    · exact e0.new x z n
    · have : x = a := by simpa using z
      rw [this]
      exact h0
  · have nx : x ≠ a := fun z => by rw [z, h0] at hx; cases hx
    rw [upd_ne nx]
    exact e0.fr x u hx n
theorem Ext.kept {M1 : List Addr} {H1 : Hp} {a : Addr} {o0 : HO} (e : Ext M (upd H a o0) M1 H1) (na : a ∉ M) : H1 a = some o0 ∧ a ∉ M1 := ⟨e.fr a _ upd_same na, fun hm => by
  have z := e.new a hm na
  rw [upd_same] at z
  cases z⟩
theorem RelS.last (r : RelS nm K mg M S H) {a : Addr} : (M ++ [a])[S.length]? = some a := by
  rw [← r.len, List.getElem?_append_right (Nat.le_refl _), Nat.sub_self]
  rfl
/-- an object is changed -/
theorem Ext.set {a : Addr} {o : HO} (h : a ∈ M) : Ext M H M (upd H a o) where
  pre := ⟨[], by simp⟩
  new := fun x hx n => absurd hx n
  fr := fun x o e n => by
    rw [upd_ne (fun z => n (by rw [z]; exact h))]
    exact e
theorem RelS.set {n : Nat} {a : Addr} {o : HO} {mo : MO} (r : RelS nm K mg M S H) (hn : M[n]? = some a) (ho : RelO nm K mg M (upd H a o) a mo) : RelS nm K mg M (S.set n mo) (upd H a o) := by
  refine ⟨by simp [r.len], r.nd, fun m b ob h1 h2 => ?_⟩
  by_cases e : m = n
  · subst e
    rw [hn] at h1
    cases h1
    rw [List.getElem?_set_self (by rw [← r.len]; exact (List.getElem?_eq_some_iff.mp hn).1)] at h2
    cases h2
    exact ho
  · rw [List.getElem?_set_ne (Ne.symm e)] at h2
    refine (r.obj m b ob h1 h2).ext r (Ext.set (List.mem_of_getElem? hn)) (upd_ne fun z => e ?_)
    subst z
    exact nd_ix r.nd h1 hn
end
end PF
end
section
set_option Elab.async false
set_option linter.all false
set_option maxRecDepth 100003
set_option maxHeartbeats 2000003
set_option autoImplicit false
namespace PF
open PySem L2

/-! ### outcomes -/
theorem bind_inv {α β : Type} {o : Out α} {k : α → M β} {b : β} {S' : Sto} (h : o.bind k = .ok b S') : ∃ a S1, o = .ok a S1 ∧ k a S1 = .ok b S' := by
  cases o with
  | ok a S => exact ⟨a, S, rfl, h⟩
  | err e S => cases h
  | bad => cases h

section
variable (nm : Nm) (X : Cx)
/-- what follows of a value -/
def KD (M : List Addr) (H : Hp) (S' : Sto) (d : D) (Q : VK) : Prop := ∀ M' H' v, Ext M H M' H' → RelS nm X.K X.mg M' S' H' → RelD X.K M' H' d v → Q v H'
def rE (f : E) : TE := fun σ H Q => ∃ M ρ S d S', RelS nm X.K X.mg M S H ∧ RelE X.K M H ρ σ ∧ f ρ S = .ok d S' ∧ KD nm X M H S' d Q
def rT (f : T) : TT := fun σ H Q => ∃ M ρ S b S', RelS nm X.K X.mg M S H ∧ RelE X.K M H ρ σ ∧ f ρ S = .ok b S' ∧ ∀ M' H', Ext M H M' H' → RelS nm X.K X.mg M' S' H' → Q b H'
def rA (f : A) : TA := fun σ H Q => ∃ M ρ S ds S', RelS nm X.K X.mg M S H ∧ RelE X.K M H ρ σ ∧ f ρ S = .ok ds S' ∧ ∀ M' H' vs, Ext M H M' H' → RelS nm X.K X.mg M' S' H' → RelDs X.K M' H' ds vs → Q vs H'
def rO (f : O) : TO := fun σ H Q => ∃ M ρ S o S', RelS nm X.K X.mg M S H ∧ RelE X.K M H ρ σ ∧ f ρ S = .ok o S' ∧ ∀ M' H', Ext M H M' H' → RelS nm X.K X.mg M' S' H' → Q o H'
/-- what follows a statement -/
def KS (M : List Addr) (H : Hp) (S' : Sto) (r : Fl × Env) (D : Ends) : Prop := ∀ M' H' σ', Ext M H M' H' → RelS nm X.K X.mg M' S' H' → RelE X.K M' H' r.2 σ' →
  match r.1 with
  | .nx => D.nx σ' H'
  | .bk => D.bk σ' H'
  | .ct => D.ct σ' H'
  | .rt d => ∀ v, RelD X.K M' H' d v → D.rt v H'
def rS (f : St) : TS := fun D σ H => ∃ M ρ S r S', RelS nm X.K X.mg M S H ∧ RelE X.K M H ρ σ ∧ f ρ S = .ok r S' ∧ KS nm X M H S' r D
abbrev PX (e : Expr) (f : E) : Prop := PE X e (rE nm X f)
abbrev PXT (e : Expr) (f : T) : Prop := PT X e (rT nm X f)
abbrev PXW (e : Expr) (f : T) : Prop := PW X e (rT nm X f)
abbrev PXA (es : List Expr) (f : A) : Prop := PA X es (rA nm X f)
abbrev PXO (e : Option Expr) (f : O) : Prop := PO X e (rO nm X f)
abbrev PXS (s : Stmt) (f : St) : Prop := PS X s (rS nm X f)
abbrev PXSs (s : List Stmt) (f : St) : Prop := PSs X s (rS nm X f)
/-- a two-place operation on values by the layer's reading r, by PF's g -/
def Op2 (r : R2) (g : D → D → M D) : Prop := ∀ (M : List Addr) (S : Sto) (H : Hp) (x y : D) (vx vy : V) (d : D) (S' : Sto) (Q : VK), RelS nm X.K X.mg M S H → RelD X.K M H x vx → RelD X.K M H y vy → g x y S = .ok d S' → KD nm X M H S' d Q → r vx vy H Q
def Op1 (r : V → Hp → VK → Prop) (g : D → M D) : Prop := ∀ (M : List Addr) (S : Sto) (H : Hp) (x : D) (vx : V) (d : D) (S' : Sto) (Q : VK), RelS nm X.K X.mg M S H → RelD X.K M H x vx → g x S = .ok d S' → KD nm X M H S' d Q → r vx H Q
def OpN (r : List V → Hp → VK → Prop) (g : Fn) : Prop := ∀ (M : List Addr) (S : Sto) (H : Hp) (xs : List D) (vs : List V) (d : D) (S' : Sto) (Q : VK), RelS nm X.K X.mg M S H → RelDs X.K M H xs vs → g xs S = .ok d S' → KD nm X M H S' d Q → r vs H Q
end

theorem PE.imp {X : Cx} {e : Expr} {t u : TE} (h : PE X e t) (i : ∀ σ H Q, u σ H Q → t σ H Q) : PE X e u := ⟨fun pins s σ H Q I q => h.run pins s σ H Q I (i σ H Q q)⟩
theorem PT.imp {X : Cx} {e : Expr} {t u : TT} (h : PT X e t) (i : ∀ σ H Q, u σ H Q → t σ H Q) : PT X e u := ⟨fun pins s σ H Q I q => h.run pins s σ H Q I (i σ H Q q)⟩
theorem PW.imp {X : Cx} {e : Expr} {t u : TT} (h : PW X e t) (i : ∀ σ H Q, u σ H Q → t σ H Q) : PW X e u := ⟨fun wh pins s σ H Q I q => h.run wh pins s σ H Q I (i σ H Q q)⟩
theorem PA.imp {X : Cx} {e : List Expr} {t u : TA} (h : PA X e t) (i : ∀ σ H Q, u σ H Q → t σ H Q) : PA X e u := ⟨fun pos pins s σ H Q I q => h.run pos pins s σ H Q I (i σ H Q q)⟩
theorem PO.imp {X : Cx} {e : Option Expr} {t u : TO} (h : PO X e t) (i : ∀ σ H Q, u σ H Q → t σ H Q) : PO X e u := ⟨fun pins s σ H Q I q => h.run pins s σ H Q I (i σ H Q q)⟩
theorem PS.imp {X : Cx} {e : Stmt} {t u : TS} (h : PS X e t) (i : ∀ σ H D, u D σ H → t D σ H) : PS X e u := ⟨fun pins s σ H D I q => h.run pins s σ H D I (i σ H D q)⟩
theorem PSs.imp {X : Cx} {e : List Stmt} {t u : TS} (h : PSs X e t) (i : ∀ σ H D, u D σ H → t D σ H) : PSs X e u := ⟨fun pins s σ H D I q => h.run pins s σ H D I (i σ H D q)⟩

section
variable {nm : Nm} {X : Cx} {M M' : List Addr} {H H' : Hp} {S S' S1 : Sto} {ρ : Env} {σ : L2.St} {Q : VK} {d : D}
theorem KD.ext (k : KD nm X M H S' d Q) (e : Ext M H M' H') : KD nm X M' H' S' d Q := fun M2 H2 v e2 r q => k M2 H2 v (e.trans e2) r q
theorem KS.ext {r : Fl × Env} {D : Ends} (k : KS nm X M H S' r D) (e : Ext M H M' H') : KS nm X M' H' S' r D := fun M2 H2 v e2 r q => k M2 H2 v (e.trans e2) r q
theorem KD.here (k : KD nm X M H S' d Q) {v : V} (r : RelS nm X.K X.mg M S' H) (q : RelD X.K M H d v) : Q v H := k M H v Ext.refl r q
/-- a part's reading, then the rest -/
theorem rE.go {f : E} {P : VK} (r : RelS nm X.K X.mg M S H) (e : RelE X.K M H ρ σ) (h : f ρ S = .ok d S1)
    (k : ∀ M1 H1 v, Ext M H M1 H1 → RelS nm X.K X.mg M1 S1 H1 → RelD X.K M1 H1 d v → P v H1) : rE nm X f σ H P := ⟨M, ρ, S, d, S1, r, e, h, k⟩
/-- a new list -/
theorem KD.push {a : Addr} {ds : List D} {vs : List V} (k : KD nm X M H (S ++ [.lst ds]) (.ref S.length) Q) (r : RelS nm X.K X.mg M S H) (q : RelDs X.K M H ds vs) (h : H a = none) : Q (.ref a) (upd H a (.lst vs)) := by
  refine k _ _ _ (Ext.push h) (r.push h ⟨vs, upd_same, RelDs.ext r (Ext.push h) q⟩) ?_
  unfold RelD
  exact ⟨a, rfl, r.last⟩
/-- a new tuple -/
theorem KD.tup {a : Addr} {ds : List D} {vs : List V} (k : KD nm X M H S (.tup ds) Q) (r : RelS nm X.K X.mg M S H) (q : RelDs X.K M H ds vs) (h : H a = none) : Q (.ref a) (upd H a (.tup vs)) := by
  refine k _ _ _ (Ext.tup h) (r.tup h) ?_
  unfold RelD
  exact ⟨a, vs, rfl, .inl (.inl upd_same), RelDs.ext r (Ext.tup h) q⟩

/-! ### names and constants -/
theorem px_var {i : Nat} {x : Str} {pos : Pos} (hN : X.N[i]? = some x) (hv : Vis X.env.scope x) (hd : (x == ("__debug__" : Str)) = false) (hcd : (x == ("__classdict__" : Str)) = false) : PX nm X (.Name x pos) (eVar i) := by
  refine PE.imp (pe_var hN hv hd hcd) fun σ H Q ⟨M, ρ, S, d, S', r, e, h, k⟩ => ?_
  unfold eVar at h
  cases q : ρ[i]? with
  | none => rw [q] at h; cases h
  | some o =>
    rw [q] at h
    cases o with
    | none => cases h
    | some d' =>
      cases h
      obtain ⟨v, h1, h2⟩ := e.at_ i _ q
      exact ⟨v, h1, k.here r h2⟩
/-- constants -/
inductive Cst : D → V → Prop
  | non : Cst .non .non
  | bl (b : Bool) : Cst (.bl b) (.bl b)
  | int (i : Int) : Cst (.int i) (.int i)
  | str {s : List Nat} {x : Str} (h : strOf s = x) : Cst (.str s) (.str x)
theorem Cst.rel {K : PySem.W.Frag} {v : V} (c : Cst d v) : RelD K M H d v := by
  cases c <;> unfold RelD <;> first | rfl | (congr; exact Eq.symm ‹_›)
theorem px_c {e : Expr} {v : V} (h : PE X e (tC v)) (c : Cst d v) : PX nm X e (eC d) :=
  PE.imp h fun σ H Q ⟨M, ρ, S, d', S', r, e, h, k⟩ => by
    unfold eC at h
    cases h
    exact k.here r c.rel
theorem px_int {i : Int} {j : Nat} {pos : Pos} : PX nm X (.Constant (.int i) j pos) (eC (.int i)) := px_c pe_int (.int i)
theorem px_bl {b : Bool} {j : Nat} {pos : Pos} : PX nm X (.Constant (.bool b) j pos) (eC (.bl b)) := px_c pe_bl (.bl b)
theorem px_non {j : Nat} {pos : Pos} : PX nm X (.Constant .none j pos) (eC .non) := px_c pe_non .non
theorem px_str {s : List Nat} {x : Str} {j : Nat} {pos : Pos} (h : strOf s = x) : PX nm X (.Constant (.str x) j pos) (eC (.str s)) := px_c pe_str (.str h)
/-- a module's constant -/
theorem px_glob {x : Str} {v : V} {u : Value} {pos : Pos} (hg : Gl X x) (hm : X.mg x = some u) (r : RelV v u) (c : Cst d v) (hd : (x == ("__debug__" : Str)) = false) : PX nm X (.Name x pos) (eC d) := px_c (pe_glob hg hm r hd) c
/-- a module's tuple of constants -/
theorem px_globT {x : Str} {a : Addr} {ds : List D} {vs : List V} {pos : Pos} (hg : Gl X x) (hm : X.mg x = some (.ref a)) (ht : ∀ H, SqT X.K H a vs) (hc : ∀ M H, RelDs X.K M H ds vs) (hd : (x == ("__debug__" : Str)) = false) : PX nm X (.Name x pos) (eC (.tup ds)) :=
  PE.imp (pe_glob (v := .ref a) hg hm rfl hd) fun σ H Q ⟨M, ρ, S, d', S', r, e, h, k⟩ => by
    unfold eC at h
    cases h
    refine k.here r ?_
    unfold RelD
    exact ⟨a, vs, rfl, ht H, hc M H⟩

/-! ### parts in a row -/
theorem px_e2 {r : R2} {g : D → D → PF.M D} {a b : Expr} {fa fb : E} {e : Expr} (h : PE X e (tOp r (rE nm X fa) (rE nm X fb))) (hg : Op2 nm X r g) : PX nm X e (e2 g fa fb) :=
  PE.imp h fun σ H Q ⟨M, ρ, S, d, S', rs, re, h, k⟩ => by
    unfold e2 at h
    obtain ⟨x, S1, h1, h⟩ := bind_inv h
    obtain ⟨y, S2, h2, h⟩ := bind_inv h
    refine rE.go rs re h1 fun M1 H1 vx e1 r1 q1 => ?_
    refine rE.go r1 (re.ext rs e1) h2 fun M2 H2 vy e2 r2 q2 => ?_
    exact hg M2 S2 H2 x y vx vy d S' Q r2 (RelD.ext r1 e2 q1) q2 h (k.ext (e1.trans e2))
theorem px_op {op : Operator} {r : R2} {g : D → D → PF.M D} {a b : Expr} {fa fb : E} {pos : Pos} (ho : OpR X (binaryOp op) r) (hg : Op2 nm X r g) (ha : PX nm X a fa) (hb : PX nm X b fb) : PX nm X (.BinOp a op b pos) (e2 g fa fb) := px_e2 (a := a) (b := b) (pe_op ho ha hb) hg
theorem px_cmp {op : CmpOp} {r : R2} {g : D → D → PF.M D} {a b : Expr} {fa fb : E} {pos : Pos} (ho : OpR X (compareOp op) r) (hg : Op2 nm X r g) (ha : PX nm X a fa) (hb : PX nm X b fb) (hm : behindInMarks op b = false) : PX nm X (.Compare a [op] [b] pos) (e2 g fa fb) := px_e2 (a := a) (b := b) (pe_cmpR ho ha hb hm) hg
theorem pxt_of {e : Expr} {f : E} (h : PT X e (tTest (rE nm X f))) : PXT nm X e (tE f) :=
  PT.imp h fun σ H Q ⟨M, ρ, S, b, S', rs, re, h, k⟩ => by
    unfold tE at h
    obtain ⟨x, S1, h1, h⟩ := bind_inv h
    refine rE.go rs re h1 fun M1 H1 v e1 r1 q1 => ?_
    cases x with
    | bl c => cases h; unfold RelD at q1; exact ⟨_, q1, k M1 H1 e1 r1⟩
    | _ => cases h
theorem PT.ofE {e : Expr} {t : TE} (h : PE X e t) (he : ∀ whole, isTrue e X.env whole = (do let v ← whole; standAt e.pos; holding [v] (truthy v))) : PT X e (tTest t) := pt_val h he
/-- a call, a name, .. as a test -/
theorem pxt_val {e : Expr} {f : E} (h : PX nm X e f) (he : ∀ whole, isTrue e X.env whole = (do let v ← whole; standAt e.pos; holding [v] (truthy v))) : PXT nm X e (tE f) := pxt_of (PT.ofE h he)
theorem pxt_cmp {op : CmpOp} {r : R2} {g : D → D → PF.M D} {a b : Expr} {fa fb : E} {pos : Pos} (ho : OpR X (compareOp op) r) (hg : Op2 nm X r g) (ha : PX nm X a fa) (hb : PX nm X b fb) (hm : behindInMarks op b = false) : PXT nm X (.Compare a [op] [b] pos) (tE (e2 g fa fb)) :=
  PT.imp (pt_cmpR ho ha hb hm) fun σ H Q ⟨M, ρ, S, b, S', rs, re, h, k⟩ => by
    unfold tE at h
    obtain ⟨z, S3, h0, h⟩ := bind_inv h
    unfold e2 at h0
    obtain ⟨x, S1, h1, h0⟩ := bind_inv h0
    obtain ⟨y, S2, h2, h0⟩ := bind_inv h0
    refine rE.go rs re h1 fun M1 H1 vx e1 r1 q1 => ?_
    refine rE.go r1 (re.ext rs e1) h2 fun M2 H2 vy e2 r2 q2 => ?_
    refine hg M2 S2 H2 x y vx vy z S3 _ r2 (RelD.ext r1 e2 q1) q2 h0 fun M3 H3 v e3 r3 q3 => ?_
    cases z with
    | bl c => cases h; unfold RelD at q3; exact ⟨_, q3, k M3 H3 ((e1.trans e2).trans e3) r3⟩
    | _ => cases h
/-- is None -/
theorem px_isN {a : Expr} {fa : E} {pos pos' : Pos} {j : Nat} (ha : PX nm X a fa) : PX nm X (.Compare a [.Is] [.Constant .none j pos'] pos) (e1 gIsN fa) :=
  PE.imp (pe_cmp (pc_isN ha) rfl) fun σ H Q ⟨M, ρ, S, d, S', rs, re, h, k⟩ => by
    unfold e1 at h
    obtain ⟨x, S1, h1, h⟩ := bind_inv h
    refine rE.go rs re h1 fun M1 H1 v e1 r1 q1 => ?_
    unfold gIsN at h
    cases h
    refine k _ _ _ e1 r1 ?_
    unfold RelD
    cases x <;> unfold RelD at q1 <;> first
      | (subst q1; rfl)
      | (obtain ⟨a, vs, q1, _⟩ := q1; subst q1; rfl)
      | (obtain ⟨a, q1, _⟩ := q1; subst q1; rfl)
theorem px_notN {a : Expr} {fa : E} {pos pos' : Pos} {j : Nat} (ha : PX nm X a fa) : PX nm X (.Compare a [.IsNot] [.Constant .none j pos'] pos) (e1 gNotN fa) :=
  PE.imp (pe_cmp (pc_notN ha) rfl) fun σ H Q ⟨M, ρ, S, d, S', rs, re, h, k⟩ => by
    unfold e1 at h
    obtain ⟨x, S1, h1, h⟩ := bind_inv h
    refine rE.go rs re h1 fun M1 H1 v e1 r1 q1 => ?_
    unfold gNotN at h
    cases h
    refine k _ _ _ e1 r1 ?_
    unfold RelD
    cases x <;> unfold RelD at q1 <;> first
      | (subst q1; rfl)
      | (obtain ⟨a, vs, q1, _⟩ := q1; subst q1; rfl)
      | (obtain ⟨a, q1, _⟩ := q1; subst q1; rfl)
/-- .. as tests -/
theorem pxt_b {e : Expr} {f : E} {t : TE} (h : PT X e (tB t)) (i : ∀ σ H Q, rE nm X f σ H Q → t σ H Q) : PXT nm X e (tE f) := pxt_of (PT.imp h fun σ H Q q => i σ H _ q)
theorem pxt_isN {a : Expr} {fa : E} {pos pos' : Pos} {j : Nat} (ha : PX nm X a fa) : PXT nm X (.Compare a [.Is] [.Constant .none j pos'] pos) (tE (e1 gIsN fa)) :=
  pxt_b (pt_cmp (pc_isN ha) rfl) fun σ H Q ⟨M, ρ, S, d, S', rs, re, h, k⟩ => by
    unfold e1 at h
    obtain ⟨x, S1, h1, h⟩ := bind_inv h
    refine rE.go rs re h1 fun M1 H1 v e1 r1 q1 => ?_
    unfold gIsN at h
    cases h
    refine k _ _ _ e1 r1 ?_
    unfold RelD
    cases x <;> unfold RelD at q1 <;> first
      | (subst q1; rfl)
      | (obtain ⟨a, vs, q1, _⟩ := q1; subst q1; rfl)
      | (obtain ⟨a, q1, _⟩ := q1; subst q1; rfl)
theorem pxt_notN {a : Expr} {fa : E} {pos pos' : Pos} {j : Nat} (ha : PX nm X a fa) : PXT nm X (.Compare a [.IsNot] [.Constant .none j pos'] pos) (tE (e1 gNotN fa)) :=
  pxt_b (pt_cmp (pc_notN ha) rfl) fun σ H Q ⟨M, ρ, S, d, S', rs, re, h, k⟩ => by
    unfold e1 at h
    obtain ⟨x, S1, h1, h⟩ := bind_inv h
    refine rE.go rs re h1 fun M1 H1 v e1 r1 q1 => ?_
    unfold gNotN at h
    cases h
    refine k _ _ _ e1 r1 ?_
    unfold RelD
    cases x <;> unfold RelD at q1 <;> first
      | (subst q1; rfl)
      | (obtain ⟨a, vs, q1, _⟩ := q1; subst q1; rfl)
      | (obtain ⟨a, q1, _⟩ := q1; subst q1; rfl)
/-! arguments, tuples, lists -/
theorem pxa_nil : PXA nm X [] aNil := PA.imp pa_nil fun σ H Q ⟨M, ρ, S, d, S', rs, re, h, k⟩ => by
  unfold aNil at h
  cases h
  exact k M H [] Ext.refl rs .nil
theorem pxa_cons {e : Expr} {es : List Expr} {f : E} {r : A} (ha : PX nm X e f) (hr : PXA nm X es r) (hs : starEach (e :: es) X.env = (false, eval e X.env) :: starEach es X.env) : PXA nm X (e :: es) (aCons f r) :=
  PA.imp (pa_cons ha hr hs) fun σ H Q ⟨M, ρ, S, d, S', rs, re, h, k⟩ => by
    unfold aCons at h
    obtain ⟨x, S1, h1, h⟩ := bind_inv h
    obtain ⟨xs, S2, h2, h⟩ := bind_inv h
    cases h
    refine rE.go rs re h1 fun M1 H1 v e1 r1 q1 => ?_
    refine ⟨M1, ρ, S1, xs, _, r1, re.ext rs e1, h2, fun M2 H2 vs e2 r2 q2 => ?_⟩
    exact k M2 H2 (v :: vs) (e1.trans e2) r2 (.cons (RelD.ext r1 e2 q1) q2)
theorem LIM_eq : LIM = sizeLine := by rw [sizeLine_eq]; rfl
theorem px_tup {es : List Expr} {f : A} {j : Nat} {pos : Pos} (h : PXA nm X es f) (hn : es.length ≤ 1000) (hl : ∀ ρ S ds S', f ρ S = .ok ds S' → ds.length = es.length) : PX nm X (.Tuple es j pos) (eTup f) :=
  PE.imp (pe_tup h) fun σ H Q ⟨M, ρ, S, d, S', rs, re, h, k⟩ => by
    unfold eTup at h
    obtain ⟨xs, S1, h1, h⟩ := bind_inv h
    cases h
    refine ⟨M, ρ, S, xs, _, rs, re, h1, fun M1 H1 vs e1 r1 q1 => ⟨?_, fun p hp => ?_⟩⟩
    · rw [← q1.length, hl _ _ _ _ h1, sizeLine_eq]; omega
    · exact (k.ext e1).tup r1 q1 hp
theorem px_lst {es : List Expr} {f : A} {pos : Pos} (h : PXA nm X es f) (hn : es.length ≤ 1000) (hl : ∀ ρ S ds S', f ρ S = .ok ds S' → ds.length = es.length) : PX nm X (.List es pos) (eLst f) :=
  PE.imp (pe_lst h) fun σ H Q ⟨M, ρ, S, d, S', rs, re, h, k⟩ => by
    unfold eLst at h
    obtain ⟨xs, S1, h1, h⟩ := bind_inv h
    cases h
    refine ⟨M, ρ, S, xs, _, rs, re, h1, fun M1 H1 vs e1 r1 q1 => ⟨?_, fun p hp => ?_⟩⟩
    · rw [← q1.length, hl _ _ _ _ h1, sizeLine_eq]; omega
    · exact (k.ext e1).push r1 q1 hp
theorem len_nil (ρ : Env) (S : Sto) (ds : List D) (S' : Sto) (h : aNil ρ S = .ok ds S') : ds.length = 0 := by unfold aNil at h; cases h; rfl
theorem len_cons {f : E} {r : A} {n : Nat} (hl : ∀ ρ S ds S', r ρ S = .ok ds S' → ds.length = n) (ρ : Env) (S : Sto) (ds : List D) (S' : Sto) (h : aCons f r ρ S = .ok ds S') : ds.length = n + 1 := by
  unfold aCons at h
  obtain ⟨x, S1, h1, h⟩ := bind_inv h
  obtain ⟨xs, S2, h2, h⟩ := bind_inv h
  cases h
  simp [hl _ _ _ _ h2]

/-! ### tests -/
theorem rT.go {f : T} {P : Bool → Hp → Prop} {b : Bool} (r : RelS nm X.K X.mg M S H) (e : RelE X.K M H ρ σ) (h : f ρ S = .ok b S1)
    (k : ∀ M1 H1, Ext M H M1 H1 → RelS nm X.K X.mg M1 S1 H1 → P b H1) : rT nm X f σ H P := ⟨M, ρ, S, b, S1, r, e, h, k⟩
theorem pxw_and1 {a : Expr} {f : T} {pos : Pos} (ha : PXT nm X a f) : PXW nm X (.BoolOp .And [a] pos) f := pw_and1 ha
theorem pxw_or1 {a : Expr} {f : T} {pos : Pos} (ha : PXT nm X a f) : PXW nm X (.BoolOp .Or [a] pos) f := pw_or1 ha
theorem pxw_and {a b : Expr} {rest : List Expr} {f g : T} {pos : Pos} (ha : PXT nm X a f) (hb : PXW nm X (.BoolOp .And (b :: rest) pos) g) : PXW nm X (.BoolOp .And (a :: b :: rest) pos) (PF.tAnd f g) :=
  PW.imp (pw_and ha hb) fun σ H Q ⟨M, ρ, S, d, S', rs, re, h, k⟩ => by
    unfold PF.tAnd at h
    obtain ⟨c, S1, h1, h⟩ := bind_inv h
    refine rT.go rs re h1 fun M1 H1 e1 r1 => ?_
    cases c with
    | true => exact iteT (rT.go r1 (re.ext rs e1) h fun M2 H2 e2 r2 => k M2 H2 (e1.trans e2) r2)
    | false => cases h; exact iteF (k M1 H1 e1 r1)
theorem pxw_or {a b : Expr} {rest : List Expr} {f g : T} {pos : Pos} (ha : PXT nm X a f) (hb : PXW nm X (.BoolOp .Or (b :: rest) pos) g) : PXW nm X (.BoolOp .Or (a :: b :: rest) pos) (PF.tOr f g) :=
  PW.imp (pw_or ha hb) fun σ H Q ⟨M, ρ, S, d, S', rs, re, h, k⟩ => by
    unfold PF.tOr at h
    obtain ⟨c, S1, h1, h⟩ := bind_inv h
    refine rT.go rs re h1 fun M1 H1 e1 r1 => ?_
    cases c with
    | false => exact iteF (rT.go r1 (re.ext rs e1) h fun M2 H2 e2 r2 => k M2 H2 (e1.trans e2) r2)
    | true => cases h; exact iteT (k M1 H1 e1 r1)
theorem pxt_w {e : Expr} {f : T} (h : PXW nm X e f) : PXT nm X e f := h.pt
theorem pxt_not {a : Expr} {f : T} {pos : Pos} (ha : PXT nm X a f) : PXT nm X (.UnaryOp .Not a pos) (PF.tNot f) :=
  PT.imp (pt_not ha) fun σ H Q ⟨M, ρ, S, d, S', rs, re, h, k⟩ => by
    unfold PF.tNot at h
    obtain ⟨c, S1, h1, h⟩ := bind_inv h
    cases h
    exact rT.go rs re h1 fun M1 H1 e1 r1 => k M1 H1 e1 r1
/-! .. as values -/
theorem px_one {op : BoolOp} {a : Expr} {f : E} {pos : Pos} (ha : PX nm X a f) : PX nm X (.BoolOp op [a] pos) f := pe_one ha
theorem px_and {a b : Expr} {rest : List Expr} {f g : E} {pos : Pos} (ha : PX nm X a f) (hb : PX nm X (.BoolOp .And (b :: rest) pos) g) : PX nm X (.BoolOp .And (a :: b :: rest) pos) (eAnd f g) :=
  PE.imp (pe_and ha hb) fun σ H Q ⟨M, ρ, S, d, S', rs, re, h, k⟩ => by
    unfold eAnd at h
    obtain ⟨x, S1, h1, h⟩ := bind_inv h
    refine rE.go rs re h1 fun M1 H1 v e1 r1 q1 => ?_
    cases x with
    | bl c =>
      have q2 := q1
      unfold RelD at q2
      refine ⟨c, q2, ?_⟩
      cases c with
      | true => exact iteT (rE.go r1 (re.ext rs e1) h fun M2 H2 v2 e2 r2 q => k M2 H2 v2 (e1.trans e2) r2 q)
      | false => cases h; exact iteF (k M1 H1 _ e1 r1 (by unfold RelD; rfl))
    | _ => cases h
theorem px_or {a b : Expr} {rest : List Expr} {f g : E} {pos : Pos} (ha : PX nm X a f) (hb : PX nm X (.BoolOp .Or (b :: rest) pos) g) : PX nm X (.BoolOp .Or (a :: b :: rest) pos) (eOr f g) :=
  PE.imp (pe_or ha hb) fun σ H Q ⟨M, ρ, S, d, S', rs, re, h, k⟩ => by
    unfold eOr at h
    obtain ⟨x, S1, h1, h⟩ := bind_inv h
    refine rE.go rs re h1 fun M1 H1 v e1 r1 q1 => ?_
    cases x with
    | bl c =>
      have q2 := q1
      unfold RelD at q2
      refine ⟨c, q2, ?_⟩
      cases c with
      | false => exact iteF (rE.go r1 (re.ext rs e1) h fun M2 H2 v2 e2 r2 q => k M2 H2 v2 (e1.trans e2) r2 q)
      | true => cases h; exact iteT (k M1 H1 _ e1 r1 (by unfold RelD; rfl))
    | _ => cases h
theorem px_not {a : Expr} {f : E} {pos : Pos} (ha : PX nm X a f) : PX nm X (.UnaryOp .Not a pos) (eNot f) :=
  PE.imp (pe_not ha) fun σ H Q ⟨M, ρ, S, d, S', rs, re, h, k⟩ => by
    unfold eNot at h
    obtain ⟨x, S1, h1, h⟩ := bind_inv h
    refine rE.go rs re h1 fun M1 H1 v e1 r1 q1 => ?_
    cases x with
    | bl c => cases h; unfold RelD at q1; exact ⟨c, q1, k M1 H1 _ e1 r1 (by unfold RelD; rfl)⟩
    | _ => cases h
theorem px_if {c a b : Expr} {t : T} {f g : E} {pos : Pos} (hc : PXT nm X c t) (ha : PX nm X a f) (hb : PX nm X b g) : PX nm X (.IfExp c a b pos) (eIf t f g) :=
  PE.imp (pe_ifExp hc ha hb) fun σ H Q ⟨M, ρ, S, d, S', rs, re, h, k⟩ => by
    unfold eIf at h
    obtain ⟨c, S1, h1, h⟩ := bind_inv h
    refine rT.go rs re h1 fun M1 H1 e1 r1 => ?_
    cases c with
    | true => exact iteT (rE.go r1 (re.ext rs e1) h fun M2 H2 v2 e2 r2 q => k M2 H2 v2 (e1.trans e2) r2 q)
    | false => exact iteF (rE.go r1 (re.ext rs e1) h fun M2 H2 v2 e2 r2 q => k M2 H2 v2 (e1.trans e2) r2 q)
end
end PF
end
section
set_option Elab.async false
set_option linter.all false
set_option maxRecDepth 100003
set_option maxHeartbeats 2000003
set_option autoImplicit false
namespace PF
open PySem L2
section
variable {nm : Nm} {X : Cx} {M M' : List Addr} {H H' : Hp} {S S' S1 : Sto} {ρ : Env} {σ : L2.St} {Q : VK} {d : D}
theorem RelD.int {K : PySem.W.Frag} {i : Int} {v : V} (h : RelD K M H (.int i) v) : v = .int i := by unfold RelD at h; exact h
theorem RelD.bl {K : PySem.W.Frag} {i : Bool} {v : V} (h : RelD K M H (.bl i) v) : v = .bl i := by unfold RelD at h; exact h
theorem RelD.str {K : PySem.W.Frag} {i : List Nat} {v : V} (h : RelD K M H (.str i) v) : v = .str (strOf i) := by unfold RelD at h; exact h
theorem RelD.tup {K : PySem.W.Frag} {ds : List D} {v : V} (h : RelD K M H (.tup ds) v) : ∃ a vs, v = .ref a ∧ SqT K H a vs ∧ RelDs K M H ds vs := by unfold RelD at h; exact h
theorem RelD.ref {K : PySem.W.Frag} {n : Nat} {v : V} (h : RelD K M H (.ref n) v) : ∃ a, v = .ref a ∧ M[n]? = some a := by unfold RelD at h; exact h
theorem RelD.mkI {K : PySem.W.Frag} {i : Int} : RelD K M H (.int i) (.int i) := by unfold RelD; rfl
theorem RelD.mkB {K : PySem.W.Frag} {i : Bool} : RelD K M H (.bl i) (.bl i) := by unfold RelD; rfl
theorem RelD.mkN {K : PySem.W.Frag} : RelD K M H .non .non := by unfold RelD; rfl
theorem RelD.mkS {K : PySem.W.Frag} {i : List Nat} : RelD K M H (.str i) (.str (strOf i)) := by unfold RelD; rfl
theorem strOf_len (s : List Nat) : (strOf s).length = s.length := rfl
theorem strOf_app (a b : List Nat) : strOf a ++ strOf b = strOf (a ++ b) := by
  show (⟨a.toArray ++ b.toArray⟩ : Str) = ⟨(a ++ b).toArray⟩
  simp
theorem strOf_inj {a b : List Nat} (h : strOf a = strOf b) : a = b := by
  have h2 : a.toArray = b.toArray := by injection h
  simpa using congrArg Array.toList h2
theorem strOf_toList (a : List Nat) : (strOf a).cps.toList = a := by simp [strOf]
theorem strOf_cps (x : Str) : strOf x.cps.toList = x := by cases x; simp [strOf]

/-! ### ints -/
theorem op2_cmp {p : Int → Int → Bool} : Op2 nm X (rI0 fun i j => .bl (p i j)) (gCmp p) := by
  intro M S H x y vx vy d S' Q rs hx hy h k
  unfold gCmp at h
  cases x <;> cases y <;> first
    | (cases h; rw [hx.int, hy.int]; exact ⟨_, _, rfl, rfl, k.here rs .mkB⟩)
    | cases h
theorem op2_sub : Op2 nm X (rI0 fun i j => .int (i - j)) gSub := by
  intro M S H x y vx vy d S' Q rs hx hy h k
  unfold gSub at h
  cases x <;> cases y <;> first
    | (cases h; rw [hx.int, hy.int]; exact ⟨_, _, rfl, rfl, k.here rs .mkI⟩)
    | cases h
theorem op2_fdiv : Op2 nm X (rI CDiv fun i j => .int (i / j)) gFdiv := by
  intro M S H x y vx vy d S' Q rs hx hy h k
  unfold gFdiv at h
  cases x <;> cases y <;> first
    | (dsimp only at h
       split at h
       · rename_i c
         cases h; rw [hx.int, hy.int]; exact ⟨_, _, rfl, rfl, c, k.here rs .mkI⟩
       · cases h)
    | cases h
theorem op2_mod : Op2 nm X (rI (fun _ j => 0 < j) fun i j => .int (i % j)) gMod := by
  intro M S H x y vx vy d S' Q rs hx hy h k
  unfold gMod at h
  cases x <;> cases y <;> first
    | (dsimp only at h
       split at h
       · rename_i c
         cases h; rw [hx.int, hy.int]; exact ⟨_, _, rfl, rfl, c, k.here rs .mkI⟩
       · cases h)
    | cases h
theorem op2_pow : Op2 nm X (rI CPow fun i j => .int (i ^ j.toNat)) gPow := by
  intro M S H x y vx vy d S' Q rs hx hy h k
  unfold gPow at h
  cases x <;> cases y <;> first
    | (dsimp only at h
       split at h
       · rename_i c
         cases h; rw [hx.int, hy.int]; exact ⟨_, _, rfl, rfl, c, k.here rs .mkI⟩
       · cases h)
    | cases h
theorem px_neg {a : Expr} {f : E} {pos : Pos} (ha : PX nm X a f) : PX nm X (.UnaryOp .USub a pos) (e1 gNeg f) :=
  PE.imp (pe_un un_neg ha) fun σ H Q ⟨M, ρ, S, d, S', rs, re, h, k⟩ => by
    unfold e1 at h
    obtain ⟨x, S1, h1, h⟩ := bind_inv h
    refine rE.go rs re h1 fun M1 H1 v e1 r1 q1 => ?_
    unfold gNeg at h
    cases x with
    | int i => cases h; rw [q1.int]; exact ⟨_, rfl, k _ _ _ e1 r1 .mkI⟩
    | _ => cases h
/-! ### + and * -/
/-- two lists of the store, written -/
theorem lst_wr (rs : RelS nm X.K X.mg M S H) {n : Nat} {a : Addr} {ds : List D} (hn : M[n]? = some a) (h : S[n]? = some (.lst ds)) : ∃ vs, H a = some (.lst vs) ∧ RelDs X.K M H ds vs := rs.obj n a _ hn h
def rAddA (K : PySem.W.Frag) : R2 := fun x y H Q => (rI0 (fun i j => .int (i + j)) x y H Q ∨ (∃ i j, x = .str i ∧ y = .str j ∧ i.length + j.length ≤ sizeLine ∧ Q (.str (i ++ j)) H)) ∨ (rCatA K x y H Q ∨ rCat x y H Q)
theorem op_addA : OpR X (binaryOp .Add) (rAddA X.K) := OpR.or (OpR.or op_add op_add_str) (OpR.or op_catA op_cat)
theorem op2_add : Op2 nm X (rAddA X.K) gAdd := by
  intro M S H x y vx vy d S' Q rs hx hy h k
  unfold gAdd at h
  cases x <;> cases y <;> dsimp only at h <;> try cases h
  · rw [hx.int, hy.int]
    exact .inl (.inl ⟨_, _, rfl, rfl, k.here rs .mkI⟩)
  · split at h
    · rename_i c
      cases h
      rw [hx.str, hy.str]
      refine .inl (.inr ⟨_, _, rfl, rfl, by rw [← LIM_eq]; exact c, ?_⟩)
      rw [strOf_app]
      exact k.here rs .mkS
    · cases h
  · split at h
    · rename_i c
      cases h
      obtain ⟨a, vs, rfl, ha, qa⟩ := hx.tup
      obtain ⟨b, us, rfl, hb, qb⟩ := hy.tup
      refine .inr (.inl ⟨a, b, vs, us, rfl, rfl, ha, hb, by rw [← qa.length, ← qb.length, ← LIM_eq]; exact c, fun e => ?_, fun _ e => ?_, fun _ _ p hp => ?_⟩)
      · subst e
        have e2 := qa.length
        refine k.here rs ?_
        rw [List.length_nil, List.length_eq_zero_iff] at e2
        subst e2
        exact hy
      · subst e
        have e2 := qb.length
        refine k.here rs ?_
        rw [List.length_nil, List.length_eq_zero_iff] at e2
        subst e2
        rw [List.append_nil]
        exact hx
      · exact k.tup rs (qa.append qb) hp
    · cases h
  · rename_i m n
    cases h1 : wrOf m S with
    | none => rw [h1] at h; cases h
    | some as =>
      rw [h1] at h
      cases h2 : wrOf n S with
      | none => rw [h2] at h; cases h
      | some bs =>
        rw [h2] at h
        dsimp only at h
        split at h
        · rename_i c
          cases h
          obtain ⟨a, rfl, ha⟩ := hx.ref
          obtain ⟨b, rfl, hb⟩ := hy.ref
          have g1 : S[m]? = some (.lst as) := by unfold wrOf at h1; split at h1 <;> cases h1; assumption
          have g2 : S[n]? = some (.lst bs) := by unfold wrOf at h2; split at h2 <;> cases h2; assumption
          obtain ⟨vs, ka, qa⟩ := lst_wr rs ha g1
          obtain ⟨us, kb, qb⟩ := lst_wr rs hb g2
          refine .inr (.inr ⟨a, b, vs, us, rfl, rfl, ka, kb, by rw [← qa.length, ← qb.length, ← LIM_eq]; exact c, fun p hp => ?_⟩)
          exact k.push rs (qa.append qb) hp
        · cases h
theorem RelDs.rep {K : PySem.W.Frag} {ds : List D} {vs : List V} (h : RelDs K M H ds vs) : ∀ k : Nat, RelDs K M H (rep ds k) (List.replicate k vs).flatten
  | 0 => by simp [PF.rep, RelDs.nil]
  | k + 1 => by
    have ih := RelDs.rep h k
    unfold PF.rep at ih ⊢
    rw [List.replicate_succ, List.replicate_succ, List.flatten_cons, List.flatten_cons]
    exact h.append ih
def rMulA (K : PySem.W.Frag) : R2 := fun x y H Q => rI CMul (fun i j => .int (i * j)) x y H Q ∨ (rRep x y H Q ∨ rRepT K x y H Q)
theorem op_mulA : OpR X (binaryOp .Mult) (rMulA X.K) := OpR.or op_mul (OpR.or op_rep op_repT)
theorem op2_mul : Op2 nm X (rMulA X.K) gMul := by
  intro M S H x y vx vy d S' Q rs hx hy h k
  unfold gMul at h
  cases x <;> cases y <;> dsimp only at h <;> try cases h
  · split at h
    · rename_i c
      cases h
      rw [hx.int, hy.int]
      exact .inl ⟨_, _, rfl, rfl, c, k.here rs .mkI⟩
    · cases h
  · split at h
    · rename_i c
      cases h
      obtain ⟨a, vs, rfl, ha, qa⟩ := hx.tup
      rw [hy.int]
      refine .inr (.inr ⟨a, _, vs, rfl, rfl, ha, ?_, c.2.1, c.2.2.1, ?_, fun p hp => ?_⟩)
      · intro e
        subst e
        have e2 := qa.length
        rw [List.length_nil, List.length_eq_zero_iff] at e2
        exact c.1 e2
      · rw [← qa.length]; exact c.2.2.2
      · exact k.tup rs (qa.rep _) hp
    · cases h
  · rename_i m z
    cases h1 : wrOf m S with
    | none => rw [h1] at h; cases h
    | some as =>
      rw [h1] at h
      dsimp only at h
      split at h
      · rename_i c
        cases h
        obtain ⟨a, rfl, ha⟩ := hx.ref
        rw [hy.int]
        have g1 : S[m]? = some (.lst as) := by unfold wrOf at h1; split at h1 <;> cases h1; assumption
        obtain ⟨vs, ka, qa⟩ := lst_wr rs ha g1
        refine .inr (.inl ⟨a, z, vs, rfl, rfl, ka, by omega, by omega, by rw [← qa.length, ← LIM_eq]; exact c.2.2, fun p hp => ?_⟩)
        exact k.push rs (qa.rep _) hp
      · cases h
end
end PF
end
section
set_option Elab.async false
set_option linter.all false
set_option maxRecDepth 100003
set_option maxHeartbeats 2000003
set_option autoImplicit false
namespace PF
open PySem L2
/-! ### == by trees -/
mutual
def J.py : J → PyData
  | .non => .none
  | .bl b => .bool b
  | .int i => .int i
  | .str s => .str (strOf s)
  | .tup js => .tuple (J.pys js)
  | .lst js => .list (J.pys js)
def J.pys : List J → List PyData
  | [] => []
  | j :: js => J.py j :: J.pys js
end
mutual
theorem J.eqv_py : ∀ a b : J, PyData.eqv a.py b.py = J.eqv a b
  | .non, b => by cases b <;> simp [J.py, PyData.eqv, J.eqv]
  | .bl x, b => by
    cases b <;> simp [J.py, PyData.eqv, J.eqv, b2i]
  | .int x, b => by
    cases b <;> simp [J.py, PyData.eqv, J.eqv, b2i]
  | .str x, b => by
    cases b <;> simp [J.py, PyData.eqv, J.eqv]
    rename_i y
    rw [Bool.eq_iff_iff]
    simp only [beq_iff_eq]
    exact ⟨strOf_inj, fun e => by rw [e]⟩
  | .tup x, b => by
    cases b <;> simp [J.py, PyData.eqv, J.eqv]
    exact J.eqvs_py _ _
  | .lst x, b => by
    cases b <;> simp [J.py, PyData.eqv, J.eqv]
    exact J.eqvs_py _ _
theorem J.eqvs_py : ∀ a b : List J, PyData.eqvAll (J.pys a) (J.pys b) = J.eqvs a b
  | [], [] => by simp [J.pys, PyData.eqvAll, J.eqvs]
  | [], _ :: _ => by simp [J.pys, PyData.eqvAll, J.eqvs]
  | _ :: _, [] => by simp [J.pys, PyData.eqvAll, J.eqvs]
  | x :: xs, y :: ys => by simp [J.pys, PyData.eqvAll, J.eqvs, J.eqv_py x y, J.eqvs_py xs ys]
end
theorem allSome_cons {α β : Type} {f : α → Option β} {x : α} {xs : List α} {r : List β} (h : allSome f (x :: xs) = some r) : ∃ y ys, r = y :: ys ∧ f x = some y ∧ allSome f xs = some ys := by
  unfold allSome at h
  split at h
  · cases h
  · split at h
    · cases h
    · cases h
      exact ⟨_, _, rfl, by assumption, by assumption⟩
section
variable {nm : Nm} {X : Cx} {M M' : List Addr} {H H' : Hp} {S S' S1 : Sto} {ρ : Env} {σ : L2.St} {Q : VK} {d : D}
/-- what a tree tells: the data as it lies, its texts' signs, its depth -/
structure Told (K : PySem.W.Frag) (H : Hp) (n : Nat) (v : V) (j : J) : Prop where
  dp : Dp K H v j.py
  lay : j.py.canLay0 = true
  deep : j.py.depth ≤ n
structure Tolds (K : PySem.W.Frag) (H : Hp) (n : Nat) (vs : List V) (js : List J) : Prop where
  dp : DpAll K H vs (J.pys js)
  lay : PyData.canLayAll0 (J.pys js) = true
  deep : PyData.depthAll (J.pys js) ≤ n
theorem told_all {n : Nat} {f : D → Option J} (hf : ∀ d v j, RelD X.K M H d v → f d = some j → Told X.K H n v j) : ∀ {ds : List D} {vs : List V} {js : List J}, RelDs X.K M H ds vs → allSome f ds = some js → Tolds X.K H n vs js
  | [], _, _, h, e => by
    unfold RelDs at h
    subst h
    unfold allSome at e
    cases e
    exact ⟨.nil, by simp [J.pys, PyData.canLayAll0], by simp [J.pys, PyData.depthAll]⟩
  | d :: ds, _, _, h, e => by
    unfold RelDs at h
    obtain ⟨v, q, rfl, h1, h2⟩ := h
    obtain ⟨y, ys, rfl, e1, e2⟩ := allSome_cons e
    have a := hf d v y h1 e1
    have b := told_all hf h2 e2
    refine ⟨.cons a.dp b.dp, ?_, ?_⟩
    · simp [J.pys, PyData.canLayAll0, a.lay, b.lay]
    · have := a.deep
      have := b.deep
      simp only [J.pys, PyData.depthAll]
      omega
theorem told_of (rs : RelS nm X.K X.mg M S H) : ∀ (n : Nat) (d : D) (v : V) (j : J), RelD X.K M H d v → tree S n d = some j → Told X.K H n v j := by
  intro n
  induction n with
  | zero =>
    intro d v j h e
    cases d with
    | non => unfold tree at e; cases e; unfold RelD at h; subst h; exact ⟨.non, by simp [J.py, PyData.canLay0], by simp [J.py, PyData.depth]⟩
    | bl b => unfold tree at e; cases e; rw [h.bl]; exact ⟨.bl _, by simp [J.py, PyData.canLay0], by simp [J.py, PyData.depth]⟩
    | int b => unfold tree at e; cases e; rw [h.int]; exact ⟨.int _, by simp [J.py, PyData.canLay0], by simp [J.py, PyData.depth]⟩
    | str s =>
      unfold tree at e
      split at e
      · rename_i c
        cases e
        rw [h.str]
        refine ⟨.str _, ?_, by simp [J.py, PyData.depth]⟩
        simp only [J.py, PyData.canLay0, PyData.strOk, strOf]
        simpa using c
      · cases e
    | tup ds => unfold tree at e; cases e
    | ref n => unfold tree at e; cases e
  | succ n ih =>
    intro d v j h e
    cases d with
    | non => unfold tree at e; cases e; unfold RelD at h; subst h; exact ⟨.non, by simp [J.py, PyData.canLay0], by simp [J.py, PyData.depth]⟩
    | bl b => unfold tree at e; cases e; rw [h.bl]; exact ⟨.bl _, by simp [J.py, PyData.canLay0], by simp [J.py, PyData.depth]⟩
    | int b => unfold tree at e; cases e; rw [h.int]; exact ⟨.int _, by simp [J.py, PyData.canLay0], by simp [J.py, PyData.depth]⟩
    | str s =>
      unfold tree at e
      split at e
      · rename_i c
        cases e
        rw [h.str]
        refine ⟨.str _, ?_, by simp [J.py, PyData.depth]⟩
        simp only [J.py, PyData.canLay0, PyData.strOk, strOf]
        simpa using c
      · cases e
    | tup ds =>
      unfold tree at e
      split at e
      · rename_i js ej
        cases e
        obtain ⟨a, vs, rfl, ha, qa⟩ := h.tup
        have t := told_all (n := n) ih qa ej
        refine ⟨.tup ha t.dp, ?_, ?_⟩
        · simp only [J.py, PyData.canLay0]; exact t.lay
        · have := t.deep
          simp only [J.py, PyData.depth]
          omega
      · cases e
    | ref m =>
      unfold tree at e
      split at e
      · rename_i ds el
        split at e
        · rename_i js ej
          cases e
          obtain ⟨a, rfl, ha⟩ := h.ref
          obtain ⟨vs, ka, qa⟩ := rs.lst ha el
          have t := told_all (n := n) ih qa ej
          refine ⟨.lst ka t.dp, ?_, ?_⟩
          · simp only [J.py, PyData.canLay0]; exact t.lay
          · have := t.deep
            simp only [J.py, PyData.depth]
            omega
        · cases e
      · cases e
theorem Told.shaped {K : PySem.W.Frag} {v : V} {j : J} (t : Told K H EQD v j) : SeqAt.shaped j.py = true := by
  unfold SeqAt.shaped
  rw [t.lay, decide_eq_true (Nat.le_trans t.deep (by decide))]
  rfl
theorem Tolds.shaped {K : PySem.W.Frag} {vs : List V} {js : List J} (t : Tolds K H EQD vs js) : SeqAt.shaped (.list (J.pys js)) = true := by
  unfold SeqAt.shaped
  have h1 : (PyData.list (J.pys js)).canLay0 = true := by simp only [PyData.canLay0]; exact t.lay
  have h2 : (PyData.list (J.pys js)).depth ≤ 64 := by
    simp only [PyData.depth]
    exact Nat.le_trans (Nat.succ_le_succ t.deep) (by decide)
  rw [h1, decide_eq_true h2]
  rfl
def rEqA (K : PySem.W.Frag) : R2 := fun x y H Q => rEq x y H Q ∨ rEqD K x y H Q
def rNeA (K : PySem.W.Frag) : R2 := fun x y H Q => rNe x y H Q ∨ rNeD K x y H Q
theorem op_eqA (hu : X.A.units + 64 < cLine) : OpR X (compareOp .Eq) (rEqA X.K) := OpR.or op_eq (op_eqD hu)
theorem op_neA (hu : X.A.units + 64 < cLine) : OpR X (compareOp .NotEq) (rNeA X.K) := OpR.or op_ne (op_neD hu)
/-- an answer of ==, by one of the two readings -/
theorem eqF_ans (rs : RelS nm X.K X.mg M S H) {x y : D} {vx vy : V} {b : Bool} (hx : RelD X.K M H x vx) (hy : RelD X.K M H y vy) (h : eqF S x y = some b) :
    (scal vx vy = true ∧ b = decide (vx = vy)) ∨ ∃ d e, Dp X.K H vx d ∧ Dp X.K H vy e ∧ SeqAt.shaped d = true ∧ SeqAt.shaped e = true ∧ b = PyData.eqv d e := by
  have gen : eqT S x y = some b → ∃ d e, Dp X.K H vx d ∧ Dp X.K H vy e ∧ SeqAt.shaped d = true ∧ SeqAt.shaped e = true ∧ b = PyData.eqv d e := fun h => by
    unfold eqT at h
    split at h
    · rename_i j1 j2 e1 e2
      cases h
      have t1 := told_of rs EQD x vx j1 hx e1
      have t2 := told_of rs EQD y vy j2 hy e2
      exact ⟨_, _, t1.dp, t2.dp, t1.shaped, t2.shaped, (J.eqv_py j1 j2).symm⟩
    · cases h
  cases x with
  | non =>
    have ex : vx = .non := by unfold RelD at hx; exact hx
    cases y with
    | non =>
      have ey : vy = .non := by unfold RelD at hy; exact hy
      unfold eqF at h; cases h; subst ex; subst ey; exact .inl ⟨rfl, by simp⟩
    | bl j => unfold eqF at h; cases h; subst ex; rw [hy.bl]; exact .inl ⟨rfl, by simp⟩
    | int j => unfold eqF at h; cases h; subst ex; rw [hy.int]; exact .inl ⟨rfl, by simp⟩
    | str j => unfold eqF at h; cases h; subst ex; rw [hy.str]; exact .inl ⟨rfl, by simp⟩
    | tup j => exact .inr (gen h)
    | ref j => exact .inr (gen h)
  | bl i =>
    have ex := hx.bl
    cases y with
    | non =>
      have ey : vy = .non := by unfold RelD at hy; exact hy
      unfold eqF at h; cases h; subst ex; subst ey; exact .inl ⟨rfl, by simp⟩
    | bl j => unfold eqF at h; cases h; subst ex; rw [hy.bl]; exact .inl ⟨rfl, by simp [Bool.beq_eq_decide_eq]⟩
    | int j => exact .inr (gen h)
    | str j => unfold eqF at h; cases h; subst ex; rw [hy.str]; exact .inl ⟨rfl, by simp⟩
    | tup j => exact .inr (gen h)
    | ref j => exact .inr (gen h)
  | int i =>
    have ex := hx.int
    cases y with
    | non =>
      have ey : vy = .non := by unfold RelD at hy; exact hy
      unfold eqF at h; cases h; subst ex; subst ey; exact .inl ⟨rfl, by simp⟩
    | bl j => exact .inr (gen h)
    | int j => unfold eqF at h; cases h; subst ex; rw [hy.int]; exact .inl ⟨rfl, by simp [Bool.beq_eq_decide_eq]⟩
    | str j => unfold eqF at h; cases h; subst ex; rw [hy.str]; exact .inl ⟨rfl, by simp⟩
    | tup j => exact .inr (gen h)
    | ref j => exact .inr (gen h)
  | str i =>
    have ex := hx.str
    cases y with
    | non =>
      have ey : vy = .non := by unfold RelD at hy; exact hy
      unfold eqF at h; cases h; subst ex; subst ey; exact .inl ⟨rfl, by simp⟩
    | bl j => unfold eqF at h; cases h; subst ex; rw [hy.bl]; exact .inl ⟨rfl, by simp⟩
    | int j => unfold eqF at h; cases h; subst ex; rw [hy.int]; exact .inl ⟨rfl, by simp⟩
    | str j =>
      unfold eqF at h; cases h; subst ex; rw [hy.str]
      refine .inl ⟨rfl, ?_⟩
      rw [Bool.eq_iff_iff]
      simp only [beq_iff_eq, decide_eq_true_eq]
      exact ⟨fun e => by rw [e], fun e => strOf_inj (by injection e)⟩
    | tup j => exact .inr (gen h)
    | ref j => exact .inr (gen h)
  | tup i => exact .inr (gen (by unfold eqF at h; cases y <;> exact h))
  | ref i => exact .inr (gen (by unfold eqF at h; cases y <;> exact h))
theorem op2_eq : Op2 nm X (rEqA X.K) gEq := by
  intro M S H x y vx vy d S' Q rs hx hy h k
  unfold gEq at h
  split at h
  · rename_i b hb
    cases h
    rcases eqF_ans rs hx hy hb with ⟨h1, e⟩ | ⟨d, e, h1, h2, h3, h4, eb⟩
    · exact .inl ⟨h1, by rw [← e]; exact k.here rs .mkB⟩
    · exact .inr ⟨d, e, h1, h2, h3, h4, by rw [← eb]; exact k.here rs .mkB⟩
  · cases h
theorem op2_ne : Op2 nm X (rNeA X.K) gNe := by
  intro M S H x y vx vy d S' Q rs hx hy h k
  unfold gNe at h
  split at h
  · rename_i b hb
    cases h
    rcases eqF_ans rs hx hy hb with ⟨h1, e⟩ | ⟨d, e, h1, h2, h3, h4, eb⟩
    · exact .inl ⟨h1, by rw [← e]; exact k.here rs .mkB⟩
    · exact .inr ⟨d, e, h1, h2, h3, h4, by rw [← eb]; exact k.here rs .mkB⟩
  · cases h
end
end PF
end
section
set_option Elab.async false
set_option linter.all false
set_option maxRecDepth 100003
set_option maxHeartbeats 2000003
set_option autoImplicit false
namespace PF
open PySem L2
section
variable {nm : Nm} {X : Cx} {M M' : List Addr} {H H' : Hp} {S S' S1 : Sto} {ρ : Env} {σ : L2.St} {Q : VK} {d : D}
theorem wr_lst {n : Nat} {ds : List D} (h : wrOf n S = some ds) : S[n]? = some (.lst ds) := by unfold wrOf at h; split at h <;> cases h; assumption
theorem dic_of {n : Nat} {kvs : List (D × D)} (h : dicOf n S = some kvs) : S[n]? = some (.dic kvs) := by unfold dicOf at h; split at h <;> cases h; assumption
theorem lst_len {n : Nat} {a : Addr} {vs : List V} {K : PySem.W.Frag} {I : Prop} : True := trivial
/-! ### in -/
/-- a flat value -/
theorem flat_of {x : D} {v : V} (h : x.scal = true) (r : RelD X.K M H x v) : flatV v = true := by
  cases x with
  | non => unfold RelD at r; subst r; rfl
  | bl b => rw [r.bl]; rfl
  | int b => rw [r.int]; rfl
  | str b => rw [r.str]; rfl
  | tup b => cases h
  | ref b => cases h
theorem flats_of : ∀ {ds : List D} {vs : List V}, ds.all D.scal = true → RelDs X.K M H ds vs → vs.all flatV = true
  | [], _, _, r => by unfold RelDs at r; subst r; rfl
  | d :: ds, _, h, r => by
    unfold RelDs at r
    obtain ⟨v, q, rfl, r1, r2⟩ := r
    rw [List.all_cons, Bool.and_eq_true] at h
    rw [List.all_cons, flat_of h.1 r1, flats_of h.2 r2]
    rfl
/-- == of flat values by trees -/
theorem eqV_of {n m : Nat} {x y : D} {vx vy : V} {a b : J} (hx : x.scal = true) (hy : y.scal = true) (rx : RelD X.K M H x vx) (ry : RelD X.K M H y vy) (ex : tree S n x = some a) (ey : tree S m y = some b) : eqV vy vx = J.eqv b a := by
  have tr : ∀ {k : Nat} {z : D} {vz : V} {c : J}, z.scal = true → RelD X.K M H z vz → tree S k z = some c → (vz = .non ∧ c = .non) ∨ (∃ t, vz = .bl t ∧ c = .bl t) ∨ (∃ t, vz = .int t ∧ c = .int t) ∨ (∃ t, vz = .str (strOf t) ∧ c = .str t) := by
    intro k z vz c hz rz ez
    cases z with
    | non => unfold RelD at rz; unfold tree at ez; cases ez; exact .inl ⟨rz, rfl⟩
    | bl t => unfold tree at ez; cases ez; exact .inr (.inl ⟨t, rz.bl, rfl⟩)
    | int t => unfold tree at ez; cases ez; exact .inr (.inr (.inl ⟨t, rz.int, rfl⟩))
    | str t =>
      unfold tree at ez
      split at ez
      · cases ez; exact .inr (.inr (.inr ⟨t, rz.str, rfl⟩))
      · cases ez
    | tup t => cases hz
    | ref t => cases hz
  rcases tr hx rx ex with ⟨rfl, rfl⟩ | ⟨t, rfl, rfl⟩ | ⟨t, rfl, rfl⟩ | ⟨t, rfl, rfl⟩ <;>
  rcases tr hy ry ey with ⟨rfl, rfl⟩ | ⟨u, rfl, rfl⟩ | ⟨u, rfl, rfl⟩ | ⟨u, rfl, rfl⟩ <;>
  simp [eqV, J.eqv, b2i]
  rw [Bool.eq_iff_iff]
  simp only [beq_iff_eq]
  exact ⟨strOf_inj, fun e => by rw [e]⟩
theorem inV_of {x : D} {vx : V} {a : J} (hx : x.scal = true) (rx : RelD X.K M H x vx) (ex : tree S EQD x = some a) : ∀ {ds : List D} {vs : List V} {js : List J}, ds.all D.scal = true → RelDs X.K M H ds vs → allSome (tree S EQD) ds = some js → inV vx vs = js.any fun z => J.eqv z a
  | [], _, _, _, r, e => by unfold RelDs at r; subst r; unfold allSome at e; cases e; rfl
  | d :: ds, _, _, h, r, e => by
    unfold RelDs at r
    obtain ⟨v, q, rfl, r1, r2⟩ := r
    obtain ⟨y, ys, rfl, e1, e2⟩ := allSome_cons e
    rw [List.all_cons, Bool.and_eq_true] at h
    unfold inV
    rw [List.any_cons, List.any_cons, eqV_of hx h.1 rx r1 ex e1]
    congr 1
    exact inV_of hx rx ex h.2 r2 e2
theorem any_py (a : J) : ∀ js : List J, (J.pys js).any (fun z => PyData.eqv z a.py) = js.any fun z => J.eqv z a
  | [] => rfl
  | j :: js => by
    unfold J.pys
    rw [List.any_cons, List.any_cons, J.eqv_py, any_py a js]
def rInA (K : PySem.W.Frag) : R2 := fun x y H Q => (rIn K false x y H Q ∨ rInD K x y H Q) ∨ (∃ c z, x = .str ⟨#[c]⟩ ∧ y = .str z ∧ Q (.bl (decide (c ∈ z.cps.toList))) H)
def rNotInA (K : PySem.W.Frag) : R2 := fun x y H Q => (rIn K true x y H Q ∨ rNotInD K x y H Q) ∨ (∃ c z, x = .str ⟨#[c]⟩ ∧ y = .str z ∧ Q (.bl (!decide (c ∈ z.cps.toList))) H)
end
end PF
end
section
set_option Elab.async false
set_option linter.all false
set_option maxRecDepth 100003
set_option maxHeartbeats 2000003
set_option autoImplicit false
namespace PF
open PySem L2
section
variable {nm : Nm} {X : Cx} {M M' : List Addr} {H H' : Hp} {S S' S1 : Sto} {ρ : Env} {σ : L2.St} {Q : VK} {d : D}
theorem inB_ans (rs : RelS nm X.K X.mg M S H) {x y : D} {vx vy : V} {b : Bool} (hx : RelD X.K M H x vx) (hy : RelD X.K M H y vy) (h : inB x y S = some b) :
    (∃ p xs, vy = .ref p ∧ SqT X.K H p xs ∧ flatV vx = true ∧ xs.all flatV = true ∧ b = inV vx xs) ∨
    (∃ d ds, Dp X.K H vx d ∧ Dp X.K H vy (.list ds) ∧ SeqAt.shaped d = true ∧ SeqAt.shaped (.list ds) = true ∧ b = ds.any fun z => PyData.eqv z d) ∨
    (∃ c z, vx = .str ⟨#[c]⟩ ∧ vy = .str z ∧ b = decide (c ∈ z.cps.toList)) := by
  unfold inB at h
  cases y with
  | tup ds =>
    dsimp only at h
    split at h
    · rename_i c
      rw [Bool.and_eq_true] at c
      obtain ⟨a, vs, rfl, ha, qa⟩ := hy.tup
      unfold inTree at h
      split at h
      · rename_i j js e1 e2
        cases h
        exact .inl ⟨a, vs, rfl, ha, flat_of c.1 hx, flats_of c.2 qa, (inV_of c.1 hx e1 c.2 qa e2).symm⟩
      · cases h
    · cases h
  | str s =>
    cases x with
    | str t =>
      cases t with
      | nil => cases h
      | cons c r =>
        cases r with
        | nil =>
          cases h
          refine .inr (.inr ⟨c, strOf s, ?_, hy.str, ?_⟩)
          · rw [hx.str]; rfl
          · rw [strOf_toList, Bool.eq_iff_iff]
            simp
        | cons _ _ => cases h
    | _ => cases h
  | ref n =>
    dsimp only at h
    split at h
    · rename_i ds el
      unfold inTree at h
      split at h
      · rename_i j js e1 e2
        cases h
        obtain ⟨a, rfl, ha⟩ := hy.ref
        obtain ⟨vs, ka, qa⟩ := rs.lst ha el
        have t1 := told_of rs EQD x vx j hx e1
        have t2 := told_all (n := EQD) (told_of rs EQD) qa e2
        exact .inr (.inl ⟨_, _, t1.dp, .lst ka t2.dp, t1.shaped, t2.shaped, (any_py j js).symm⟩)
      · cases h
    · cases h
  | _ => cases h
theorem op_inA (hu : X.A.units + 65 < cLine) : OpR X (compareOp .In) (rInA X.K) := OpR.or (OpR.or op_in_seq (op_inD hu)) op_in_sign
theorem op_notInA (hu : X.A.units + 65 < cLine) : OpR X (compareOp .NotIn) (rNotInA X.K) := OpR.or (OpR.or op_notIn_seq (op_notInD hu)) op_notIn_sign
theorem op2_in : Op2 nm X (rInA X.K) gIn := by
  intro M S H x y vx vy d S' Q rs hx hy h k
  unfold gIn at h
  split at h
  · rename_i b hb
    cases h
    rcases inB_ans rs hx hy hb with ⟨p, xs, e1, e2, e3, e4, e⟩ | ⟨d, ds, e1, e2, e3, e4, e⟩ | ⟨c, z, e1, e2, e⟩
    · exact .inl (.inl ⟨p, xs, e1, .inr e2, e3, e4, by rw [if_neg Bool.false_ne_true, ← e]; exact k.here rs .mkB⟩)
    · exact .inl (.inr ⟨d, ds, e1, e2, e3, e4, by rw [← e]; exact k.here rs .mkB⟩)
    · exact .inr ⟨c, z, e1, e2, by rw [← e]; exact k.here rs .mkB⟩
  · cases h
theorem op2_notIn : Op2 nm X (rNotInA X.K) gNotIn := by
  intro M S H x y vx vy d S' Q rs hx hy h k
  unfold gNotIn at h
  split at h
  · rename_i b hb
    cases h
    rcases inB_ans rs hx hy hb with ⟨p, xs, e1, e2, e3, e4, e⟩ | ⟨d, ds, e1, e2, e3, e4, e⟩ | ⟨c, z, e1, e2, e⟩
    · exact .inl (.inl ⟨p, xs, e1, .inr e2, e3, e4, by rw [if_pos rfl, ← e]; exact k.here rs .mkB⟩)
    · exact .inl (.inr ⟨d, ds, e1, e2, e3, e4, by rw [← e]; exact k.here rs .mkB⟩)
    · exact .inr ⟨c, z, e1, e2, by rw [← e]; exact k.here rs .mkB⟩
  · cases h
/-! ### items, slices -/
theorem at_rel {K : PySem.W.Frag} {ds : List D} {vs : List V} {i : Int} (q : RelDs K M H ds vs) (h : at? ds i = some d) : ∃ v, atI vs i = some v ∧ RelD K M H d v := by
  unfold at? at h
  cases e : PF.ixN ds.length i with
  | none => rw [e] at h; cases h
  | some j =>
    rw [e] at h
    obtain ⟨v, h1, h2⟩ := q.get (show ds[j]? = some d from h)
    refine ⟨v, ?_, h2⟩
    unfold atI
    rw [← q.length, show L2.ixN ds.length i = some j from e]
    exact h1
theorem op2_ix : Op2 nm X (rIx X.K) gIx := by
  intro M S H x y vx vy d S' Q rs hx hy h k
  unfold gIx at h
  cases x with
  | tup ds =>
    cases y with
    | int i =>
      dsimp only at h
      split at h
      · rename_i e
        cases h
        obtain ⟨a, vs, rfl, ha, qa⟩ := hx.tup
        obtain ⟨v, h1, h2⟩ := at_rel qa e
        rw [hy.int]
        exact .inr (.inl ⟨a, vs, i, v, rfl, rfl, ha, h1, k.here rs h2⟩)
      · cases h
    | _ => cases h
  | str s =>
    cases y with
    | int i =>
      dsimp only at h
      split at h
      · rename_i c
        split at h
        · rename_i cc e
          cases h
          rw [hx.str, hy.int]
          refine .inr (.inr ⟨strOf s, i, cc, rfl, rfl, by rw [strOf_len, ← LIM_eq]; exact c, ?_, k.here rs .mkS⟩)
          rw [strOf_toList]
          exact e
        · cases h
      · cases h
    | _ => cases h
  | ref n =>
    cases y with
    | int i =>
      dsimp only at h
      split at h
      · rename_i ds el
        split at h
        · rename_i e
          cases h
          obtain ⟨a, rfl, ha⟩ := hx.ref
          obtain ⟨vs, ka, qa⟩ := rs.lst ha el
          obtain ⟨v, h1, h2⟩ := at_rel qa e
          rw [hy.int]
          exact .inl ⟨a, vs, i, v, rfl, rfl, ka, h1, k.here rs h2⟩
        · cases h
      · cases h
    | _ => cases h
  | _ => cases h
theorem px_ix {a b : Expr} {f g : E} {pos : Pos} (ha : PX nm X a f) (hb : PX nm X b g) (hs : PlainIx b) : PX nm X (.Subscript a b pos) (e2 gIx f g) := px_e2 (a := a) (b := b) (pe_ix ix_seq ha hb hs) op2_ix
theorem pxo_none : PXO nm X none oNone := PO.imp po_none fun σ H Q ⟨M, ρ, S, d, S', rs, re, h, k⟩ => by
  unfold oNone at h
  cases h
  exact k M H Ext.refl rs
theorem pxo_some {a : Expr} {f : E} (ha : PX nm X a f) : PXO nm X (some a) (oSome f) := PO.imp (po_some ha) fun σ H Q ⟨M, ρ, S, d, S', rs, re, h, k⟩ => by
  unfold oSome at h
  obtain ⟨x, S1, h1, h⟩ := bind_inv h
  refine rE.go rs re h1 fun M1 H1 v e1 r1 q1 => ?_
  cases x with
  | int i => cases h; exact ⟨i, q1.int, k M1 H1 e1 r1⟩
  | _ => cases h
def rSlAll (K : PySem.W.Frag) : V → Option Int → Option Int → Hp → VK → Prop := fun x lo hi H Q => (rSlL K x lo hi H Q ∨ rSlA K x lo hi H Q) ∨ rSlS x lo hi H Q
theorem SlR.or {r r' : V → Option Int → Option Int → Hp → VK → Prop} (h : SlR X r) (h' : SlR X r') : SlR X fun x lo hi H Q => r x lo hi H Q ∨ r' x lo hi H Q := by
  intro pins s σ H x v vl vu lo hi sl Q I rx hs pl pu q
  rcases q with q | q
  · exact h pins s σ H x v vl vu lo hi sl Q I rx hs pl pu q
  · exact h' pins s σ H x v vl vu lo hi sl Q I rx hs pl pu q
theorem sIx_eq (n d : Nat) (o : Option Int) : HT.sIx n d o = PF.sIx n d o := by cases o <;> rfl
theorem cut_rel {K : PySem.W.Frag} {ds : List D} {vs : List V} (q : RelDs K M H ds vs) (lo hi : Option Int) : RelDs K M H (cut ds lo hi) (cutV vs lo hi) := by
  unfold cut cutV
  rw [sIx_eq, sIx_eq, ← q.length]
  exact (q.drop _).take _
theorem cutS_of (z : List Nat) (i j : Option Int) : cutS (strOf z) i j = strOf (cut z i j) := by
  unfold cutS cut strOf
  rw [sIx_eq, sIx_eq]
  simp [Str.length]
theorem px_slice {a : Expr} {lo hi : Option Expr} {f : E} {l u : O} {p2 pos : Pos} (ha : PX nm X a f) (hl : PXO nm X lo l) (hh : PXO nm X hi u) : PX nm X (.Subscript a (.Slice lo hi none p2) pos) (eSlice f l u) :=
  PE.imp (pe_slice (SlR.or (SlR.or sl_list sl_tupA) sl_str) ha hl hh) fun σ H Q ⟨M, ρ, S, d, S', rs, re, h, k⟩ => by
    unfold eSlice at h
    obtain ⟨x, S1, h1, h⟩ := bind_inv h
    obtain ⟨i, S2, h2, h⟩ := bind_inv h
    obtain ⟨j, S3, h3, h⟩ := bind_inv h
    refine rE.go rs re h1 fun M1 H1 v e1 r1 q1 => ?_
    refine ⟨M1, ρ, S1, i, S2, r1, re.ext rs e1, h2, fun M2 H2 e2 r2 => ?_⟩
    refine ⟨M2, ρ, S2, j, S3, r2, (re.ext rs e1).ext r1 e2, h3, fun M3 H3 e3 r3 => ?_⟩
    have q3 := RelD.ext r2 e3 (RelD.ext r1 e2 q1)
    have kk := k.ext ((e1.trans e2).trans e3)
    unfold gSlice at h
    cases x with
    | tup ds =>
      cases h
      obtain ⟨a, vs, rfl, ha, qa⟩ := q3.tup
      refine .inl (.inr ⟨a, vs, rfl, ha, fun w => ?_, fun w p hp => kk.tup r3 (cut_rel qa i j) hp⟩)
      refine kk.here r3 ?_
      have e : cutV vs i j = vs := by
        unfold cutV
        rw [w.1, w.2]
        simp
      have z := cut_rel qa i j
      rw [e] at z
      unfold RelD
      exact ⟨a, vs, rfl, ha, z⟩
    | ref n =>
      dsimp only at h
      split at h
      · rename_i ds el
        cases h
        obtain ⟨a, rfl, ha⟩ := q3.ref
        obtain ⟨vs, ka, qa⟩ := r3.lst ha el
        exact .inl (.inl ⟨a, vs, rfl, ka, fun p hp => kk.push r3 (cut_rel qa i j) hp⟩)
      · cases h
    | str z =>
      dsimp only at h
      split at h
      · rename_i c
        cases h
        rw [q3.str]
        refine .inr ⟨strOf z, rfl, by rw [strOf_len, ← LIM_eq]; exact c, ?_⟩
        rw [cutS_of]
        exact kk.here r3 .mkS
      · cases h
    | _ => cases h

/-! ### calls of built-ins -/
theorem rA.go {f : A} {P : List V → Hp → Prop} {ds : List D} (r : RelS nm X.K X.mg M S H) (e : RelE X.K M H ρ σ) (h : f ρ S = .ok ds S1)
    (k : ∀ M1 H1 vs, Ext M H M1 H1 → RelS nm X.K X.mg M1 S1 H1 → RelDs X.K M1 H1 ds vs → P vs H1) : rA nm X f σ H P := ⟨M, ρ, S, ds, S1, r, e, h, k⟩
theorem px_cb {e : Expr} {r : List V → Hp → VK → Prop} {fa : A} {g : Fn} (h : PE X e (tCB r (rA nm X fa))) (hg : OpN nm X r g) : PX nm X e (eCall g fa) :=
  PE.imp h fun σ H Q ⟨M, ρ, S, d, S', rs, re, h, k⟩ => by
    unfold eCall at h
    obtain ⟨xs, S1, h1, h⟩ := bind_inv h
    exact rA.go rs re h1 fun M1 H1 vs e1 r1 q1 => hg M1 S1 H1 xs vs d S' Q r1 q1 h (k.ext e1)
theorem RelDs.one {K : PySem.W.Frag} {x : D} {vs : List V} (h : RelDs K M H [x] vs) : ∃ v, vs = [v] ∧ RelD K M H x v := by
  unfold RelDs at h
  obtain ⟨v, q, rfl, h1, h2⟩ := h
  unfold RelDs at h2
  subst h2
  exact ⟨v, rfl, h1⟩
theorem RelDs.two {K : PySem.W.Frag} {x y : D} {vs : List V} (h : RelDs K M H [x, y] vs) : ∃ v u, vs = [v, u] ∧ RelD K M H x v ∧ RelD K M H y u := by
  unfold RelDs at h
  obtain ⟨v, q, rfl, h1, h2⟩ := h
  obtain ⟨u, rfl, h3⟩ := h2.one
  exact ⟨v, u, rfl, h1, h3⟩
theorem seq_of (rs : RelS nm X.K X.mg M S H) {x : D} {v : V} {ds : List D} (q : RelD X.K M H x v) (h : seqOf x S = some ds) : ∃ a vs, v = .ref a ∧ (SqL X.K H a vs ∨ SqT X.K H a vs) ∧ RelDs X.K M H ds vs := by
  unfold seqOf at h
  cases x with
  | tup es => cases h; obtain ⟨a, vs, rfl, ha, qa⟩ := q.tup; exact ⟨a, vs, rfl, .inr ha, qa⟩
  | ref n =>
    obtain ⟨a, rfl, ha⟩ := q.ref
    obtain ⟨vs, ka, qa⟩ := rs.lst ha (show lstOf n S = some ds from h)
    exact ⟨a, vs, rfl, .inl ka, qa⟩
  | _ => cases h
def rLenA (K : PySem.W.Frag) : List V → Hp → VK → Prop := fun xs H Q => (∃ x n, xs = [x] ∧ LenV K x H n ∧ Q (.int n) H) ∨ (∃ d kvs, xs = [.ref d] ∧ H d = some (.dK kvs) ∧ Q (.int kvs.length) H)
theorem CallR.or {f : Value} {r r' : List V → Hp → VK → Prop} (h : CallR X f r) (h' : CallR X f r') : CallR X f fun xs H Q => r xs H Q ∨ r' xs H Q := by
  intro pins s σ H xs us Q I rv q
  rcases q with q | q
  · exact h pins s σ H xs us Q I rv q
  · exact h' pins s σ H xs us Q I rv q
theorem opn_len : OpN nm X (fun xs H Q => ∃ x n, xs = [x] ∧ LenV X.K x H n ∧ Q (.int n) H) fLen := by
  intro M S H xs vs d S' Q rs q h k
  unfold fLen at h
  split at h
  · rename_i ds
    cases h
    obtain ⟨v, rfl, q1⟩ := q.one
    obtain ⟨a, vs, rfl, ha, qa⟩ := q1.tup
    exact ⟨_, ds.length, rfl, .inr ⟨vs, ha, qa.length⟩, k.here rs .mkI⟩
  · rename_i s
    split at h
    · rename_i c
      cases h
      obtain ⟨v, rfl, q1⟩ := q.one
      rw [q1.str]
      exact ⟨_, s.length, rfl, ⟨by rw [strOf_len, ← LIM_eq]; exact c, rfl⟩, k.here rs .mkI⟩
    · cases h
  · rename_i n
    split at h
    · rename_i ds el
      cases h
      obtain ⟨v, rfl, q1⟩ := q.one
      obtain ⟨a, rfl, ha⟩ := q1.ref
      obtain ⟨vs, ka, qa⟩ := rs.lst ha el
      exact ⟨_, ds.length, rfl, .inl ⟨vs, ka, qa.length⟩, k.here rs .mkI⟩
    · cases h
  · cases h
theorem opn_int : OpN nm X (fun xs H Q => (∃ i, xs = [.int i] ∧ Q (.int i) H) ∨ ∃ k, xs = [.bl k] ∧ Q (.int (if k then 1 else 0)) H) fInt := by
  intro M S H xs vs d S' Q rs q h k
  unfold fInt at h
  split at h
  · cases h
    obtain ⟨v, rfl, q1⟩ := q.one
    rw [q1.int]
    exact .inl ⟨_, rfl, k.here rs .mkI⟩
  · cases h
    obtain ⟨v, rfl, q1⟩ := q.one
    rw [q1.bl]
    exact .inr ⟨_, rfl, k.here rs .mkI⟩
  · cases h
theorem opn_min : OpN nm X (fun xs H Q => ∃ i j, xs = [.int i, .int j] ∧ Q (.int (if j < i then j else i)) H) fMin := by
  intro M S H xs vs d S' Q rs q h k
  unfold fMin at h
  split at h
  · cases h
    obtain ⟨v, u, rfl, q1, q2⟩ := q.two
    rw [q1.int, q2.int]
    exact ⟨_, _, rfl, k.here rs .mkI⟩
  · cases h
theorem opn_max : OpN nm X (fun xs H Q => ∃ i j, xs = [.int i, .int j] ∧ Q (.int (if j > i then j else i)) H) fMax := by
  intro M S H xs vs d S' Q rs q h k
  unfold fMax at h
  split at h
  · cases h
    obtain ⟨v, u, rfl, q1, q2⟩ := q.two
    rw [q1.int, q2.int]
    exact ⟨_, _, rfl, k.here rs .mkI⟩
  · cases h
theorem opn_list : OpN nm X (fun xs H Q => ∃ p ys, xs = [.ref p] ∧ (SqL X.K H p ys ∨ SqT X.K H p ys) ∧ ∀ l, H l = none → Q (.ref l) (upd H l (.lst ys))) fList := by
  intro M S H xs vs d S' Q rs q h k
  unfold fList at h
  split at h
  · split at h
    · rename_i ds es
      cases h
      obtain ⟨v, rfl, q1⟩ := q.one
      obtain ⟨a, vs, rfl, ha, qa⟩ := seq_of rs q1 es
      exact ⟨a, vs, rfl, ha, fun l hl => k.push rs qa hl⟩
    · cases h
  · cases h
theorem opn_tuple : OpN nm X (fun xs H Q => ∃ p ys, xs = [.ref p] ∧ ((SqL X.K H p ys ∧ ∀ l, H l = none → Q (.ref l) (upd H l (.tup ys))) ∨ (SqT X.K H p ys ∧ Q (.ref p) H))) fTuple := by
  intro M S H xs vs d S' Q rs q h k
  unfold fTuple at h
  split at h
  · split at h
    · rename_i ds es
      cases h
      obtain ⟨v, rfl, q1⟩ := q.one
      obtain ⟨a, vs, rfl, ha, qa⟩ := seq_of rs q1 es
      refine ⟨a, vs, rfl, ?_⟩
      rcases ha with ha | ha
      · exact .inl ⟨ha, fun l hl => k.tup rs qa hl⟩
      · refine .inr ⟨ha, k.here rs ?_⟩
        unfold RelD
        exact ⟨a, vs, rfl, ha, qa⟩
    · cases h
  · cases h
/-! sorted numbers -/
theorem ins_perm {α : Type} (lt : α → α → Bool) (x : α) : ∀ l : List α, (ins lt x l).Perm (x :: l)
  | [] => .refl _
  | y :: ys => by
    unfold ins
    split
    · exact ((ins_perm lt x ys).cons y).trans (.swap x y ys)
    · exact .refl _
theorem sortBy_perm {α : Type} (lt : α → α → Bool) : ∀ l : List α, (sortBy lt l).Perm l
  | [] => .refl _
  | x :: xs => (ins_perm lt x _).trans ((sortBy_perm lt xs).cons x)
theorem ins_sorted (x : Int) : ∀ l : List Int, l.Pairwise (· ≤ ·) → (ins (fun a b => decide (a < b)) x l).Pairwise (· ≤ ·)
  | [], _ => by simp [ins]
  | y :: ys, h => by
    unfold ins
    rw [List.pairwise_cons] at h
    split
    · rename_i c
      have c' : y < x := of_decide_eq_true c
      refine List.pairwise_cons.mpr ⟨fun z hz => ?_, ins_sorted x ys h.2⟩
      rcases List.mem_cons.mp ((ins_perm _ x ys).mem_iff.mp hz) with e | e
      · omega
      · exact h.1 z e
    · rename_i c
      have c' : ¬ y < x := fun e => c (decide_eq_true e)
      refine List.pairwise_cons.mpr ⟨fun z hz => ?_, List.pairwise_cons.mpr h⟩
      rcases List.mem_cons.mp hz with e | e
      · omega
      · have := h.1 z e; omega
theorem sortI_sorted : ∀ l : List Int, (sortI l).Pairwise (· ≤ ·)
  | [] => .nil
  | x :: xs => ins_sorted x _ (sortI_sorted xs)
theorem sorted_uniq {l m : List Int} (hl : l.Pairwise (· ≤ ·)) (hm : m.Pairwise (· ≤ ·)) (p : l.Perm m) : l = m := p.eq_of_pairwise (fun a b _ _ h1 h2 => Int.le_antisymm h1 h2) hl hm
theorem ints_rel {K : PySem.W.Frag} : ∀ {ds : List D} {vs : List V} {is : List Int}, RelDs K M H ds vs → intsOf ds = some is → vs = is.map V.int
  | [], _, _, q, h => by unfold RelDs at q; subst q; unfold intsOf at h; cases h; rfl
  | d :: ds, _, _, q, h => by
    unfold RelDs at q
    obtain ⟨v, r, rfl, q1, q2⟩ := q
    unfold intsOf at h
    cases d with
    | int i =>
      dsimp only at h
      cases e : intsOf ds with
      | none => rw [e] at h; cases h
      | some js =>
        rw [e] at h
        cases h
        rw [q1.int, ints_rel q2 e]
        rfl
    | _ => cases h
theorem rel_ints {K : PySem.W.Frag} : ∀ is : List Int, RelDs K M H (is.map D.int) (is.map V.int)
  | [] => .nil
  | i :: is => .cons .mkI (rel_ints is)
/-- sorted(x) of numbers -/
theorem opn_sortedI : OpN nm X (rSortedI X.K) fSortedI := by
  intro M S H xs vs d S' Q rs q h k
  unfold fSortedI at h
  split at h
  · split at h
    · rename_i ds es
      split at h
      · rename_i is ei
        cases h
        obtain ⟨v, rfl, q1⟩ := q.one
        obtain ⟨a, rfl, ha⟩ := q1.ref
        obtain ⟨vs, ka, qa⟩ := rs.lst ha es
        have e := ints_rel qa ei
        subst e
        refine ⟨a, is, rfl, ka, fun ns p hp hs hn => ?_⟩
        have e : ns = sortI is := sorted_uniq hs (sortI_sorted is) (hp.trans (sortBy_perm _ is).symm)
        subst e
        exact k.push rs (rel_ints _) hn
      · cases h
    · cases h
  · cases h
/-! isinstance -/
def kName : Kind → String
  | .tup => "tuple" | .int => "int" | .bool => "bool" | .str => "str" | .lst => "list"
theorem sqT_ty {K : PySem.W.Frag} {a : Addr} {vs : List V} (h : SqT K H a vs) : TyX K H (.ref a) (.type "tuple") := by
  rcases h with (h | ⟨o, h⟩) | ⟨o, its, n, h, c, _⟩
  · exact .base (.tup h)
  · exact .fTuple h
  · exact .kTuple h c
theorem sqL_ty {K : PySem.W.Frag} {a : Addr} {vs : List V} (h : SqL K H a vs) : TyX K H (.ref a) (.type "list") := by
  rcases h with (h | ⟨o, h⟩) | ⟨o, its, n, h, c, _⟩
  · exact .base (.lst h)
  · exact .base (.frz h)
  · exact .kList h c
theorem isK_ans (rs : RelS nm X.K X.mg M S H) {x : D} {v : V} {k : Kind} {b : Bool} (q : RelD X.K M H x v) (h : isK k x S = some b) : ∃ t, TyX X.K H v (.type t) ∧ kitB t (kName k) = some b := by
  unfold isK at h
  cases x with
  | non => cases h; unfold RelD at q; subst q; exact ⟨_, .base .non, by cases k <;> decide +kernel⟩
  | bl c => cases h; rw [q.bl]; exact ⟨_, .base (.bl c), by cases k <;> decide +kernel⟩
  | int c => cases h; rw [q.int]; exact ⟨_, .base (.int c), by cases k <;> decide +kernel⟩
  | str c => cases h; rw [q.str]; exact ⟨_, .base (.str _), by cases k <;> decide +kernel⟩
  | tup ds => cases h; obtain ⟨a, vs, rfl, ha, qa⟩ := q.tup; exact ⟨_, sqT_ty ha, by cases k <;> decide +kernel⟩
  | ref n =>
    dsimp only at h
    split at h
    · rename_i ds el
      cases h
      obtain ⟨a, rfl, ha⟩ := q.ref
      obtain ⟨vs, ka, qa⟩ := rs.lst ha el
      exact ⟨_, sqL_ty ka, by cases k <;> decide +kernel⟩
    · cases h
theorem boot_ty (k : Kind) : bootBuiltins (kName k : Str) = some (.type (kName k)) := by cases k <;> decide +kernel
/-- isinstance(x, T) -/
theorem px_isi {a : Expr} {f : E} (k : Kind) {p p2 pos : Pos} {kn : String} (ek : kn = kName k) (ha : PX nm X a f) (hg : Gl X "isinstance") (hm : X.mg "isinstance" = none) (hg2 : Gl X (Str.ofString kn)) (hm2 : X.mg (Str.ofString kn) = none)
    (he : starEach [a, .Name (Str.ofString kn) p2] X.env = (false, eval a X.env) :: starEach [.Name (Str.ofString kn) p2] X.env) (he2 : starEach [.Name (Str.ofString kn) p2] X.env = (false, eval (.Name (Str.ofString kn) p2) X.env) :: starEach [] X.env)
    (hpl : (backTo pos (starEach [.Name (Str.ofString kn) p2] X.env)).any (·.1) = false) :
    PX nm X (.Call (.Name "isinstance" p) [a, .Name (Str.ofString kn) p2] [] pos) (e1 (gIs k) f) := by
  subst ek
  have h2 : PE X (.Name (Str.ofString (kName k)) p2) (tC (.ty (kName k))) := pe_bltn (u := .type (kName k)) hg2 hm2 (boot_ty k) rfl (by cases k <;> decide +kernel) (by cases k <;> decide +kernel)
  refine PE.imp (pe_callB call_isi hg hm (by decide +kernel) (pa_cons ha (pa_cons h2 pa_nil he2) he) (by decide +kernel) (by decide +kernel) he hpl) fun σ H Q ⟨M, ρ, S, d, S', rs, re, h, kk⟩ => ?_
  unfold e1 at h
  obtain ⟨x, S1, h1, h⟩ := bind_inv h
  refine rE.go rs re h1 fun M1 H1 v e1 r1 q1 => ?_
  unfold gIs at h
  split at h
  · rename_i b eb
    cases h
    obtain ⟨t, ty, ek⟩ := isK_ans r1 q1 eb
    exact ⟨v, .ty (kName k), .type t, .type (kName k), b, rfl, .ty _, ty, kit_ty ek, kk _ _ _ e1 r1 .mkB⟩
  · cases h
end
end PF
end
section
set_option Elab.async false
set_option linter.all false
set_option maxRecDepth 100003
set_option maxHeartbeats 2000003
set_option autoImplicit false
namespace PF
open PySem L2
section
variable {nm : Nm} {X : Cx} {M M' : List Addr} {H H' : Hp} {S S' S1 : Sto} {ρ : Env} {σ : L2.St} {Q : VK} {d : D}
/-! ### methods of lists -/
/-- a list is another one -/
theorem KD.setL {n : Nat} {a : Addr} {ds : List D} {vs : List V} {r : D} {v : V} (k : KD nm X M H (S.set n (.lst ds)) r Q) (rs : RelS nm X.K X.mg M S H) (hn : M[n]? = some a) (q : RelDs X.K M H ds vs) (qr : RelD X.K M H r v) : Q v (upd H a (.lst vs)) := by
  have e : Ext M H M (upd H a (.lst vs)) := Ext.set (List.mem_of_getElem? hn)
  exact k _ _ _ e (rs.set hn ⟨vs, upd_same, RelDs.ext rs e q⟩) (RelD.ext rs e qr)
theorem tyV_of (rs : RelS nm X.K X.mg M S H) {x : D} {v : V} (q : RelD X.K M H x v) (h : isL x S = true) : tyV X.K "list" v H := by
  unfold isL at h
  cases x with
  | ref n =>
    obtain ⟨a, rfl, ha⟩ := q.ref
    cases e : wrOf n S with
    | none => simp [e] at h
    | some ds =>
      obtain ⟨vs, ka, qa⟩ := lst_wr rs ha (wr_lst e)
      exact .inl ⟨rfl, vs, .inl (.inl ka)⟩
  | _ => cases h
def OpM1 (nm : Nm) (X : Cx) (r : V → List V → Hp → VK → Prop) (g : D → D → PF.M D) : Prop := ∀ (M : List Addr) (S : Sto) (H : Hp) (x y : D) (vx vy : V) (d : D) (S' : Sto) (Q : VK), RelS nm X.K X.mg M S H → RelD X.K M H x vx → RelD X.K M H y vy → g x y S = .ok d S' → KD nm X M H S' d Q → r vx [vy] H Q
def OpM0 (nm : Nm) (X : Cx) (r : V → List V → Hp → VK → Prop) (g : D → PF.M D) : Prop := ∀ (M : List Addr) (S : Sto) (H : Hp) (x : D) (vx : V) (d : D) (S' : Sto) (Q : VK), RelS nm X.K X.mg M S H → RelD X.K M H x vx → g x S = .ok d S' → KD nm X M H S' d Q → r vx [] H Q
theorem px_m1 {e : Expr} {r : V → List V → Hp → VK → Prop} {g : D → D → PF.M D} {f fa : E} (h : PE X e (tBM X.K "list" r (rE nm X f) (tCons (rE nm X fa) tNil))) (hg : OpM1 nm X r g) : PX nm X e (eM1 g f fa) :=
  PE.imp h fun σ H Q ⟨M, ρ, S, d, S', rs, re, h, k⟩ => by
    unfold eM1 at h
    obtain ⟨x, S1, h1, h⟩ := bind_inv h
    refine rE.go rs re h1 fun M1 H1 v e1 r1 q1 => ?_
    split at h
    · rename_i c
      obtain ⟨y, S2, h2, h⟩ := bind_inv h
      refine ⟨tyV_of r1 q1 c, ?_⟩
      refine rE.go r1 (re.ext rs e1) h2 fun M2 H2 vy e2 r2 q2 => ?_
      exact hg M2 S2 H2 x y v vy d S' Q r2 (RelD.ext r1 e2 q1) q2 h (k.ext (e1.trans e2))
    · cases h
theorem px_m0 {e : Expr} {r : V → List V → Hp → VK → Prop} {g : D → PF.M D} {f : E} (h : PE X e (tBM0 X.K "list" r (rE nm X f))) (hg : OpM0 nm X r g) : PX nm X e (eM0 g f) :=
  PE.imp h fun σ H Q ⟨M, ρ, S, d, S', rs, re, h, k⟩ => by
    unfold eM0 at h
    obtain ⟨x, S1, h1, h⟩ := bind_inv h
    refine rE.go rs re h1 fun M1 H1 v e1 r1 q1 => ?_
    split at h
    · rename_i c
      refine ⟨tyV_of r1 q1 c, ?_⟩
      exact hg M1 S1 H1 x v d S' Q r1 q1 h (k.ext e1)
    · cases h
theorem opm_append : OpM1 nm X rAppend mAppend := by
  intro M S H x y vx vy d S' Q rs hx hy h k
  unfold mAppend at h
  cases x with
  | ref n =>
    dsimp only at h
    split at h
    · rename_i ds e
      split at h
      · rename_i c
        cases h
        obtain ⟨a, rfl, ha⟩ := hx.ref
        obtain ⟨vs, ka, qa⟩ := lst_wr rs ha (wr_lst e)
        refine ⟨a, vs, vy, rfl, rfl, ka, by rw [← qa.length, ← LIM_eq]; exact c, ?_⟩
        exact k.setL rs ha (qa.append (.cons hy .nil)) .mkN
      · cases h
    · cases h
  | _ => cases h
theorem opm_extend : OpM1 nm X rExtend mExtend := by
  intro M S H x y vx vy d S' Q rs hx hy h k
  unfold mExtend at h
  cases x with
  | ref n =>
    cases y with
    | ref m =>
      dsimp only at h
      split at h
      · rename_i ds es e1 e2
        split at h
        · rename_i c
          cases h
          obtain ⟨a, rfl, ha⟩ := hx.ref
          obtain ⟨b, rfl, hb⟩ := hy.ref
          obtain ⟨vs, ka, qa⟩ := lst_wr rs ha (wr_lst e1)
          obtain ⟨us, kb, qb⟩ := lst_wr rs hb (wr_lst e2)
          refine ⟨a, b, vs, us, rfl, rfl, ka, kb, by rw [← qa.length, ← qb.length, ← LIM_eq]; exact c.2, ?_⟩
          exact k.setL rs ha (qa.append qb) .mkN
        · cases h
      · cases h
    | _ => cases h
  | _ => cases h
theorem opm_pop : OpM1 nm X rPopAt mPop := by
  intro M S H x y vx vy d S' Q rs hx hy h k
  unfold mPop at h
  cases x with
  | ref n =>
    cases y with
    | int i =>
      dsimp only at h
      split at h
      · rename_i ds e1
        split at h
        · rename_i c
          split at h
          · rename_i d' e2
            cases h
            obtain ⟨a, rfl, ha⟩ := hx.ref
            obtain ⟨vs, ka, qa⟩ := lst_wr rs ha (wr_lst e1)
            obtain ⟨v, h1, h2⟩ := qa.get e2
            rw [hy.int]
            have hl : i.toNat < vs.length := (List.getElem?_eq_some_iff.mp h1).1
            refine ⟨a, vs, i, i.toNat, v, rfl, rfl, ka, by omega, by omega, ?_, h1, ?_⟩
            · exact PySem.StrLaws.seqIndex_nonneg c.1 (by omega)
            · exact k.setL rs ha (qa.eraseIdx _) h2
          · cases h
        · cases h
      · cases h
    | _ => cases h
  | _ => cases h
theorem RelDs.dropLast {K : PySem.W.Frag} {ds : List D} {vs : List V} (q : RelDs K M H ds vs) : RelDs K M H ds.dropLast vs.dropLast := by
  rw [List.dropLast_eq_take, List.dropLast_eq_take, ← q.length]
  exact q.take _
theorem opm_popLast : OpM0 nm X rPop mPopLast := by
  intro M S H x vx d S' Q rs hx h k
  unfold mPopLast at h
  cases x with
  | ref n =>
    dsimp only at h
    split at h
    · rename_i ds e1
      split at h
      · rename_i d' e2
        cases h
        obtain ⟨a, rfl, ha⟩ := hx.ref
        obtain ⟨vs, ka, qa⟩ := lst_wr rs ha (wr_lst e1)
        obtain ⟨v, h1, h2⟩ := qa.get e2
        refine ⟨a, vs, v, rfl, rfl, ka, by rw [← qa.length]; exact h1, ?_⟩
        exact k.setL rs ha qa.dropLast h2
      · cases h
    · cases h
  | _ => cases h

/-! ### dicts by numbers and texts -/
theorem keyD_inj : ∀ {a b : Key}, keyD a = keyD b → a = b
  | .inl a, .inl b, h => by
    have e : a = b := by injection h
    rw [e]
  | .inl a, .inr b, h => by unfold keyD at h; exact nomatch h
  | .inr a, .inl b, h => by unfold keyD at h; exact nomatch h
  | .inr a, .inr b, h => by
    have e : a.cps.toList = b.cps.toList := by injection h
    congr 1
    rw [← strOf_cps a, ← strOf_cps b, e]
theorem key_of_D {x : D} {v : V} (h : keyOk x = true) (q : RelD X.K M H x v) : ∃ k : Key, x = keyD k ∧ v = kV k := by
  cases x with
  | int i => exact ⟨.inl i, rfl, q.int⟩
  | str s => exact ⟨.inr (strOf s), by show D.str s = D.str (strOf s).cps.toList; rw [strOf_toList], q.str⟩
  | _ => cases h
theorem dget_rel {K : PySem.W.Frag} : ∀ {kvs : List (D × D)} {ps : List (Key × V)} (k : Key), RelKs K M H kvs ps →
    (dget kvs (keyD k) = none ∧ valV ps k = none) ∨ ∃ d v, dget kvs (keyD k) = some d ∧ valV ps k = some v ∧ RelD K M H d v
  | [], _, k, q => by
    have e : _ = [] := q
    subst e
    exact .inl ⟨rfl, rfl⟩
  | p :: r, _, k, q => by
    obtain ⟨k', v, qs, rfl, hk, hv, q⟩ := q
    unfold dget valV
    rw [List.find?_cons, List.find?_cons]
    by_cases e : k' = k
    · subst e
      simp only [hk, decide_true]
      exact .inr ⟨p.2, v, rfl, rfl, hv⟩
    · have e1 : decide (p.1 = keyD k) = false := decide_eq_false (fun z => e (keyD_inj (hk.symm.trans z)))
      have e2 : decide (k' = k) = false := decide_eq_false e
      simp only [e1, e2]
      exact dget_rel k q
theorem RelKs.length {K : PySem.W.Frag} : ∀ {kvs : List (D × D)} {ps : List (Key × V)}, RelKs K M H kvs ps → kvs.length = ps.length
  | [], _, q => by have e : _ = [] := q; subst e; rfl
  | p :: r, _, q => by
    obtain ⟨k', v, qs, rfl, hk, hv, q⟩ := q
    simp [RelKs.length q]
theorem RelKs.any {K : PySem.W.Frag} (k : Key) : ∀ {kvs : List (D × D)} {ps : List (Key × V)}, RelKs K M H kvs ps → (kvs.any fun p => decide (p.1 = keyD k)) = ps.any fun p => decide (p.1 = k)
  | [], _, q => by have e : _ = [] := q; subst e; rfl
  | p :: r, _, q => by
    obtain ⟨k', v, qs, rfl, hk, hv, q⟩ := q
    rw [List.any_cons, List.any_cons, RelKs.any k q, hk]
    congr 1
    exact decide_eq_decide.mpr ⟨fun e => keyD_inj e, fun e => by have e : k' = k := e; rw [e]⟩
theorem RelKs.map {K : PySem.W.Frag} {d : D} {w : V} (k : Key) (r : RelD K M H d w) : ∀ {kvs : List (D × D)} {ps : List (Key × V)}, RelKs K M H kvs ps → RelKs K M H (kvs.map fun p => if p.1 = keyD k then (p.1, d) else p) (ps.map fun p => if p.1 = k then (p.1, w) else p)
  | [], _, q => by have e : _ = [] := q; subst e; exact rfl
  | p :: t, _, q => by
    obtain ⟨k', v, qs, rfl, hk, hv, q⟩ := q
    rw [List.map_cons, List.map_cons]
    by_cases e : k' = k
    · subst e
      rw [if_pos hk, if_pos rfl]
      exact ⟨k', w, _, rfl, hk, r, RelKs.map k' r q⟩
    · rw [if_neg (fun z => e (keyD_inj (hk.symm.trans z))), if_neg e]
      exact ⟨k', v, _, rfl, hk, hv, RelKs.map k r q⟩
theorem RelKs.snoc {K : PySem.W.Frag} {d : D} {w : V} (k : Key) (r : RelD K M H d w) : ∀ {kvs : List (D × D)} {ps : List (Key × V)}, RelKs K M H kvs ps → RelKs K M H (kvs ++ [(keyD k, d)]) (ps ++ [(k, w)])
  | [], _, q => by have e : _ = [] := q; subst e; exact ⟨k, w, [], rfl, rfl, r, rfl⟩
  | p :: t, _, q => by
    obtain ⟨k', v, qs, rfl, hk, hv, q⟩ := q
    exact ⟨k', v, _, rfl, hk, hv, RelKs.snoc k r q⟩
theorem RelKs.put {K : PySem.W.Frag} {kvs : List (D × D)} {ps : List (Key × V)} {d : D} {w : V} (k : Key) (q : RelKs K M H kvs ps) (r : RelD K M H d w) : RelKs K M H (dput kvs (keyD k) d) (putK ps k w) := by
  unfold dput putK
  rw [q.any k]
  split
  · exact q.map k r
  · exact q.snoc k r
theorem dic_rel (rs : RelS nm X.K X.mg M S H) {n : Nat} {a : Addr} {kvs : List (D × D)} (hn : M[n]? = some a) (h : dicOf n S = some kvs) : ∃ ps, H a = some (.dK ps) ∧ RelKs X.K M H kvs ps := rs.obj n a _ hn (dic_of h)
/-- d[k] -/
theorem px_dx {o i : Expr} {f g : E} {pos : Pos} (hu : X.A.units + 1 < cLine) (ho : PX nm X o f) (hi : PX nm X i g) (hs : NoSl i) : PX nm X (.Subscript o i pos) (e2 gDx f g) :=
  PE.imp (pe_dget hu ho hi hs) fun σ H Q ⟨M, ρ, S, d, S', rs, re, h, k⟩ => by
    unfold e2 at h
    obtain ⟨x, S1, h1, h⟩ := bind_inv h
    obtain ⟨y, S2, h2, h⟩ := bind_inv h
    refine rE.go rs re h1 fun M1 H1 vx e1 r1 q1 => ?_
    refine rE.go r1 (re.ext rs e1) h2 fun M2 H2 vy e2 r2 q2 => ?_
    have q1 := RelD.ext r1 e2 q1
    unfold gDx at h
    cases x with
    | ref n =>
      dsimp only at h
      split at h
      · rename_i kvs ek
        split at h
        · rename_i c
          split at h
          · rename_i d' ed
            cases h
            obtain ⟨a, rfl, ha⟩ := q1.ref
            obtain ⟨ps, ka, qa⟩ := dic_rel r2 ha ek
            obtain ⟨kk, rfl, rfl⟩ := key_of_D c q2
            rcases dget_rel kk qa with ⟨z, _⟩ | ⟨d2, v2, z1, z2, z3⟩
            · rw [z] at ed; cases ed
            · rw [z1] at ed
              cases ed
              refine ⟨a, v2, rfl, ?_, (k.ext (e1.trans e2)).here r2 z3⟩
              rw [← z2]
              exact DGet.k ka
          · cases h
        · cases h
      · cases h
    | _ => cases h
/-- k in d, k not in d -/
theorem inD_ans (rs : RelS nm X.K X.mg M S H) {x y : D} {vx vy : V} {b : Bool} (hx : RelD X.K M H x vx) (hy : RelD X.K M H y vy) (h : inD x y S = some b) : ∃ a o, vy = .ref a ∧ DGet H a vx o ∧ b = o.isSome := by
  unfold inD at h
  cases y with
  | ref n =>
    dsimp only at h
    split at h
    · rename_i kvs ek
      split at h
      · rename_i c
        cases h
        obtain ⟨a, rfl, ha⟩ := hy.ref
        obtain ⟨ps, ka, qa⟩ := dic_rel rs ha ek
        obtain ⟨kk, rfl, rfl⟩ := key_of_D c hx
        refine ⟨a, valV ps kk, rfl, DGet.k ka, ?_⟩
        rcases dget_rel kk qa with ⟨z1, z2⟩ | ⟨d2, v2, z1, z2, z3⟩
        · rw [z1, z2]; rfl
        · rw [z1, z2]; rfl
      · cases h
    · cases h
  | _ => cases h
theorem pxt_inD {i o : Expr} {f g : E} {pos : Pos} (hu : X.A.units + 1 < cLine) (hi : PX nm X i f) (ho : PX nm X o g) (hm : behindInMarks .In o = false) : PXT nm X (.Compare i [.In] [o] pos) (tE (e2 gInD f g)) :=
  pxt_b (pt_cmp (pc_din hu hi ho) hm) fun σ H Q ⟨M, ρ, S, d, S', rs, re, h, k⟩ => by
    unfold e2 at h
    obtain ⟨x, S1, h1, h⟩ := bind_inv h
    obtain ⟨y, S2, h2, h⟩ := bind_inv h
    refine rE.go rs re h1 fun M1 H1 vx e1 r1 q1 => ?_
    refine rE.go r1 (re.ext rs e1) h2 fun M2 H2 vy e2 r2 q2 => ?_
    unfold gInD at h
    split at h
    · rename_i b eb
      cases h
      obtain ⟨a, o, z1, z2, z3⟩ := inD_ans r2 (RelD.ext r1 e2 q1) q2 eb
      exact ⟨a, o, z1, z2, by rw [← z3]; exact (k.ext (e1.trans e2)).here r2 .mkB⟩
    · cases h
theorem pxt_notInD {i o : Expr} {f g : E} {pos : Pos} (hu : X.A.units + 1 < cLine) (hi : PX nm X i f) (ho : PX nm X o g) (hm : behindInMarks .NotIn o = false) : PXT nm X (.Compare i [.NotIn] [o] pos) (tE (e2 gNotInD f g)) :=
  pxt_b (pt_cmp (pc_dnotin hu hi ho) hm) fun σ H Q ⟨M, ρ, S, d, S', rs, re, h, k⟩ => by
    unfold e2 at h
    obtain ⟨x, S1, h1, h⟩ := bind_inv h
    obtain ⟨y, S2, h2, h⟩ := bind_inv h
    refine rE.go rs re h1 fun M1 H1 vx e1 r1 q1 => ?_
    refine rE.go r1 (re.ext rs e1) h2 fun M2 H2 vy e2 r2 q2 => ?_
    unfold gNotInD at h
    split at h
    · rename_i b eb
      cases h
      obtain ⟨a, o, z1, z2, z3⟩ := inD_ans r2 (RelD.ext r1 e2 q1) q2 eb
      exact ⟨a, o, z1, z2, by rw [← z3]; exact (k.ext (e1.trans e2)).here r2 .mkB⟩
    · cases h
/-- d.get(k, x) -/
theorem px_get {o e g : Expr} {fo fe fg : E} {apos cpos : Pos} (hu : X.A.units + 1 < cLine) (ho : PX nm X o fo) (he : PX nm X e fe) (hg : PX nm X g fg) (m : M2 X o "get" apos e g cpos) : PX nm X (.Call (.Attribute o "get" apos) [e, g] [] cpos) (eGet fo fe fg) :=
  PE.imp (pe_dget2 hu ho he hg m) fun σ H Q ⟨M, ρ, S, d, S', rs, re, h, k⟩ => by
    unfold eGet at h
    obtain ⟨x, S1, h1, h⟩ := bind_inv h
    refine rE.go rs re h1 fun M1 H1 vx e1 r1 q1 => ?_
    cases x with
    | ref n =>
      dsimp only at h
      split at h
      · rename_i kvs0 ek0
        obtain ⟨y, S2, h2, h⟩ := bind_inv h
        obtain ⟨z, S3, h3, h⟩ := bind_inv h
        obtain ⟨a, rfl, ha⟩ := q1.ref
        obtain ⟨ps0, ka0, _⟩ := dic_rel r1 ha ek0
        refine ⟨a, rfl, .inl ⟨ps0, .inl ka0⟩, ?_⟩
        refine rE.go r1 (re.ext rs e1) h2 fun M2 H2 vy e2 r2 q2 => ?_
        refine rE.go r2 ((re.ext rs e1).ext r1 e2) h3 fun M3 H3 vz e3 r3 q3 => ?_
        split at h
        · rename_i kvs ek
          split at h
          · rename_i c
            cases h
            have ha3 := e3.get (e2.get ha)
            obtain ⟨ps, ka, qa⟩ := dic_rel r3 ha3 ek
            obtain ⟨kk, rfl, rfl⟩ := key_of_D c (RelD.ext r2 e3 q2)
            refine ⟨valV ps kk, DGet.k ka, ?_⟩
            have K3 := k.ext ((e1.trans e2).trans e3)
            rcases dget_rel kk qa with ⟨z1, z2⟩ | ⟨d2, v2, z1, z2, z3⟩
            · rw [z1] at K3
              rw [z2]
              exact K3.here r3 q3
            · rw [z1] at K3
              rw [z2]
              exact K3.here r3 z3
          · cases h
        · cases h
      · cases h
    | _ => cases h
/-- d[k] = v -/
theorem pxs_dct {o i v : Expr} {fo fi fv : E} {pos pos' : Pos} (hu : X.A.units + 1 < cLine) (ho : PX nm X o fo) (hi : PX nm X i fi) (hv : PX nm X v fv) (hs : swapsWith v (some (.Subscript o i pos')) pos.line X.env = pure false) :
    PXS nm X (.Assign [.Subscript o i pos'] v pos) (sDct fo fi fv) :=
  PS.imp (ps_dput hu ho hi hv hs) fun σ H D ⟨M, ρ, S, r, S', rs, re, h, k⟩ => by
    unfold sDct at h
    obtain ⟨x, S1, h1, h⟩ := bind_inv h
    obtain ⟨a, S2, h2, h⟩ := bind_inv h
    obtain ⟨y, S3, h3, h⟩ := bind_inv h
    refine rE.go rs re h1 fun M1 H1 vx e1 r1 q1 => ?_
    refine rE.go r1 (re.ext rs e1) h2 fun M2 H2 va e2 r2 q2 => ?_
    refine rE.go r2 ((re.ext rs e1).ext r1 e2) h3 fun M3 H3 vy e3 r3 q3 => ?_
    have q1 := RelD.ext r2 e3 (RelD.ext r1 e2 q1)
    have q2 := RelD.ext r2 e3 q2
    have re3 := ((re.ext rs e1).ext r1 e2).ext r2 e3
    have kk := k.ext ((e1.trans e2).trans e3)
    split at h
    · rename_i S4 e4
      cases h
      unfold setDct at e4
      cases a with
      | ref n =>
        dsimp only at e4
        split at e4
        · rename_i kvs ek
          split at e4
          · rename_i c
            cases e4
            obtain ⟨b, rfl, hb⟩ := q2.ref
            obtain ⟨ps, ka, qa⟩ := dic_rel r3 hb ek
            obtain ⟨key, rfl, rfl⟩ := key_of_D c.1 q3
            refine ⟨b, _, rfl, DPut.k ka (by rw [← qa.length, ← LIM_eq]; exact c.2), ?_⟩
            have ex : Ext M3 H3 M3 (upd H3 b (.dK (putK ps key vx))) := Ext.set (List.mem_of_getElem? hb)
            exact kk _ _ _ ex (r3.set hb ⟨_, upd_same, RelKs.ext r3 ex (qa.put key q1)⟩) (re3.ext r3 ex)
          · cases e4
        · cases e4
      | _ => cases e4
    · cases h
/-- {k: v, ..} -/
theorem putAll_rel {K : PySem.W.Frag} : ∀ {kvs more : List (D × D)} {ps qs : List (Key × V)}, RelKs K M H kvs ps → RelKs K M H more qs → RelKs K M H (putAll kvs more) (mergeK ps qs)
  | kvs, [], ps, _, q, r => by have e : _ = [] := r; subst e; exact q
  | kvs, p :: more, ps, _, q, r => by
    obtain ⟨k', v, qs, rfl, hk, hv, r⟩ := r
    obtain ⟨pk, pd⟩ := p
    have hk' : pk = keyD k' := hk
    subst hk'
    have hv : RelD K M H pd v := hv
    exact putAll_rel (kvs := dput kvs (keyD k') pd) (ps := putK ps k' v) (q.put k' hv) r
theorem evPairs_len : ∀ {ps : List (E × E)} {ρ : Env} {S S' : Sto} {q : List (D × D)}, evPairs ps ρ S = .ok q S' → q.length = ps.length
  | [], _, _, _, _, h => by unfold evPairs at h; cases h; rfl
  | (k, v) :: r, _, _, _, _, h => by
    unfold evPairs at h
    obtain ⟨x, S1, h1, h⟩ := bind_inv h
    obtain ⟨y, S2, h2, h⟩ := bind_inv h
    split at h
    · obtain ⟨q, S3, h3, h⟩ := bind_inv h
      cases h
      simp [evPairs_len h3]
    · cases h
theorem pairs_read : ∀ {ps : List (E × E)} {M : List Addr} {H : Hp} {S S' : Sto} {ρ : Env} {σ : L2.St} {q : List (D × D)} {R : List (V × V) → Hp → Prop}, RelS nm X.K X.mg M S H → RelE X.K M H ρ σ → evPairs ps ρ S = .ok q S' →
    (∀ M' H' kvs, Ext M H M' H' → RelS nm X.K X.mg M' S' H' → RelKs X.K M' H' q kvs → R (kvs.map fun kv => (kV kv.1, kv.2)) H') → tPairs (ps.map fun p => (rE nm X p.1, rE nm X p.2)) σ H R
  | [], M, H, _, _, _, _, _, _, rs, re, h, k => by
    unfold evPairs at h
    cases h
    exact k M H [] Ext.refl rs rfl
  | (a, b) :: r, M, H, _, _, _, _, _, _, rs, re, h, k => by
    unfold evPairs at h
    obtain ⟨x, S1, h1, h⟩ := bind_inv h
    obtain ⟨y, S2, h2, h⟩ := bind_inv h
    split at h
    · rename_i c
      obtain ⟨q, S3, h3, h⟩ := bind_inv h
      cases h
      refine rE.go rs re h1 fun M1 H1 vx e1 r1 q1 => ?_
      refine rE.go r1 (re.ext rs e1) h2 fun M2 H2 vy e2 r2 q2 => ?_
      refine pairs_read r2 ((re.ext rs e1).ext r1 e2) h3 fun M3 H3 kvs e3 r3 q3 => ?_
      obtain ⟨kk, rfl, rfl⟩ := key_of_D c (RelD.ext r1 e2 q1)
      exact k M3 H3 ((kk, vy) :: kvs) ((e1.trans e2).trans e3) r3 ⟨kk, vy, kvs, rfl, rfl, RelD.ext r2 e3 q2, q3⟩
    · cases h
abbrev PXP (nm : Nm) (X : Cx) (pos : Pos) (keys : List (Option Expr)) (values : List Expr) (ps : List (E × E)) : Prop := PPs X pos keys values (ps.map fun p => (rE nm X p.1, rE nm X p.2))
theorem pxp_nil {pos : Pos} : PXP nm X pos [] [] [] := pps_nil
theorem pxp_cons {pos : Pos} {k v : Expr} {ks : List (Option Expr)} {vs : List Expr} {f g : E} {ps : List (E × E)} (hk : PX nm X k f) (hv : PX nm X v g) (hr : PXP nm X pos ks vs ps) : PXP nm X pos (some k :: ks) (v :: vs) ((f, g) :: ps) := pps_cons hk hv hr
theorem px_disp {pos : Pos} {keys : List (Option Expr)} {values : List Expr} {ps : List (E × E)} (h : PXP nm X pos keys values ps) (hall : keys.all (·.isSome) = true) (hl : keys.length = values.length) (h0 : keys ≠ []) (h15 : keys.length ≤ 15) (hp : ps.length ≤ 15) : PX nm X (.Dict keys values pos) (eDict ps) :=
  PE.imp (pe_disp h hall hl h0 h15) fun σ H Q ⟨M, ρ, S, d, S', rs, re, h, k⟩ => by
    unfold eDict at h
    obtain ⟨q, S1, h1, h⟩ := bind_inv h
    cases h
    intro p hp0
    have e0 : Ext M H M (upd H p (.dK [])) := Ext.tup hp0
    have r0 : RelS nm X.K X.mg M S (upd H p (.dK [])) := rs.tup hp0
    have np : p ∉ M := rs.fresh hp0
    refine pairs_read r0 (re.ext rs e0) h1 fun M1 H1 kvs e1 r1 q1 => ?_
    obtain ⟨hp1, np1⟩ := e1.kept np
    have hlen : kvs.length ≤ 15 := by rw [← q1.length, evPairs_len h1]; exact hp
    refine ⟨hp1, kvs, rfl, hlen, ?_⟩
    -- p is named from here on
    refine k _ _ _ (Ext.adopt hp0 e1 np) (r1.adopt np1 hp1 (fun _ z => nomatch z) (fun _ _ z => nomatch z) ⟨_, upd_same, putAll_rel (show RelKs X.K _ _ [] [] from rfl) (q1.mo (Mo.adopt hp1 (fun _ z => nomatch z) (fun _ _ z => nomatch z)))⟩) ?_
    unfold RelD
    exact ⟨p, rfl, r1.last⟩
end
end PF
end
section
set_option Elab.async false
set_option linter.all false
set_option maxRecDepth 100003
set_option maxHeartbeats 2000003
set_option autoImplicit false
/-! # PxI: enumerate and zip over lists, tuples, texts in any mix, as things that are walked (the layer has lists alone, or tuples alone) -/
namespace PF
open PySem L2 PyProof.Rows
/-- what an iterator goes over -/
inductive Sr where
  | lst (a : Addr) | tup (a : Addr) | txt (x : Str)
def Sr.at_ (K : PySem.W.Frag) (H : Hp) : Sr → List V → Prop
  | .lst a, xs => SqL K H a xs
  | .tup a, xs => SqT K H a xs
  | .txt x, xs => xs = x.cps.toList.map fun c => V.str ⟨#[c]⟩
/-- its iterator at it, ahead of turn i -/
def Sr.own (it : Addr) : Sr → Nat → Heap → Prop
  | .lst a, i, h => h.IsListIter it a i
  | .tup a, i, h => h.IsTupleIter it a i
  | .txt x, i, h => ∃ t, h.IsStrIter it (strIterType x) x t i
def Sr.val : Sr → V
  | .lst a => .ref a
  | .tup a => .ref a
  | .txt x => .str x
theorem Sr.own_at {it : Addr} {sr : Sr} {i : Nat} {h h' : Heap} (o : sr.own it i h) (k : ∀ ob, h.get? it = some ob → h'.get? it = some ob) : sr.own it i h' := by
  cases sr with
  | lst a => exact Heap.IsListIter.at o k
  | tup a => exact Heap.IsTupleIter.at o k
  | txt x =>
    obtain ⟨t, o, ho, r⟩ := o
    exact ⟨t, o, k o ho, r⟩
theorem Sr.own_obj {it : Addr} {sr : Sr} {i : Nat} {h : Heap} (o : sr.own it i h) : ∃ ob, h.get? it = some ob ∧ (∃ fs, ob.data = .fields fs) ∧ ob.cls ≠ .type "list" ∧ ob.cls ≠ .type "tuple" := by
  cases sr with
  | lst a => obtain ⟨ob, ho, hc, hd⟩ := o; exact ⟨ob, ho, ⟨_, hd⟩, by rw [hc]; decide, by rw [hc]; decide⟩
  | tup a => obtain ⟨ob, ho, hc, hd⟩ := o; exact ⟨ob, ho, ⟨_, hd⟩, by rw [hc]; decide, by rw [hc]; decide⟩
  | txt x =>
    obtain ⟨t, ob, ho, hc, hd⟩ := o
    refine ⟨ob, ho, ⟨_, hd⟩, ?_, ?_⟩
    · rw [hc]; unfold strIterType; split <;> decide
    · rw [hc]; unfold strIterType; split <;> decide
theorem known_l {X : Cx} {pins : List (Addr × Obj)} {σ : L2.St} {H : Hp} {s : Shared} {a : Addr} {xs : List V} (I : Inv X pins σ H s) (h : SqL X.K H a xs) : (∃ o, H a = some o) ∨ ∃ o, X.base.get? a = some o := by
  rcases h with (h | ⟨o, h⟩) | ⟨o, its, n, h, _⟩
  · exact .inl ⟨_, h⟩
  · exact .inl ⟨_, h⟩
  · exact .inr ⟨o, I.ok.mod.kin a o h⟩
theorem known_t {X : Cx} {pins : List (Addr × Obj)} {σ : L2.St} {H : Hp} {s : Shared} {a : Addr} {xs : List V} (I : Inv X pins σ H s) (h : SqT X.K H a xs) : (∃ o, H a = some o) ∨ ∃ o, X.base.get? a = some o := by
  rcases h with (h | ⟨o, h⟩) | ⟨o, its, n, h, _⟩
  · exact .inl ⟨_, h⟩
  · exact .inl ⟨_, h⟩
  · exact .inr ⟨o, I.ok.mod.kin a o h⟩
/-- an iterator's own cell is no such thing -/
theorem not_known {X : Cx} {pins : List (Addr × Obj)} {σ : L2.St} {H : Hp} {s : Shared} {a c : Addr} (I : Inv X pins σ H s) (f : FpOk X pins H c) (h : (∃ o, H a = some o) ∨ ∃ o, X.base.get? a = some o) : a ≠ c := fun e => by
  subst e
  obtain ⟨f0, _, _, f3, _⟩ := f
  rcases h with ⟨o, h⟩ | ⟨o, h⟩
  · rw [f0] at h; cases h
  · rcases f3 with f3 | f3
    · exact I.ok.noex a o h f3
    · exact absurd (Nat.lt_of_lt_of_le (Heap.lt_size h) (Nat.le_trans I.ok.bsz f3)) (Nat.lt_irrefl _)
/-- what it draws -/
theorem Sr.draws {X : Cx} {pins : List (Addr × Obj)} {σ : L2.St} {H : Hp} {s : Shared} {sr : Sr} {xs : List V} {it : Addr} {i : Nat} (I : Inv X pins σ H s) (hh : X.A.handled = none) (at_ : sr.at_ X.K H xs) (o : sr.own it i s.heap) :
    ∃ (fp : List Addr) (n : Nat) (P : Nat → Value → Prop) (St : Nat → Heap → Prop), Draws X.prog X.w X.A.in1 it fp n P St ∧ St i s.heap ∧ it ∈ fp ∧ n = xs.length ∧
      (∀ b ∈ fp, b = it ∨ ∃ ob, s.heap.get? b = some ob ∧ (ob.cls = .type "list" ∨ ob.cls = .type "tuple") ∧ ((∃ o, H b = some o) ∨ ∃ o, X.base.get? b = some o)) ∧ (∀ j u, P j u → ∃ x, xs[j]? = some x ∧ RelV x u) ∧ ∀ j h', St j h' → sr.own it j h' := by
  have hh' : X.A.in1.handled = none := hh
  cases sr with
  | lst a =>
    obtain ⟨its, rv, p, hz⟩ := I.list at_
    have hl : s.heap.IsList a its.toArray := p.isList
    have ne : a ≠ it := fun e => by
      obtain ⟨ob, ho, hc, _⟩ := o
      obtain ⟨ob2, ho2, hc2, _⟩ := hl
      rw [e, ho] at ho2
      cases ho2
      rw [hc] at hc2
      exact absurd hc2 (by decide)
    refine ⟨_, _, _, _, Draws.list hh' it a ne its.toArray, ⟨o, hl⟩, by simp, by rw [List.size_toArray]; exact rv.length.symm, fun b hb => ?_, fun j u hu => ?_, fun j h' st => st.1⟩
    · rcases List.mem_cons.mp hb with e | hb
      · exact .inl e
      · have e : b = a := by simpa using hb
        subst e
        obtain ⟨ob, ho, hc, _⟩ := hl
        exact .inr ⟨ob, ho, .inl hc, known_l I at_⟩
    · have hu' : its[j]? = some u := by simpa using hu
      cases e : xs[j]? with
      | none => rw [rv.none_of e] at hu'; cases hu'
      | some x =>
        obtain ⟨u2, h1, h2⟩ := rv.get e
        rw [h1] at hu'
        cases hu'
        exact ⟨x, rfl, h2⟩
  | tup a =>
    obtain ⟨its, rv, p, hz⟩ := I.tuple at_
    have hl : s.heap.IsTuple a its.toArray := p
    have ne : a ≠ it := fun e => by
      obtain ⟨ob, ho, hc, _⟩ := o
      obtain ⟨ob2, ho2, hc2, _⟩ := hl
      rw [e, ho] at ho2
      cases ho2
      rw [hc] at hc2
      exact absurd hc2 (by decide)
    refine ⟨_, _, _, _, Draws.tuple hh' it a ne its.toArray, ⟨o, hl⟩, by simp, by rw [List.size_toArray]; exact rv.length.symm, fun b hb => ?_, fun j u hu => ?_, fun j h' st => st.1⟩
    · rcases List.mem_cons.mp hb with e | hb
      · exact .inl e
      · have e : b = a := by simpa using hb
        subst e
        obtain ⟨ob, ho, hc, _⟩ := hl
        exact .inr ⟨ob, ho, .inr hc, known_t I at_⟩
    · have hu' : its[j]? = some u := by simpa using hu
      cases e : xs[j]? with
      | none => rw [rv.none_of e] at hu'; cases hu'
      | some x =>
        obtain ⟨u2, h1, h2⟩ := rv.get e
        rw [h1] at hu'
        cases hu'
        exact ⟨x, rfl, h2⟩
  | txt x =>
    obtain ⟨t, o⟩ := o
    have at' : xs = x.cps.toList.map fun c => V.str ⟨#[c]⟩ := at_
    subst at'
    refine ⟨_, _, _, _, Draws.text hh' it x t, o, by simp, by simp, fun b hb => .inl (by simpa using hb), fun j u hu => ?_, fun j h' st => ⟨t, st⟩⟩
    obtain ⟨c, tk, h1, rfl⟩ := hu
    exact ⟨V.str ⟨#[c]⟩, by simp [h1], ⟨tk, rfl⟩⟩
theorem Sr.inj {X : Cx} {pins : List (Addr × Obj)} {σ : L2.St} {H : Hp} {s : Shared} {sr : Sr} {xs ys : List V} (I : Inv X pins σ H s) (h : sr.at_ X.K H xs) (h' : sr.at_ X.K H ys) : xs = ys := by
  cases sr with
  | lst a => exact I.list_inj h h'
  | tup a => exact I.tuple_inj h h'
  | txt x => exact (show xs = _ from h).trans (show ys = _ from h').symm
/-- it begins -/
theorem Sr.begins {X : Cx} {pins : List (Addr × Obj)} {σ : L2.St} {H : Hp} {s : Shared} {sr : Sr} {xs : List V} {u : Value} (I : Inv X pins σ H s) (at_ : sr.at_ X.K H xs) (ru : RelV sr.val u) :
    ∃ (o : Obj) (P : Heap → Prop), Begins u o P ∧ P s.heap ∧ ∀ (it : Addr) (h' : Heap), h'.get? it = some o → sr.own it 0 h' := by
  cases sr with
  | lst a =>
    cases ru
    obtain ⟨its, rv, p, hz⟩ := I.list at_
    exact ⟨_, _, begins_list a its.toArray, p.isList, fun it h' e => ⟨_, e, rfl, rfl⟩⟩
  | tup a =>
    cases ru
    obtain ⟨its, rv, p, hz⟩ := I.tuple at_
    exact ⟨_, _, begins_tuple a its.toArray, p, fun it h' e => ⟨_, e, rfl, rfl⟩⟩
  | txt x =>
    obtain ⟨t, rfl⟩ := ru
    exact ⟨_, _, begins_text x t, trivial, fun it h' e => ⟨t, _, e, rfl, rfl⟩⟩

/-! ### enumerate -/
/-- each item in a new pair -/
def ItE (K : PySem.W.Frag) (sr : Sr) : It :=
  ⟨fun i H => ∃ xs : List V, sr.at_ K H xs ∧ i < xs.length, fun i H v H' => ∃ T x, v = .ref T ∧ H T = none ∧ H' = upd H T (.tup [.int (i : Nat), x]) ∧ ∀ xs : List V, sr.at_ K H xs → xs[i]? = some x, fun i H => ∃ xs : List V, sr.at_ K H xs ∧ xs.length = i⟩
theorem turn_enumE {P : Program} {w : World} {K : PySem.W.Frag} {elts : List Expr} {kk : Nat} {tpos : Pos} (sr : Sr) (e it : Addr) :
    Turn P w K (.Tuple elts kk tpos) (ItE K sr) [e, it] e (fun i h => (∃ old, IsEnum h e it ((i : Nat) : Int) old) ∧ sr.own it i h ∧ e ≠ it) where
  mem := by simp
  obj := fun i h st b hb => by
    obtain ⟨⟨old, he⟩, ho, _⟩ := st
    have e' : b = e ∨ b = it := by simpa using hb
    rcases e' with z | z
    · rw [z]; exact ⟨_, he, fun v q => nomatch q⟩
    · obtain ⟨ob, h1, ⟨fs, h2⟩, _⟩ := Sr.own_obj (sr := sr) (i := i) ho
      rw [z]; exact ⟨ob, h1, fun v q => by rw [h2] at q; cases q⟩
  keep := fun i h h' st k => let ⟨⟨old, he⟩, hi, hne⟩ := st; ⟨⟨old, k e (by simp) _ he⟩, Sr.own_at (sr := sr) hi fun o q => k it (by simp) o q, hne⟩
  item := by
    intro X hP hw hK hc i pins s σ H E I hf st hg
    subst hP hw hK
    obtain ⟨⟨old, he⟩, hit, hne⟩ := st
    obtain ⟨xs, hq, hx⟩ := hg
    obtain ⟨fp, n, P, St, D, hst, mem, hn, hfp, hP, hSt⟩ := Sr.draws I (I.ok.hd hc) hq hit
    have hel : e < s.heap.objs.size := Heap.lt_size he
    have hil : it < s.heap.objs.size := by obtain ⟨_, q, _⟩ := Sr.own_obj (sr := sr) (i := i) hit; exact Heap.lt_size q
    have hef : e ∉ fp := fun hm => by
      rcases hfp e hm with z | ⟨ob, h1, h2⟩
      · exact hne z
      · rw [he] at h1
        cases h1
        rcases h2.1 with h2 | h2
        · exact absurd (show Value.type "enumerate" = .type "list" from h2) (by decide)
        · exact absurd (show Value.type "enumerate" = .type "tuple" from h2) (by decide)
    refine wpAny_pyNext_enum_itemD D he hst (by omega) hne hef fun u h' tk hu ho hit' hT hsz hk => ?_
    obtain ⟨x, hxu, ru⟩ := hP i u hu
    refine ⟨_, rfl, wpAny_letOwnedTupleGo_enum (s := { s with heap := h', toks := tk + 1 }) ho fun h'' he' sb => ?_⟩
    have hT2 : h''.get? s.heap.objs.size = some { cls := .type "tuple", data := .seq #[.int i tk, u] } := (sb.2 _ (Nat.ne_of_gt hel)).trans hT
    have new : ObjOk X.prog X.w (upd H s.heap.objs.size (.tup [.int (i : Nat), x])) h'' s.heap.objs.size (.tup [.int (i : Nat), x]) :=
      ⟨by show 2 ≤ sizeLine; decide, [.int i tk, u], .cons ⟨_, rfl⟩ (.cons ru .nil), ⟨_, hT2, rfl, _, rfl⟩⟩
    have I1 : Inv X pins σ (upd H s.heap.objs.size (.tup [.int (i : Nat), x])) { s with heap := h'', toks := tk + 1 } :=
      I.turnedNew (ch := [e, it]) (fun b ob hb q => (sb.2 b (fun z => hb (by simp [z]))).trans (hk b ob (fun z => hb (by simp [z])) (fun z => hb (by simp [z])) q)) hf (Nat.le_refl _) new
    refine ⟨.ref s.heap.objs.size, _, I1, rfl, ⟨_, x, rfl, I.hok.fresh (Nat.le_refl _), rfl, fun ws hw => by rw [Sr.inj I hw hq]; exact hxu⟩, ⟨⟨u, ?_⟩, Sr.own_at (hSt _ _ hit') fun o q => (sb.2 it (Ne.symm hne)).trans q, hne⟩, fun b hb => ?_⟩
    · have e1 : ((i + 1 : Nat) : Int) = (i : Int) + 1 := by omega
      rw [e1]; exact he'
    · have hb' : b < s.heap.objs.size := by
        have e' : b = e ∨ b = it := by simpa using hb
        rcases e' with z | z
        · rw [z]; exact hel
        · rw [z]; exact hil
      rw [upd_ne (Nat.ne_of_lt hb')]
      exact (hf b hb).1
  done := by
    intro X hP hw hK hc i pins s σ H E I hf st hg
    subst hP hw hK
    obtain ⟨⟨old, he⟩, hit, hne⟩ := st
    obtain ⟨xs, hq, hx⟩ := hg
    obtain ⟨fp, n, P, St, D, hst, mem, hn, hfp, hP, hSt⟩ := Sr.draws I (I.ok.hd hc) hq hit
    obtain ⟨f0, f1, f2, f3, f4, f5⟩ := hf it (by simp)
    have en : i = n := by omega
    subst en
    exact wpAny_pyNext_enum_endD D he hst fun h' eb => ⟨rfl, I.turned (t' := s.toks) (fun b o hb q => eb b o hb q) f0 f1 f3 f4 f5⟩
  self := fun A i s Q E st h => let ⟨⟨_, he⟩, _⟩ := st; wpAny_pyIter_enum he h

set_option maxHeartbeats 4000003 in
theorem meets_enumerate_new1 {v : Value} {o : Obj} {H : Heap → Prop} (B : Begins v o H) :
    Meets (Builtin.«enumerate.__new__» ⟨[.type "enumerate", v], []⟩) (fun _ R s => H s.heap ∧
      R (.ok (.ret (.ref (s.heap.push o).objs.size))) { s with heap := (s.heap.push o).push { cls := .type "enumerate", data := .fields #[.none, .bool false, .ref s.heap.objs.size, rawInt 0, .none, .none] } }) :=
  .of_wp fun prog w A R s h => by
    obtain ⟨hp, g, d, tk, os⟩ := s; obtain ⟨h1, h⟩ := h
    have hsub := sub_enumerate
    have q1 : ∀ {A' : Around} {E : Value → Shared → Prop} {Q : Value → Shared → Prop}, Q (.ref hp.objs.size) ⟨hp.push o, g, d, tk, os⟩ → wpAny (model prog w) A' (pyIter v) Q E ⟨hp, g, d, tk, os⟩ :=
      fun q => B.iter prog w _ _ ⟨hp, g, d, tk, os⟩ _ h1 q
    wp_walk using q1
    refine wpAny_stack_any fun st => wpAny_pure ?_
    split
    · rename_i c _ _ _ _ _
      cases (c == Value.type "enumerate")
      · wp_walk using q1
        exact ⟨_, rfl, h⟩
      · wp_walk using q1
        exact ⟨_, rfl, h⟩
    · wp_walk using q1
      exact ⟨_, rfl, h⟩
theorem enum_begins1 {prog : Program} {w : World} {A : Around} {E : Value → Shared → Prop} {s : Shared} {v : Value} {o : Obj} {H : Heap → Prop} {Q : Value → Shared → Prop} (B : Begins v o H) (h1 : H s.heap)
    (h : ∀ h', IsEnum h' (s.heap.objs.size + 1) s.heap.objs.size 0 .none → h'.get? s.heap.objs.size = some o → h'.objs.size = s.heap.objs.size + 2 →
      (∀ b o, s.heap.get? b = some o → h'.get? b = some o) → Q (.ref (s.heap.objs.size + 1)) { s with heap := h' }) :
    wpAny (model prog w) A (call (.type "enumerate") [v]) Q E s := by
  refine callType_new F.called_enumerate (by decide) (F.typeCall_enumerate_1 _) (F.newCall_enumerate_1 _) (fun obj => F.args_object_init_2 obj _) F.entry_enumerate_new
    (meets_enumerate_new1 B) ⟨h1, ?_⟩
  have hz : (s.heap.push o).objs.size = s.heap.objs.size + 1 := Heap.size_push ..
  show _ ∧ _
  rw [hz]
  have he : IsEnum ((s.heap.push o).push { cls := .type "enumerate", data := .fields #[.none, .bool false, .ref s.heap.objs.size, rawInt 0, .none, .none] }) (s.heap.objs.size + 1) s.heap.objs.size 0 .none := by
    have := Heap.get?_push_size (s.heap.push o) (o := { cls := .type "enumerate", data := .fields #[.none, .bool false, .ref s.heap.objs.size, rawInt 0, .none, .none] }) rfl
    rw [hz] at this; exact this
  refine ⟨⟨_, he, rfl⟩, h _ he (Heap.get?_push_of_some _ (Heap.get?_push_size _ B.free)) (by rw [Heap.size_push, hz]) fun b o x => Heap.get?_push_of_some _ (Heap.get?_push_of_some _ x)⟩
def iEnumE (K : PySem.W.Frag) (ta : TA) : TI := fun σ H R => ta σ H fun vs H1 => ∃ sr xs, vs = [Sr.val sr] ∧ sr.at_ K H1 xs ∧ R (ItE K sr) H1
theorem pi_enumE {X : Cx} {e : Expr} {ta : TA} {p pos tpos : Pos} {elts : List Expr} {kk : Nat} (hg : Gl X "enumerate") (hm : X.mg "enumerate" = none) (ha : PA X [e] ta) (hs : starEach [e] X.env = [(false, eval e X.env)]) :
    PI X (.Tuple elts kk tpos) (.Call (.Name "enumerate" p) [e] [] pos) (iEnumE X.K ta) := by
  refine ⟨fun pins s σ H R I h => ?_⟩
  refine Call_ (ld_blt I hg hm boot_enumerate (PyProof.Rows.callWith_type1 (thn (ha.run pos pins s σ H _ I h) fun us s1 ⟨vs, H1, I1, r1, q1⟩ => ?_) hs rfl))
  obtain ⟨sr, xs, ex, hq, q⟩ := q1
  subst ex
  cases r1 with
  | cons r rr =>
    cases rr
    obtain ⟨o, P, B, hP, hown⟩ := Sr.begins I1 hq r
    refine enum_begins1 B hP fun h' he hit hsz hk => wpAny_pyIter_enum he ?_
    have I2 : Inv X pins σ H1 { s1 with heap := h' } := I1.kept (t' := s1.toks) hk
    refine ⟨s1.heap.objs.size + 1, [s1.heap.objs.size + 1, s1.heap.objs.size], _, _, H1, rfl, I2, turn_enumE sr (s1.heap.objs.size + 1) s1.heap.objs.size, ⟨⟨.none, he⟩, hown _ _ hit, Nat.succ_ne_self _⟩, fun b hb => ?_, q⟩
    have e' : b = s1.heap.objs.size + 1 ∨ b = s1.heap.objs.size := by simpa using hb
    have hle : s1.heap.objs.size ≤ b := by
      rcases e' with z | z
      · rw [z]; exact Nat.le_add_right _ _
      · rw [z]; exact Nat.le_refl _
    exact I1.fpOk hle (I1.hok.fresh hle)

/-! ### zip -/
def ItZ (K : PySem.W.Frag) (s1 s2 : Sr) : It :=
  ⟨fun i H => ∃ xs ys : List V, s1.at_ K H xs ∧ s2.at_ K H ys ∧ i < xs.length ∧ i < ys.length,
   fun i H v H' => ∃ T x y, v = .ref T ∧ H T = none ∧ H' = upd H T (.tup [x, y]) ∧ (∀ xs : List V, s1.at_ K H xs → xs[i]? = some x) ∧ ∀ ys : List V, s2.at_ K H ys → ys[i]? = some y,
   fun i H => ∃ xs ys : List V, s1.at_ K H xs ∧ s2.at_ K H ys ∧ i ≤ xs.length ∧ i ≤ ys.length ∧ (i = xs.length ∨ i = ys.length)⟩
structure Apart (z TI TO i1 i2 : Addr) : Prop where
  TIz : TI ≠ z
  TOz : TO ≠ z
  TITO : TI ≠ TO
  TIi1 : TI ≠ i1
  TIi2 : TI ≠ i2
  TOi1 : TO ≠ i1
  TOi2 : TO ≠ i2
  zi1 : z ≠ i1
  zi2 : z ≠ i2
  ii : i1 ≠ i2
/-- the cells of a zip lie apart from what its iterators lean on -/
theorem sep_of {h : Heap} {z TI TO i1 i2 : Addr} {fp1 fp2 : List Addr} (D : Apart z TI TO i1 i2) {o1 o2 oz : Obj} (hz : h.get? z = some oz) (zc : oz.cls = .type "zip") (h1 : h.get? i1 = some o1) (c1 : o1.cls ≠ .type "list") (c1' : o1.cls ≠ .type "tuple") (h2 : h.get? i2 = some o2) (c2 : o2.cls ≠ .type "list") (c2' : o2.cls ≠ .type "tuple")
    (m1 : i1 ∈ fp1) (m2 : i2 ∈ fp2) (f1 : ∀ b ∈ fp1, b = i1 ∨ (b ≠ TO ∧ ∃ ob, h.get? b = some ob ∧ (ob.cls = .type "list" ∨ ob.cls = .type "tuple"))) (f2 : ∀ b ∈ fp2, b = i2 ∨ (b ≠ TO ∧ ∃ ob, h.get? b = some ob ∧ (ob.cls = .type "list" ∨ ob.cls = .type "tuple"))) : ZipSep2 z TI TO i1 i2 fp1 fp2 where
  TIz := D.TIz
  TOz := D.TOz
  TITO := D.TITO
  TIi1 := D.TIi1
  mem1 := m1
  zf1 := fun hm => by
    rcases f1 z hm with e | ⟨_, ob, e, c⟩
    · exact D.zi1 e
    · rw [hz] at e; cases e; rw [zc] at c; rcases c with c | c <;> exact absurd c (by decide)
  Tf1 := fun hm => by
    rcases f1 TO hm with e | ⟨e, _⟩
    · exact D.TOi1 e
    · exact e rfl
  TIi2 := D.TIi2
  mem2 := m2
  zf2 := fun hm => by
    rcases f2 z hm with e | ⟨_, ob, e, c⟩
    · exact D.zi2 e
    · rw [hz] at e; cases e; rw [zc] at c; rcases c with c | c <;> exact absurd c (by decide)
  Tf2 := fun hm => by
    rcases f2 TO hm with e | ⟨e, _⟩
    · exact D.TOi2 e
    · exact e rfl
  sep1_2 := fun hm => by
    rcases f2 i1 hm with e | ⟨_, ob, e, c⟩
    · exact D.ii e
    · rw [h1] at e; cases e; rcases c with c | c
      · exact c1 c
      · exact c1' c
  sep2_1 := fun hm => by
    rcases f1 i2 hm with e | ⟨_, ob, e, c⟩
    · exact D.ii e.symm
    · rw [h2] at e; cases e; rcases c with c | c
      · exact c2 c
      · exact c2' c
theorem turn_zipZ {P : Program} {w : World} {K : PySem.W.Frag} {elts : List Expr} {kk : Nat} {tpos : Pos} {s1 s2 : Sr} {z TI TO i1 i2 : Addr} (D : Apart z TI TO i1 i2) :
    Turn P w K (.Tuple elts kk tpos) (ItZ K s1 s2) [z, TI, TO, i1, i2] z (fun i h => IsZip h z TI TO .none ∧ IsTupOf2 h TI (.ref i1) (.ref i2) ∧ (∃ x y, IsTupOf2 h TO x y) ∧ s1.own i1 i h ∧ s2.own i2 i h) where
  mem := by simp
  obj := fun i h st c hc => by
    obtain ⟨hz, hTI, ⟨x, y, hTO⟩, h1, h2⟩ := st
    obtain ⟨o1, e1, ⟨f1, d1⟩, _⟩ := Sr.own_obj (sr := s1) (i := i) h1
    obtain ⟨o2, e2, ⟨f2, d2⟩, _⟩ := Sr.own_obj (sr := s2) (i := i) h2
    have e' : c = z ∨ c = TI ∨ c = TO ∨ c = i1 ∨ c = i2 := by simpa using hc
    rcases e' with q | q | q | q | q
    · rw [q]; exact ⟨_, hz, fun v q => nomatch q⟩
    · rw [q]; exact ⟨_, hTI, fun v q => nomatch q⟩
    · rw [q]; exact ⟨_, hTO, fun v q => nomatch q⟩
    · rw [q]; exact ⟨o1, e1, fun v q => by rw [d1] at q; cases q⟩
    · rw [q]; exact ⟨o2, e2, fun v q => by rw [d2] at q; cases q⟩
  keep := fun i h h' st k => by
    obtain ⟨hz, hTI, ⟨x, y, hTO⟩, h1, h2⟩ := st
    exact ⟨k z (by simp) _ hz, k TI (by simp) _ hTI, ⟨x, y, k TO (by simp) _ hTO⟩, Sr.own_at (sr := s1) h1 fun o q => k i1 (by simp) o q, Sr.own_at (sr := s2) h2 fun o q => k i2 (by simp) o q⟩
  item := by
    intro X hP hw hK hc i pins s σ H E I hf st hg
    subst hP hw hK
    obtain ⟨hz, hTI, ⟨x0, y0, hTO⟩, h1, h2⟩ := st
    obtain ⟨xs, ys, hqx, hqy, hx, hy⟩ := hg
    obtain ⟨fp1, n1, P1, St1, D1, st1, m1, en1, hf1, hP1, hS1⟩ := Sr.draws I (I.ok.hd hc) hqx h1
    obtain ⟨fp2, n2, P2, St2, D2, st2, m2, en2, hf2, hP2, hS2⟩ := Sr.draws I (I.ok.hd hc) hqy h2
    obtain ⟨o1, e1, _, c1, c1'⟩ := Sr.own_obj (sr := s1) (i := i) h1
    obtain ⟨o2, e2, _, c2, c2'⟩ := Sr.own_obj (sr := s2) (i := i) h2
    have S : ZipSep2 z TI TO i1 i2 fp1 fp2 := sep_of D hz rfl e1 c1 c1' e2 c2 c2' m1 m2
      (fun b hb => (hf1 b hb).imp id fun ⟨ob, q1, q2, q3⟩ => ⟨not_known I (hf TO (by simp)) q3, ob, q1, q2⟩) (fun b hb => (hf2 b hb).imp id fun ⟨ob, q1, q2, q3⟩ => ⟨not_known I (hf TO (by simp)) q3, ob, q1, q2⟩)
    have hzl : z < s.heap.objs.size := Heap.lt_size hz
    refine wpAny_pyNext_zipD2_item S D1 D2 hz hTI hTO st1 st2 (by omega) (by omega) fun u u2 h' tk hu hu2 z' TO' st1' st2' hT hsz hk => ?_
    obtain ⟨x, hxu, ru⟩ := hP1 i u hu
    obtain ⟨y, hyu, ru2⟩ := hP2 i u2 hu2
    refine ⟨_, rfl, wpAny_letOwnedTupleGo_zip (s := { s with heap := h', toks := tk }) z' fun h'' z'' sb => ?_⟩
    have hT2 : h''.get? s.heap.objs.size = some { cls := .type "tuple", data := .seq #[u, u2] } := (sb.2 _ (Nat.ne_of_gt hzl)).trans hT
    have new : ObjOk X.prog X.w (upd H s.heap.objs.size (.tup [x, y])) h'' s.heap.objs.size (.tup [x, y]) :=
      ⟨by show 2 ≤ sizeLine; decide, [u, u2], .cons ru (.cons ru2 .nil), ⟨_, hT2, rfl, _, rfl⟩⟩
    have I1 : Inv X pins σ (upd H s.heap.objs.size (.tup [x, y])) { s with heap := h'', toks := tk } :=
      I.turnedNew (ch := [z, TI, TO, i1, i2]) (fun c o hb q => (sb.2 c (fun q' => hb (by simp [q']))).trans (hk c o (fun q' => hb (by simp [q'])) (fun q' => hb (by simp [q'])) (fun q' => hb (by simp [q'])) (fun q' => hb (by simp [q'])) q)) hf (Nat.le_refl _) new
    refine ⟨.ref s.heap.objs.size, _, I1, rfl, ⟨_, x, y, rfl, I.hok.fresh (Nat.le_refl _), rfl, fun ws hw => by rw [Sr.inj I hw hqx]; exact hxu, fun ws hw => by rw [Sr.inj I hw hqy]; exact hyu⟩, ⟨z'', ?_, ⟨u, u2, ?_⟩, ?_, ?_⟩, fun c hcm => ?_⟩
    · exact (sb.2 _ D.TIz).trans (hk _ _ D.TIz D.TITO D.TIi1 D.TIi2 hTI)
    · exact (sb.2 _ D.TOz).trans TO'
    · exact Sr.own_at (hS1 _ _ st1') fun o q => (sb.2 _ (Ne.symm D.zi1)).trans q
    · exact Sr.own_at (hS2 _ _ st2') fun o q => (sb.2 _ (Ne.symm D.zi2)).trans q
    · have hlt : c < s.heap.objs.size := by
        have e' : c = z ∨ c = TI ∨ c = TO ∨ c = i1 ∨ c = i2 := by simpa using hcm
        rcases e' with q | q | q | q | q
        · rw [q]; exact hzl
        · rw [q]; exact Heap.lt_size hTI
        · rw [q]; exact Heap.lt_size hTO
        · rw [q]; exact Heap.lt_size e1
        · rw [q]; exact Heap.lt_size e2
      rw [upd_ne (Nat.ne_of_lt hlt)]
      exact (hf c hcm).1
  done := by
    intro X hP hw hK hc i pins s σ H E I hf st hg
    subst hP hw hK
    obtain ⟨hz, hTI, ⟨x0, y0, hTO⟩, h1, h2⟩ := st
    obtain ⟨xs, ys, hqx, hqy, hx, hy, hend⟩ := hg
    obtain ⟨fp1, n1, P1, St1, D1, st1, m1, en1, hf1, hP1, hS1⟩ := Sr.draws I (I.ok.hd hc) hqx h1
    obtain ⟨fp2, n2, P2, St2, D2, st2, m2, en2, hf2, hP2, hS2⟩ := Sr.draws I (I.ok.hd hc) hqy h2
    obtain ⟨o1, e1, _, c1, c1'⟩ := Sr.own_obj (sr := s1) (i := i) h1
    obtain ⟨o2, e2, _, c2, c2'⟩ := Sr.own_obj (sr := s2) (i := i) h2
    have S : ZipSep2 z TI TO i1 i2 fp1 fp2 := sep_of D hz rfl e1 c1 c1' e2 c2 c2' m1 m2
      (fun b hb => (hf1 b hb).imp id fun ⟨ob, q1, q2, q3⟩ => ⟨not_known I (hf TO (by simp)) q3, ob, q1, q2⟩) (fun b hb => (hf2 b hb).imp id fun ⟨ob, q1, q2, q3⟩ => ⟨not_known I (hf TO (by simp)) q3, ob, q1, q2⟩)
    refine wpAny_pyNext_zipD2_end S D1 D2 hz hTI hTO st1 st2 (by omega) (by omega) (by omega) fun h' tk hk => ⟨rfl, I.turnedL (ch := [z, TI, TO, i1, i2]) (fun c o hb q =>
      hk c o (fun q' => hb (by simp [q'])) (fun q' => hb (by simp [q'])) (fun q' => hb (by simp [q'])) (fun q' => hb (by simp [q'])) q) hf⟩
  self := fun A i s Q E st h => wpAny_pyIter_zip st.1 h
def iZipZ (K : PySem.W.Frag) (ta : TA) : TI := fun σ H R => ta σ H fun vs H1 => ∃ s1 s2 xs ys, vs = [Sr.val s1, Sr.val s2] ∧ s1.at_ K H1 xs ∧ s2.at_ K H1 ys ∧ R (ItZ K s1 s2) H1
theorem pi_zipZ {X : Cx} {e e2 : Expr} {ta : TA} {p pos tpos : Pos} {elts : List Expr} {kk : Nat} (hg : Gl X "zip") (hm : X.mg "zip" = none) (ha : PA X [e, e2] ta)
    (hs : starEach [e, e2] X.env = (false, eval e X.env) :: starEach [e2] X.env) (hpl : (backTo pos (starEach [e2] X.env)).any (·.1) = false) :
    PI X (.Tuple elts kk tpos) (.Call (.Name "zip" p) [e, e2] [] pos) (iZipZ X.K ta) := by
  refine ⟨fun pins s σ H R I h => ?_⟩
  refine Call_ (ld_blt I hg hm PyProof.Rows.boot_zip (PyProof.Rows.callWith_type1 (thn (ha.run pos pins s σ H _ I h) fun us s1 ⟨vs, H1, I1, r1, q1⟩ => ?_) hs hpl))
  obtain ⟨a, b, xs, ys, ex, hqx, hqy, q⟩ := q1
  subst ex
  cases r1 with
  | cons r rr =>
    cases rr with
    | cons r' rr =>
      cases rr
      obtain ⟨o1, P1, B1, hP1, w1⟩ := Sr.begins I1 hqx r
      obtain ⟨o2, P2, B2, hP2, w2⟩ := Sr.begins I1 hqy r'
      refine zip_begins2 B1 B2 hP1 hP2 fun h' hz hTI hTO h1 h2 hsz hk => wpAny_pyIter_zip hz ?_
      have I2 : Inv X pins σ H1 { s1 with heap := h' } := I1.kept (t' := s1.toks) hk
      have N : ∀ (i j : Nat), i ≠ j → (s1.heap.objs.size + i : Nat) ≠ s1.heap.objs.size + j := fun i j e z => e (Nat.add_left_cancel z)
      have N0 : ∀ (i : Nat), i ≠ 0 → (s1.heap.objs.size + i : Nat) ≠ s1.heap.objs.size := fun i e z => e (by omega)
      refine ⟨s1.heap.objs.size + 4, [s1.heap.objs.size + 4, s1.heap.objs.size + 2, s1.heap.objs.size + 3, s1.heap.objs.size, s1.heap.objs.size + 1], _, _, H1, rfl, I2,
        turn_zipZ ⟨N 2 4 (by decide), N 3 4 (by decide), N 2 3 (by decide), N0 2 (by decide), N 2 1 (by decide), N0 3 (by decide), N 3 1 (by decide), N0 4 (by decide), N 4 1 (by decide), (N0 1 (by decide)).symm⟩, ⟨hz, hTI, ⟨_, _, hTO⟩, w1 _ _ h1, w2 _ _ h2⟩, fun c hcm => ?_, q⟩
      have e' : c = s1.heap.objs.size + 4 ∨ c = s1.heap.objs.size + 2 ∨ c = s1.heap.objs.size + 3 ∨ c = s1.heap.objs.size ∨ c = s1.heap.objs.size + 1 := by simpa using hcm
      have hle : s1.heap.objs.size ≤ c := by
        rcases e' with z | z | z | z | z
        · rw [z]; exact Nat.le_add_right _ _
        · rw [z]; exact Nat.le_add_right _ _
        · rw [z]; exact Nat.le_add_right _ _
        · rw [z]; exact Nat.le_refl _
        · rw [z]; exact Nat.le_add_right _ _
      exact I1.fpOk hle (I1.hok.fresh hle)
end PF
end
section
set_option Elab.async false
set_option linter.all false
set_option maxRecDepth 100003
set_option maxHeartbeats 2000003
set_option autoImplicit false
namespace PF
open PySem L2
section
variable {nm : Nm} {X : Cx} {M M' : List Addr} {H H' : Hp} {S S' S1 : Sto} {ρ : Env} {σ : L2.St} {Q : VK} {d : D}
/-! ### targets -/
/-- a target of names: the slots that it stores -/
def GOk (nm : Nm) (X : Cx) (tg : TG) (g : G) (is : List Nat) : Prop := ∀ (M : List Addr) (H : Hp) (S : Sto) (d : D) (x : V) (ρ ρ1 : Env) (σ : L2.St) (P : L2.St → Hp → Prop), RelS nm X.K X.mg M S H → RelD X.K M H d x → RelE X.K M H ρ σ → g d ρ = some ρ1 →
  (∀ σ1, RelE X.K M H ρ1 σ1 → (∀ vs : List Nat, (∀ i ∈ is, i ∈ vs) → L2.wipe σ1 vs = L2.wipe σ vs) → P σ1 H) → tg x σ H P
theorem RelE.set {K : PySem.W.Frag} {x : V} {i : Nat} (re : RelE K M H ρ σ) (q : RelD K M H d x) : RelE K M H (ρ.set i (some d)) (σ.set i (some x)) := by
  refine ⟨by simp [re.len], fun j d' hj => ?_⟩
  by_cases e : j = i
  · subst e
    by_cases hl : j < ρ.length
    · rw [List.getElem?_set_self hl] at hj
      cases hj
      exact ⟨x, by rw [List.getElem?_set_self (by rw [← re.len]; exact hl)], q⟩
    · rw [List.getElem?_eq_none (by simpa using hl)] at hj
      cases hj
  · rw [List.getElem?_set_ne (Ne.symm e)] at hj
    obtain ⟨v, h1, h2⟩ := re.at_ j d' hj
    exact ⟨v, by rw [List.getElem?_set_ne (Ne.symm e)]; exact h1, h2⟩
theorem wipe_set {i : Nat} {x : Option V} : ∀ {vs : List Nat} (σ : L2.St), i ∈ vs → L2.wipe (σ.set i x) vs = L2.wipe σ vs
  | [], _, h => by cases h
  | v :: vs, σ, h => by
    show (L2.wipe (σ.set i x) vs).set v none = (L2.wipe σ vs).set v none
    by_cases hv : i ∈ vs
    · rw [wipe_set σ hv]
    · have e : i = v := by rcases List.mem_cons.mp h with e | e; exact e; exact absurd e hv
      subst e
      have out : ∀ (ws : List Nat) (τ : L2.St), i ∉ ws → L2.wipe (τ.set i x) ws = (L2.wipe τ ws).set i x := by
        intro ws
        induction ws with
        | nil => intro τ _; rfl
        | cons w ws ih =>
          intro τ hw
          show (L2.wipe (τ.set i x) ws).set w none = ((L2.wipe τ ws).set w none).set i x
          rw [ih τ (fun z => hw (List.mem_cons_of_mem _ z))]
          have ne : i ≠ w := fun z => hw (z ▸ List.mem_cons_self)
          rw [List.set_comm _ _ ne]
      rw [out vs σ hv, List.set_set]
theorem wipe_wipe (vs : List Nat) (σ : L2.St) : L2.wipe (L2.wipe σ vs) vs = L2.wipe σ vs := by
  have gen : ∀ (ws : List Nat), (∀ i ∈ ws, i ∈ vs) → L2.wipe (L2.wipe σ ws) vs = L2.wipe σ vs := by
    intro ws
    induction ws with
    | nil => intro _; rfl
    | cons w ws ih =>
      intro h
      show L2.wipe ((L2.wipe σ ws).set w none) vs = _
      rw [wipe_set _ (h w List.mem_cons_self)]
      exact ih fun i hi => h i (List.mem_cons_of_mem _ hi)
  exact gen vs fun _ h => h
theorem RelE.wipe {K : PySem.W.Frag} (re : RelE K M H ρ σ) : ∀ vs : List Nat, RelE K M H (PF.wipe ρ vs) (L2.wipe σ vs)
  | [] => re
  | v :: vs => by
    have ih := RelE.wipe re vs
    show RelE K M H ((PF.wipe ρ vs).set v none) ((L2.wipe σ vs).set v none)
    refine ⟨by simp [ih.len], fun j d' hj => ?_⟩
    by_cases e : j = v
    · subst e
      by_cases hl : j < (PF.wipe ρ vs).length
      · rw [List.getElem?_set_self hl] at hj; cases hj
      · rw [List.getElem?_eq_none (by simpa using hl)] at hj; cases hj
    · rw [List.getElem?_set_ne (Ne.symm e)] at hj
      obtain ⟨u, h1, h2⟩ := ih.at_ j d' hj
      exact ⟨u, by rw [List.getElem?_set_ne (Ne.symm e)]; exact h1, h2⟩
theorem gok_name (i : Nat) : GOk nm X (L2.gName i) (PF.gName i) [i] := by
  intro M H S d x ρ ρ1 σ P rs q re h k
  cases h
  exact k _ (re.set q) fun vs hv => wipe_set σ (hv i List.mem_cons_self)
/-- names in a row -/
def gSlots : List Nat → TGs
  | [] => gNil
  | i :: is => gCons (L2.gName i) (gSlots is)
theorem setAll_len : ∀ {is : List Nat} {ds : List D} {ρ ρ1 : Env}, setAll is ds ρ = some ρ1 → ds.length = is.length
  | [], [], _, _, _ => rfl
  | i :: is, d :: ds, ρ, ρ1, h => by
    unfold setAll at h
    simp [setAll_len h]
  | [], _ :: _, _, _, h => by cases h
  | _ :: _, [], _, _, h => by cases h
theorem slots_read {K : PySem.W.Frag} : ∀ {is : List Nat} {ds : List D} {vs : List V} {ρ ρ1 : Env} {σ : L2.St} {P : L2.St → Hp → Prop}, RelDs K M H ds vs → RelE K M H ρ σ → setAll is ds ρ = some ρ1 →
    (∀ σ1, RelE K M H ρ1 σ1 → (∀ ws : List Nat, (∀ i ∈ is, i ∈ ws) → L2.wipe σ1 ws = L2.wipe σ ws) → P σ1 H) → gSlots is vs σ H P
  | [], [], _, _, _, σ, P, q, re, h, k => by
    unfold RelDs at q
    subst q
    cases h
    exact ⟨rfl, k σ re fun _ _ => rfl⟩
  | i :: is, d :: ds, _, ρ, ρ1, σ, P, q, re, h, k => by
    unfold RelDs at q
    obtain ⟨v, r, rfl, q1, q2⟩ := q
    unfold setAll at h
    refine ⟨v, r, rfl, ?_⟩
    show gSlots is r (σ.set i (some v)) H P
    refine slots_read q2 (re.set q1) h fun σ1 r1 w => k σ1 r1 fun ws hw => ?_
    rw [w ws fun j hj => hw j (List.mem_cons_of_mem _ hj), wipe_set σ (hw i List.mem_cons_self)]
  | [], _ :: _, _, _, _, _, _, _, _, h, _ => by cases h
  | _ :: _, [], _, _, _, _, _, _, _, h, _ => by cases h
theorem gok_tup {is : List Nat} : GOk nm X (L2.gTup X.K is.length (gSlots is)) (PF.gTup is) is := by
  intro M H S d x ρ ρ1 σ P rs q re h k
  unfold PF.gTup at h
  cases d with
  | tup ds =>
    obtain ⟨a, vs, rfl, ha, qa⟩ := q.tup
    exact ⟨a, vs, rfl, ha, by rw [← qa.length]; exact setAll_len h, slots_read qa re h k⟩
  | _ => cases h

/-! ### what is walked -/
structure WalkJ (nm : Nm) (X : Cx) (J : It) (M : List Addr) (H : Hp) (it : Iter) : Prop where
  go : ∀ (i : Nat) (M2 : List Addr) (H2 : Hp) (S2 : Sto), Ext M H M2 H2 → RelS nm X.K X.mg M2 S2 H2 → it.same S2 = true → i < it.all.length → J.go i H2
  yld : ∀ (i : Nat) (d : D) (M2 : List Addr) (H2 : Hp) (S2 : Sto) (x : V) (H3 : Hp), Ext M H M2 H2 → RelS nm X.K X.mg M2 S2 H2 → it.same S2 = true → it.all[i]? = some d → J.yld i H2 x H3 → Ext M2 H2 M2 H3 ∧ RelS nm X.K X.mg M2 S2 H3 ∧ RelD X.K M2 H3 d x
  stop : ∀ (i : Nat) (M2 : List Addr) (H2 : Hp) (S2 : Sto), Ext M H M2 H2 → RelS nm X.K X.mg M2 S2 H2 → it.same S2 = true → it.all.length = i → J.stop i H2
def rI (nm : Nm) (X : Cx) (f : I) : TI := fun σ H R => ∃ M ρ S it S', RelS nm X.K X.mg M S H ∧ RelE X.K M H ρ σ ∧ f ρ S = .ok it S' ∧ ∀ M' H' J, Ext M H M' H' → RelS nm X.K X.mg M' S' H' → WalkJ nm X J M' H' it → R J H'
abbrev PXI (nm : Nm) (X : Cx) (tg e : Expr) (f : I) : Prop := PI X tg e (rI nm X f)
theorem PI.imp {tg e : Expr} {t u : TI} (h : PI X tg e t) (i : ∀ σ H R, u σ H R → t σ H R) : PI X tg e u := ⟨fun pins s σ H R I q => h.run pins s σ H R I (i σ H R q)⟩
/-- a thing to be walked, as it lies -/
theorem sr_of (rs : RelS nm X.K X.mg M S H) {x : D} {v : V} {ds : List D} (q : RelD X.K M H x v) (h : seqZ x S = some ds) :
    ∃ sr : Sr, v = sr.val ∧ ∀ (M2 : List Addr) (H2 : Hp) (S2 : Sto), Ext M H M2 H2 → RelS nm X.K X.mg M2 S2 H2 → (chkOf x S).all (fun p => decide (lstOf p.1 S2 = some p.2)) = true → ∃ vs, sr.at_ X.K H2 vs ∧ RelDs X.K M2 H2 ds vs := by
  unfold seqZ at h
  cases x with
  | str s =>
    cases h
    refine ⟨.txt (strOf s), q.str, fun M2 H2 S2 e r c => ⟨_, rfl, ?_⟩⟩
    rw [strOf_toList]
    unfold charsD
    clear q c r e
    induction s with
    | nil => exact .nil
    | cons a t ih => exact .cons .mkS ih
  | tup es =>
    cases h
    obtain ⟨a, vs, rfl, ha, qa⟩ := q.tup
    exact ⟨.tup a, rfl, fun M2 H2 S2 e r c => ⟨vs, SqT.ext rs e ha, RelDs.ext rs e qa⟩⟩
  | ref n =>
    obtain ⟨a, rfl, ha⟩ := q.ref
    have h : lstOf n S = some ds := h
    refine ⟨.lst a, rfl, fun M2 H2 S2 e r c => ?_⟩
    have ec : chkOf (.ref n) S = [(n, ds)] := by simp [chkOf, h]
    rw [ec] at c
    have c' : lstOf n S2 = some ds := by simpa using c
    exact r.lst (e.get ha) c'
  | _ => cases h
theorem at_inj {K : PySem.W.Frag} {P : Program} {w : World} {sr : Sr} {pins : List (Addr × Obj)} {s : Shared} {vs us : List V} : True := trivial
/-- what two readings of a list or a tuple have in common: its length, its items, by a state in which it lies -/
theorem seqOf_Z {x : D} {ds : List D} (h : seqOf x S = some ds) : seqZ x S = some ds := by
  unfold seqZ
  cases x with
  | str s => cases h
  | _ => exact h
theorem same_app {l r : List (Nat × List D)} {f : Nat × List D → Bool} (h : (l ++ r).all f = true) : l.all f = true ∧ r.all f = true := by
  rw [List.all_append, Bool.and_eq_true] at h
  exact h
/-- over a list or a tuple -/
theorem pi_seq {l tg : Expr} {tl : TE} (hl : PE X l tl) : PI X tg l (fun σ H R => tl σ H fun x H1 => ∃ a, x = .ref a ∧ ((∃ xs, SqL X.K H1 a xs ∧ R (Itl X.K a) H1) ∨ ∃ xs, SqT X.K H1 a xs ∧ R (Itt X.K a) H1)) := by
  refine ⟨fun pins s σ H R I h => ?_⟩
  refine thn (hl.run pins s σ H _ I h) fun v s1 ⟨x, H1, I1, r1, q1⟩ => ?_
  obtain ⟨a, e, q1⟩ := q1
  subst e
  cases r1
  rcases q1 with ⟨xs, hq, q⟩ | ⟨xs, hq, q⟩
  · obtain ⟨its, rv, p, hz⟩ := I1.list hq
    refine wpAny_pyIter_list p.isList ?_
    refine ⟨s1.heap.objs.size, [s1.heap.objs.size], _, _, H1, rfl, I1.kept (t' := s1.toks) fun b o e => Heap.get?_push_of_some _ e, turn_list a _, ⟨_, Heap.get?_push_size _ rfl, rfl, rfl⟩, fun b hb => ?_, q⟩
    have e : b = s1.heap.objs.size := by simpa using hb
    subst e
    exact I1.fpOk (Nat.le_refl _) (I1.hok.fresh (Nat.le_refl _))
  · obtain ⟨its, rv, p, hz⟩ := I1.tuple hq
    refine wpAny_pyIter_tuple (show s1.heap.IsTuple a its.toArray from p) ?_
    refine ⟨s1.heap.objs.size, [s1.heap.objs.size], _, _, H1, rfl, I1.kept (t' := s1.toks) fun b o e => Heap.get?_push_of_some _ e, turn_tuple a _, ⟨_, Heap.get?_push_size _ rfl, rfl, rfl⟩, fun b hb => ?_, q⟩
    have e : b = s1.heap.objs.size := by simpa using hb
    subst e
    exact I1.fpOk (Nat.le_refl _) (I1.hok.fresh (Nat.le_refl _))
theorem pxi_seq {l tg : Expr} {f : E} (hl : PX nm X l f) : PXI nm X tg l (iSeq f) :=
  PI.imp (pi_seq hl) fun σ H R ⟨M, ρ, S, it, S', rs, re, h, k⟩ => by
    unfold iSeq at h
    obtain ⟨x, S1, h1, h⟩ := bind_inv h
    split at h
    · rename_i ds eds
      cases h
      refine rE.go rs re h1 fun M1 H1 v e1 r1 q1 => ?_
      obtain ⟨sr, ev, cur⟩ := sr_of r1 q1 (seqOf_Z eds)
      have cur' : ∀ (M2 : List Addr) (H2 : Hp) (S2 : Sto), Ext M1 H1 M2 H2 → RelS nm X.K X.mg M2 S2 H2 → (⟨chkOf x S', ds⟩ : Iter).same S2 = true → ∃ vs, sr.at_ X.K H2 vs ∧ RelDs X.K M2 H2 ds vs := fun M2 H2 S2 e r c => cur M2 H2 S2 e r c
      have c0 : (⟨chkOf x S', ds⟩ : Iter).same S' = true := by
        unfold Iter.same chkOf
        cases x with
        | ref n =>
          have eds : lstOf n S' = some ds := eds
          simp [eds]
        | _ => rfl
      obtain ⟨vs0, at0, _⟩ := cur' M1 H1 _ Ext.refl r1 c0
      cases sr with
      | lst a =>
        refine ⟨a, ev, .inl ⟨vs0, at0, k M1 H1 _ e1 r1 ⟨fun i M2 H2 S2 e r c hi => ?_, fun i d M2 H2 S2 x H3 e r c hd y => ?_, fun i M2 H2 S2 e r c hi => ?_⟩⟩⟩
        · obtain ⟨vs, ka, qa⟩ := cur' M2 H2 S2 e r c
          have hl : i < vs.length := by rw [← qa.length]; exact hi
          exact ⟨vs, vs[i], ka, by simp [hl]⟩
        · obtain ⟨vs, ka, qa⟩ := cur' M2 H2 S2 e r c
          obtain ⟨y1, y2⟩ := y
          subst y1
          obtain ⟨v, h1, h2⟩ := qa.get hd
          have h3 := y2 vs ka
          rw [h1] at h3
          cases h3
          exact ⟨Ext.refl, r, h2⟩
        · obtain ⟨vs, ka, qa⟩ := cur' M2 H2 S2 e r c
          exact ⟨vs, ka, by rw [← qa.length]; exact Nat.le_of_eq hi⟩
      | tup a =>
        refine ⟨a, ev, .inr ⟨vs0, at0, k M1 H1 _ e1 r1 ⟨fun i M2 H2 S2 e r c hi => ?_, fun i d M2 H2 S2 x H3 e r c hd y => ?_, fun i M2 H2 S2 e r c hi => ?_⟩⟩⟩
        · obtain ⟨vs, ka, qa⟩ := cur' M2 H2 S2 e r c
          have hl : i < vs.length := by rw [← qa.length]; exact hi
          exact ⟨vs, vs[i], ka, by simp [hl]⟩
        · obtain ⟨vs, ka, qa⟩ := cur' M2 H2 S2 e r c
          obtain ⟨y1, y2⟩ := y
          subst y1
          obtain ⟨v, h1, h2⟩ := qa.get hd
          have h3 := y2 vs ka
          rw [h1] at h3
          cases h3
          exact ⟨Ext.refl, r, h2⟩
        · obtain ⟨vs, ka, qa⟩ := cur' M2 H2 S2 e r c
          exact ⟨vs, ka, by rw [← qa.length]; exact Nat.le_of_eq hi⟩
      | txt z =>
        cases x with
        | str s => cases eds
        | tup es => obtain ⟨a, vs, ev2, _⟩ := q1.tup; rw [ev] at ev2; cases ev2
        | ref n => obtain ⟨a, ev2, _⟩ := q1.ref; rw [ev] at ev2; cases ev2
        | _ => cases eds
    · cases h
/-! ranges -/
theorem range_get {lo hi : Int} {i : Nat} {d : D} (h : (rangeD lo hi)[i]? = some d) : i < (hi - lo).toNat ∧ d = .int (lo + (i : Int)) := by
  unfold rangeD at h
  rw [List.getElem?_map] at h
  cases e : (List.range (hi - lo).toNat)[i]? with
  | none => rw [e] at h; cases h
  | some j =>
    rw [e] at h
    cases h
    obtain ⟨h1, h2⟩ := List.getElem?_eq_some_iff.mp e
    rw [List.length_range] at h1
    rw [List.getElem_range] at h2
    subst h2
    exact ⟨h1, rfl⟩
theorem range_len (lo hi : Int) : (rangeD lo hi).length = (hi - lo).toNat := by unfold rangeD; simp
theorem walk_rng {lo hi : Int} {chk : List (Nat × List D)} : WalkJ nm X (Itr lo (hi - lo).toNat) M H ⟨chk, rangeD lo hi⟩ := by
  refine ⟨fun i M2 H2 S2 e r c hi => ?_, fun i d M2 H2 S2 x H3 e r c hd y => ?_, fun i M2 H2 S2 e r c hi => ?_⟩
  · have hi : i < (rangeD lo _).length := hi
    rw [range_len] at hi
    exact hi
  · obtain ⟨y1, y2⟩ := y
    subst y1
    obtain ⟨h1, h2⟩ := range_get hd
    subst h2
    rw [y2]
    exact ⟨Ext.refl, r, .mkI⟩
  · have hi : (rangeD lo _).length = i := hi
    rw [range_len] at hi
    exact Nat.le_of_eq hi
theorem pxi_range1 {a tg : Expr} {f : E} {p pos : Pos} (hg : Gl X "range") (hm : X.mg "range" = none) (ha : PX nm X a f) (hs : starEach [a] X.env = [(false, eval a X.env)]) : PXI nm X tg (.Call (.Name "range" p) [a] [] pos) (iRange1 f) :=
  PI.imp (pi_range1 hg hm (pa_cons ha pa_nil hs) hs) fun σ H R ⟨M, ρ, S, it, S', rs, re, h, k⟩ => by
    unfold iRange1 at h
    obtain ⟨x, S1, h1, h⟩ := bind_inv h
    refine rE.go rs re h1 fun M1 H1 v e1 r1 q1 => ?_
    cases x with
    | int j =>
      dsimp only at h
      split at h
      · rename_i c
        cases h
        have w := k M1 H1 (Itr 0 (j - 0).toNat) e1 r1 walk_rng
        rw [Int.sub_zero] at w
        exact ⟨j, by rw [q1.int], c.1, c.2, w⟩
      · cases h
    | _ => cases h
theorem pxi_range2 {a b tg : Expr} {f g : E} {p pos : Pos} (hg : Gl X "range") (hm : X.mg "range" = none) (ha : PX nm X a f) (hb : PX nm X b g) (hs : starEach [a, b] X.env = [(false, eval a X.env), (false, eval b X.env)]) (hs2 : starEach [b] X.env = [(false, eval b X.env)]) : PXI nm X tg (.Call (.Name "range" p) [a, b] [] pos) (iRange2 f g) :=
  PI.imp (pi_range2 hg hm (pa_cons ha (pa_cons hb pa_nil hs2) (by rw [hs, hs2])) hs hs2) fun σ H R ⟨M, ρ, S, it, S', rs, re, h, k⟩ => by
    unfold iRange2 at h
    obtain ⟨x, S1, h1, h⟩ := bind_inv h
    obtain ⟨y, S2, h2, h⟩ := bind_inv h
    refine rE.go rs re h1 fun M1 H1 v e1 r1 q1 => ?_
    refine rE.go r1 (re.ext rs e1) h2 fun M2 H2 u e2 r2 q2 => ?_
    cases x with
    | int i =>
      cases y with
      | int j =>
        dsimp only at h
        split at h
        · rename_i c
          cases h
          exact ⟨i, j, by rw [q1.int, q2.int], c, k M2 H2 _ (e1.trans e2) r2 walk_rng⟩
        · cases h
      | _ => cases h
    | _ => cases h
/-! enumerate, zip -/
theorem enum_get : ∀ {ds : List D} {k i : Nat} {d : D}, (enumD k ds)[i]? = some d → ∃ e, ds[i]? = some e ∧ d = .tup [.int ((k + i : Nat) : Int), e]
  | [], _, _, _, h => by simp [enumD] at h
  | x :: xs, k, 0, d, h => by
    simp [enumD] at h
    exact ⟨x, rfl, h.symm⟩
  | x :: xs, k, i + 1, d, h => by
    simp only [enumD, List.getElem?_cons_succ] at h
    obtain ⟨e, h1, h2⟩ := enum_get h
    exact ⟨e, by simpa using h1, by rw [h2, show k + 1 + i = k + (i + 1) by omega]⟩
theorem enum_len : ∀ (ds : List D) (k : Nat), (enumD k ds).length = ds.length
  | [], _ => rfl
  | x :: xs, k => by simp [enumD, enum_len xs]
/-- a new pair that the turn makes -/
theorem pair_new {T : Addr} {a b : D} {x y : V} (r : RelS nm X.K X.mg M S H) (hT : H T = none) (q1 : RelD X.K M H a x) (q2 : RelD X.K M H b y) : Ext M H M (upd H T (.tup [x, y])) ∧ RelS nm X.K X.mg M S (upd H T (.tup [x, y])) ∧ RelD X.K M (upd H T (.tup [x, y])) (.tup [a, b]) (.ref T) := by
  refine ⟨Ext.tup hT, r.tup hT, ?_⟩
  unfold RelD
  exact ⟨T, [x, y], rfl, .inl (.inl upd_same), .cons (RelD.ext r (Ext.tup hT) q1) (.cons (RelD.ext r (Ext.tup hT) q2) .nil)⟩
theorem chk_now (x : D) (S : Sto) : (chkOf x S).all (fun p => decide (lstOf p.1 S = some p.2)) = true := by
  unfold chkOf
  cases x with
  | ref n =>
    cases e : lstOf n S with
    | none => simp [e]
    | some ds => simp [e]
  | _ => rfl
theorem pxi_enum {a : Expr} {f : E} {p pos tpos : Pos} {elts : List Expr} {kk : Nat} (hg : Gl X "enumerate") (hm : X.mg "enumerate" = none) (ha : PX nm X a f) (hs : starEach [a] X.env = [(false, eval a X.env)]) : PXI nm X (.Tuple elts kk tpos) (.Call (.Name "enumerate" p) [a] [] pos) (iEnum f) :=
  PI.imp (pi_enumE hg hm (pa_cons ha pa_nil hs) hs) fun σ H R ⟨M, ρ, S, it, S', rs, re, h, k⟩ => by
    unfold iEnum at h
    obtain ⟨x, S1, h1, h⟩ := bind_inv h
    split at h
    · rename_i ds eds
      cases h
      refine rE.go rs re h1 fun M1 H1 v e1 r1 q1 => ?_
      obtain ⟨sr, ev, cur⟩ := sr_of r1 q1 eds
      subst ev
      obtain ⟨vs0, at0, _⟩ := cur M1 H1 _ Ext.refl r1 (chk_now x _)
      refine ⟨sr, vs0, rfl, at0, k M1 H1 _ e1 r1 ⟨fun i M2 H2 S2 e r c hi => ?_, fun i d M2 H2 S2 x H3 e r c hd y => ?_, fun i M2 H2 S2 e r c hi => ?_⟩⟩
      · obtain ⟨vs, ka, qa⟩ := cur M2 H2 S2 e r c
        have hi : i < (enumD 0 ds).length := hi
        rw [enum_len, qa.length] at hi
        exact ⟨vs, ka, hi⟩
      · obtain ⟨vs, ka, qa⟩ := cur M2 H2 S2 e r c
        obtain ⟨T, u, rfl, hT, rfl, y4⟩ := y
        obtain ⟨d', h1, h2⟩ := enum_get hd
        obtain ⟨w, h3, h4⟩ := qa.get h1
        have h5 := y4 vs ka
        rw [h3] at h5
        cases h5
        rw [h2, Nat.zero_add]
        exact pair_new r hT .mkI h4
      · obtain ⟨vs, ka, qa⟩ := cur M2 H2 S2 e r c
        have hi : (enumD 0 ds).length = i := hi
        rw [enum_len, qa.length] at hi
        exact ⟨vs, ka, hi⟩
    · cases h
theorem zip_get : ∀ {xs ys : List D} {i : Nat} {d : D}, (zipD xs ys)[i]? = some d → ∃ a b, xs[i]? = some a ∧ ys[i]? = some b ∧ d = .tup [a, b]
  | [], _, _, _, h => by simp [zipD] at h
  | _ :: _, [], _, _, h => by simp [zipD] at h
  | x :: xs, y :: ys, 0, d, h => by
    simp [zipD] at h
    exact ⟨x, y, rfl, rfl, h.symm⟩
  | x :: xs, y :: ys, i + 1, d, h => by
    simp only [zipD, List.getElem?_cons_succ] at h
    obtain ⟨a, b, h1, h2, h3⟩ := zip_get h
    exact ⟨a, b, by simpa using h1, by simpa using h2, h3⟩
theorem zip_len : ∀ (xs ys : List D), (zipD xs ys).length = min xs.length ys.length
  | [], _ => by simp [zipD]
  | _ :: _, [] => by simp [zipD]
  | x :: xs, y :: ys => by simp [zipD, zip_len xs ys]
theorem pxi_zip {a b : Expr} {f g : E} {p pos tpos : Pos} {elts : List Expr} {kk : Nat} (hg : Gl X "zip") (hm : X.mg "zip" = none) (ha : PX nm X a f) (hb : PX nm X b g) (hs : starEach [a, b] X.env = (false, eval a X.env) :: starEach [b] X.env) (hs2 : starEach [b] X.env = (false, eval b X.env) :: starEach [] X.env) (hpl : (backTo pos (starEach [b] X.env)).any (·.1) = false) : PXI nm X (.Tuple elts kk tpos) (.Call (.Name "zip" p) [a, b] [] pos) (iZip f g) :=
  PI.imp (pi_zipZ hg hm (pa_cons ha (pa_cons hb pa_nil hs2) hs) hs hpl) fun σ H R ⟨M, ρ, S, it, S', rs, re, h, k⟩ => by
    unfold iZip at h
    obtain ⟨x, S1, h1, h⟩ := bind_inv h
    obtain ⟨y, S2, h2, h⟩ := bind_inv h
    split at h
    · rename_i ds es eds ees
      cases h
      refine rE.go rs re h1 fun M1 H1 v e1 r1 q1 => ?_
      refine rE.go r1 (re.ext rs e1) h2 fun M2 H2 u e2 r2 q2 => ?_
      obtain ⟨sr, ev, cur⟩ := sr_of r2 (RelD.ext r1 e2 q1) eds
      obtain ⟨sr2, ev2, cur2⟩ := sr_of r2 q2 ees
      subst ev
      subst ev2
      obtain ⟨vs0, at0, _⟩ := cur M2 H2 _ Ext.refl r2 (chk_now x _)
      obtain ⟨us0, bt0, _⟩ := cur2 M2 H2 _ Ext.refl r2 (chk_now y _)
      refine ⟨sr, sr2, vs0, us0, rfl, at0, bt0, k M2 H2 _ (e1.trans e2) r2 ⟨fun i M3 H3 S3 e r c hi => ?_, fun i d M3 H3 S3 x H4 e r c hd y => ?_, fun i M3 H3 S3 e r c hi => ?_⟩⟩
      · obtain ⟨c1, c2⟩ := same_app c
        obtain ⟨vs, ka, qa⟩ := cur M3 H3 S3 e r c1
        obtain ⟨us, kb, qb⟩ := cur2 M3 H3 S3 e r c2
        have hi : i < (zipD ds es).length := hi
        rw [zip_len, qa.length, qb.length] at hi
        exact ⟨vs, us, ka, kb, by omega, by omega⟩
      · obtain ⟨c1, c2⟩ := same_app c
        obtain ⟨vs, ka, qa⟩ := cur M3 H3 S3 e r c1
        obtain ⟨us, kb, qb⟩ := cur2 M3 H3 S3 e r c2
        obtain ⟨T, x1, x2, rfl, hT, rfl, y4, y5⟩ := y
        obtain ⟨d1, d2, h1, h2, h3⟩ := zip_get hd
        obtain ⟨w1, w2, w3⟩ := qa.get h1
        obtain ⟨z1, z2, z3⟩ := qb.get h2
        have h5 := y4 vs ka
        rw [w2] at h5
        cases h5
        have h6 := y5 us kb
        rw [z2] at h6
        cases h6
        rw [h3]
        exact pair_new r hT w3 z3
      · obtain ⟨c1, c2⟩ := same_app c
        obtain ⟨vs, ka, qa⟩ := cur M3 H3 S3 e r c1
        obtain ⟨us, kb, qb⟩ := cur2 M3 H3 S3 e r c2
        have hi : (zipD ds es).length = i := hi
        rw [zip_len, qa.length, qb.length] at hi
        exact ⟨vs, us, ka, kb, by omega, by omega, by omega⟩
    · cases h

/-! ### for, comprehensions, while -/
theorem pxs_for {iter tg : Expr} {body : List Stmt} {f : I} {tgg : TG} {g : G} {is : List Nat} {b : St} {pos : Pos} (hp : PassesOwn (model X.prog X.w) X.A X.env X.xe) (hc : X.calm = true) (hi : PXI nm X tg iter f) (hg : PG X tg tgg) (ok : GOk nm X tgg g is) (hb : PXSs nm X body b)
    (hs : ∀ x, foldedSetIterable iter X.env x = pure x) : PXS nm X (.For tg iter body [] pos) (sFor f g b) :=
  PS.imp (ps_for hp hc hi hg hb hs) fun σ H D ⟨M, ρ, S, r, S', rs, re, h, k⟩ => by
    unfold sFor at h
    obtain ⟨it, S1, h1, h⟩ := bind_inv h
    refine ⟨M, ρ, S, it, S1, rs, re, h1, fun M1 H1 J e1 r1 w => ?_⟩
    refine ⟨fun i m σ H => m = it.all.length - i ∧ i ≤ it.all.length ∧ ∃ M2 ρ2 S2, Ext M1 H1 M2 H ∧ RelS nm X.K X.mg M2 S2 H ∧ RelE X.K M2 H ρ2 σ ∧ forLoop it g b (it.all.drop i) ρ2 S2 = .ok r S', ⟨_, rfl, Nat.zero_le _, M1, ρ, S1, Ext.refl, r1, re.ext rs e1, h⟩, ?_⟩
    rintro i m σ2 H2 ⟨rfl, hi, M2, ρ2, S2, e2, r2, re2, hl⟩
    by_cases hlt : i < it.all.length
    · have hd : it.all.drop i = it.all[i] :: it.all.drop (i + 1) := List.drop_eq_getElem_cons hlt
      rw [hd] at hl
      unfold forLoop at hl
      split at hl
      · rename_i c
        refine .inr ⟨w.go i M2 H2 S2 e2 r2 c hlt, _, fun σ' H' n => n, fun x H3 y => ?_⟩
        obtain ⟨e3, r3, q3⟩ := w.yld i it.all[i] M2 H2 S2 x H3 e2 r2 c (by simp [hlt]) y
        split at hl
        · cases hl
        · rename_i ρ1 eg
          obtain ⟨rr, S3, h3, hl⟩ := bind_inv hl
          refine ok M2 H3 S2 _ x ρ2 ρ1 σ2 _ r3 q3 (re2.ext r2 e3) eg fun σ1 re1 _ => ?_
          refine ⟨M2, ρ1, S2, rr, S3, r3, re1, h3, fun M4 H4 σ4 e4 r4 re4 => ?_⟩
          have ee := (e2.trans e3).trans e4
          split <;> rename_i ef
          · rw [ef] at hl
            exact ⟨it.all.length - (i + 1), by omega, rfl, hlt, M4, rr.2, S3, ee, r4, re4, hl⟩
          · rw [ef] at hl
            cases hl
            exact k M4 H4 σ4 (e1.trans ee) r4 re4
          · rw [ef] at hl
            exact ⟨it.all.length - (i + 1), by omega, rfl, hlt, M4, rr.2, S3, ee, r4, re4, hl⟩
          · rw [ef] at hl
            cases hl
            exact k M4 H4 σ4 (e1.trans ee) r4 re4
      · cases hl
    · have ei : i = it.all.length := by omega
      have hd : it.all.drop i = [] := by rw [ei]; exact List.drop_length
      rw [hd] at hl
      unfold forLoop at hl
      split at hl
      · rename_i c
        cases hl
        exact .inl ⟨w.stop i M2 H2 _ e2 r2 c ei.symm, k M2 H2 σ2 (e1.trans e2) r2 re2⟩
      · cases hl
theorem pxs_while {c : Expr} {body : List Stmt} {t : T} {b : St} {pos : Pos} (hp : PassesOwn (model X.prog X.w) X.A X.env X.xe) (hc : PXT nm X c t) (hb : PXSs nm X body b) : PXS nm X (.While c body [] pos) (sWhile t b) :=
  PS.imp (ps_while hp hc hb) fun σ0 H0 D ⟨M, ρ, S, r, S', rs, re, h, k⟩ => by
    unfold sWhile at h
    refine ⟨fun m σ H => ∃ M2 ρ2 S2, Ext M H0 M2 H ∧ RelS nm X.K X.mg M2 S2 H ∧ RelE X.K M2 H ρ2 σ ∧ whileLoop t b m ρ2 S2 = .ok r S', ⟨TURNS, M, ρ, S, Ext.refl, rs, re, h⟩, ?_⟩
    rintro m σ2 H2 ⟨M2, ρ2, S2, e2, r2, re2, hl⟩
    cases m with
    | zero => cases hl
    | succ m =>
      unfold whileLoop at hl
      obtain ⟨cb, S3, h3, hl⟩ := bind_inv hl
      refine ⟨M2, ρ2, S2, cb, S3, r2, re2, h3, fun M3 H3 e3 r3 => ?_⟩
      have re3 := re2.ext r2 e3
      cases cb with
      | true =>
        refine iteT ⟨_, fun σ' H' n => n, ?_⟩
        rw [if_pos rfl] at hl
        obtain ⟨rr, S4, h4, hl⟩ := bind_inv hl
        refine ⟨M3, ρ2, S3, rr, S4, r3, re3, h4, fun M4 H4 σ4 e4 r4 re4 => ?_⟩
        have ee := (e2.trans e3).trans e4
        split <;> rename_i ef
        · rw [ef] at hl
          exact ⟨m, Nat.lt_succ_self m, M4, rr.2, S4, ee, r4, re4, hl⟩
        · rw [ef] at hl
          cases hl
          exact k M4 H4 σ4 ee r4 re4
        · rw [ef] at hl
          exact ⟨m, Nat.lt_succ_self m, M4, rr.2, S4, ee, r4, re4, hl⟩
        · rw [ef] at hl
          cases hl
          exact k M4 H4 σ4 ee r4 re4
      | false =>
        refine iteF ?_
        rw [if_neg Bool.false_ne_true] at hl
        cases hl
        exact k M3 H3 σ2 (e2.trans e3) r3 re3
end
end PF
end
section
set_option Elab.async false
set_option linter.all false
set_option maxRecDepth 100003
set_option maxHeartbeats 2000003
set_option autoImplicit false
namespace PF
open PySem L2
theorem upd_self {H : Hp} {a : Addr} {o : HO} (h : H a = some o) : upd H a o = H := by
  funext b
  unfold upd
  split
  · rename_i e
    rw [e, h]
  · rfl
section
variable {nm : Nm} {X : Cx} {M M' : List Addr} {H H' : Hp} {S S' S1 : Sto} {ρ : Env} {σ : L2.St} {Q : VK} {d : D}
/-! ### comprehensions -/
theorem comp_len {it : Iter} {g : G} {t : T} {e : E} : ∀ {ds ys : List D} {S S' : Sto}, compLoop it g t e ρ ds S = .ok ys S' → True := fun _ => trivial
/-- the reading of a comprehension's turns -/
theorem lc_read {J : It} {it : Iter} {tgg : TG} {g : G} {is vs : List Nat} {t : T} {e : E} {D0 : Addr} {ys : List D} {Qd : Hp → Prop} (hv : ∀ i ∈ is, i ∈ vs) (ok : GOk nm X tgg g is) (rs : RelS nm X.K X.mg M S H) (re : RelE X.K M H ρ σ) (w : WalkJ nm X J M H it)
    (h : compLoop it g t e (PF.wipe ρ vs) it.all S = .ok ys S') (hl : ys.length ≤ LIM) (hD : H D0 = none)
    (k : ∀ M' H' zs, Ext M H M' H' → RelS nm X.K X.mg M' S' H' → D0 ∉ M' → H' D0 = some (.lst zs) → RelDs X.K M' H' ys zs → Qd H') :
    ∃ W : Nat → Nat → Hp → Prop, (∃ m, W 0 m (upd H D0 (.lst []))) ∧ ∀ i m H, W i m H → (J.stop i H ∧ Qd H) ∨ (J.go i H ∧ ∃ Nx : Hp → Prop, (∀ H', Nx H' → ∃ m', m' < m ∧ W (i + 1) m' H') ∧ ∀ x H', J.yld i H x H' → tgg x (L2.wipe σ vs) H' fun σ2 H2 => L2.wipe σ2 vs = L2.wipe σ vs ∧ (rT nm X t) σ2 H2 fun b H3 =>
      if b = true then (rE nm X e) σ2 H3 fun y H4 => ∃ acc, H4 D0 = some (.lst acc) ∧ acc.length < sizeLine ∧ Nx (upd H4 D0 (.lst (acc ++ [y]))) else Nx H3) := by
  refine ⟨fun i m H2 => m = it.all.length - i ∧ i ≤ it.all.length ∧ ∃ M2 S2 done acc rest, Ext M H M2 H2 ∧ RelS nm X.K X.mg M2 S2 H2 ∧ D0 ∉ M2 ∧ H2 D0 = some (.lst acc) ∧ RelDs X.K M2 H2 done acc ∧ compLoop it g t e (PF.wipe ρ vs) (it.all.drop i) S2 = .ok rest S' ∧ ys = done ++ rest,
    ⟨_, rfl, Nat.zero_le _, M, S, [], [], ys, Ext.tup hD, rs.tup hD, rs.fresh hD, upd_same, .nil, h, rfl⟩, ?_⟩
  rintro i m H2 ⟨rfl, hi, M2, S2, done, acc, rest, e2, r2, nD, hacc, qa, hc, ey⟩
  by_cases hlt : i < it.all.length
  · have hd : it.all.drop i = it.all[i] :: it.all.drop (i + 1) := List.drop_eq_getElem_cons hlt
    rw [hd] at hc
    unfold compLoop at hc
    split at hc
    · rename_i c
      refine .inr ⟨w.go i M2 H2 S2 e2 r2 c hlt, _, fun H' n => n, fun x H3 y => ?_⟩
      obtain ⟨e3, r3, q3⟩ := w.yld i it.all[i] M2 H2 S2 x H3 e2 r2 c (by simp [hlt]) y
      split at hc
      · cases hc
      · rename_i ρ1 eg
        obtain ⟨b, S3, h3, hc⟩ := bind_inv hc
        refine ok M2 H3 S2 _ x _ ρ1 _ _ r3 q3 (((re.ext rs e2).ext r2 e3).wipe vs) eg fun σ1 re1 wi => ⟨by rw [wi vs hv, wipe_wipe], ?_⟩
        refine ⟨M2, ρ1, S2, b, S3, r3, re1, h3, fun M4 H4 e4 r4 => ?_⟩
        have acc3 : H3 D0 = some (.lst acc) := e3.fr D0 _ hacc nD
        have kp4 : H4 D0 = some (.lst acc) := e4.fr D0 _ acc3 nD
        have nD4 : D0 ∉ M4 := fun hm => by
          have z := e4.new D0 hm nD
          rw [acc3] at z
          cases z
        cases b with
        | true =>
          refine iteT ?_
          rw [if_pos rfl] at hc
          obtain ⟨y, S5, h5, hc⟩ := bind_inv hc
          obtain ⟨ys', S6, h6, hc⟩ := bind_inv hc
          cases hc
          refine ⟨M4, ρ1, S3, y, S5, r4, re1.ext r3 e4, h5, fun M5 H5 v e5 r5 q5 => ?_⟩
          have kp5 : H5 D0 = some (.lst acc) := e5.fr D0 _ kp4 nD4
          have nD5 : D0 ∉ M5 := fun hm => by
            have z := e5.new D0 hm nD4
            rw [kp4] at z
            cases z
          have qa5 := RelDs.ext r4 e5 (RelDs.ext r3 e4 (RelDs.ext r2 e3 qa))
          have hlen : acc.length < sizeLine := by
            rw [← qa.length, ← LIM_eq]
            rw [ey, List.length_append, List.length_cons] at hl
            omega
          refine ⟨acc, kp5, hlen, it.all.length - (i + 1), by omega, rfl, hlt, M5, S5, done ++ [y], acc ++ [v], ys', ?_, ?_, nD5, upd_same, ?_, h6, by rw [ey]; simp⟩
          · have ee := ((e2.trans e3).trans e4).trans e5
            refine ⟨ee.pre, ee.new, fun a o ha n => ?_⟩
            have ne : a ≠ D0 := fun z => by rw [z, hD] at ha; cases ha
            rw [upd_ne ne]
            exact ee.fr a o ha n
          · refine ⟨r5.len, r5.nd, fun n a o h1 h2 => (r5.obj n a o h1 h2).mo ⟨fun _ _ z => z, fun b us z => ?_⟩ (upd_ne fun z => nD5 (by rw [← z]; exact List.mem_of_getElem? h1))⟩
            rcases z with (z | ⟨o, z⟩) | z
            · exact .inl (.inl (by rw [upd_ne (ne_of z kp5 (fun q => nomatch q))]; exact z))
            · exact .inl (.inr ⟨o, by rw [upd_ne (ne_of z kp5 (fun q => nomatch q))]; exact z⟩)
            · exact .inr z
          · have mo : Mo X.K M5 H5 M5 (upd H5 D0 (.lst (acc ++ [v]))) := ⟨fun _ _ z => z, fun b us z => by
              rcases z with (z | ⟨o, z⟩) | z
              · exact .inl (.inl (by rw [upd_ne (ne_of z kp5 (fun q => nomatch q))]; exact z))
              · exact .inl (.inr ⟨o, by rw [upd_ne (ne_of z kp5 (fun q => nomatch q))]; exact z⟩)
              · exact .inr z⟩
            exact (qa5.append (.cons q5 .nil)).mo mo
        | false =>
          refine iteF ?_
          rw [if_neg Bool.false_ne_true] at hc
          exact ⟨it.all.length - (i + 1), by omega, rfl, hlt, M4, S3, done, acc, rest, (e2.trans e3).trans e4, r4, nD4, kp4, RelDs.ext r3 e4 (RelDs.ext r2 e3 qa), hc, ey⟩
    · cases hc
  · have ei : i = it.all.length := by omega
    have hd : it.all.drop i = [] := by rw [ei]; exact List.drop_length
    rw [hd] at hc
    unfold compLoop at hc
    split at hc
    · rename_i c
      cases hc
      rw [List.append_nil] at ey
      subst ey
      exact .inl ⟨w.stop i M2 H2 _ e2 r2 c ei.symm, k M2 H2 acc e2 r2 nD hacc qa⟩
    · cases hc
/-- a list that the comprehension made gets its place -/
theorem name_new {D0 : Addr} {zs : List V} {ys : List D} {M1 : List Addr} {H1 : Hp} (hD : H D0 = none) (e : Ext M H M1 H1) (r : RelS nm X.K X.mg M1 S H1) (nD : D0 ∉ M1) (hz : H1 D0 = some (.lst zs)) (q : RelDs X.K M1 H1 ys zs) :
    Ext M H (M1 ++ [D0]) H1 ∧ RelS nm X.K X.mg (M1 ++ [D0]) (S ++ [.lst ys]) H1 := by
  have es := upd_self hz
  have mo : Mo X.K M1 H1 (M1 ++ [D0]) (upd H1 D0 (.lst zs)) := Mo.adopt hz (fun _ z => nomatch z) (fun _ _ z => nomatch z)
  have r2 := r.adopt nD hz (fun _ z => nomatch z) (fun _ _ z => nomatch z) (o := .lst zs) (mo := .lst ys) ⟨zs, upd_same, q.mo mo⟩
  rw [es] at r2
  refine ⟨⟨?_, fun x hx n => ?_, e.fr⟩, r2⟩
  · obtain ⟨T, rfl⟩ := e.pre
    exact ⟨T ++ [D0], by rw [List.append_assoc]⟩
  · rcases List.mem_append.mp hx with z | z
    · exact e.new x z n
    · have : x = D0 := by simpa using z
      rw [this]
      exact hD
theorem px_lc {elt tg iter : Expr} {ifs : List Expr} {scope : Scope} {own : List (Str × Nat)} {pos : Pos} {f : I} {tgg : TG} {g : G} {is : List Nat} {t : T} {e : E} (hc : X.calm = true) (hN : X.N.Nodup) (hi : PXI nm X tg iter f) (okb : BlkOk X.N X.env.scope scope own) (hv : ∀ i ∈ is, i ∈ own.map (·.2)) (ok : GOk nm X tgg g is)
    (hg : ∀ (s : Shared) (H : Hp) (C : Addr) (cl : List (Str × Addr)) (fp : List Addr), PG (X.blk s H scope (compEnvC scope cl C X.env) fp) tg tgg)
    (ht : ∀ (s : Shared) (H : Hp) (C : Addr) (cl : List (Str × Addr)) (fp : List Addr), PTs (X.blk s H scope (compEnvC scope cl C X.env) fp) ifs (rT nm X t))
    (he : ∀ (s : Shared) (H : Hp) (C : Addr) (cl : List (Str × Addr)) (fp : List Addr), PE (X.blk s H scope (compEnvC scope cl C X.env) fp) elt (rE nm X e)) (hs : ∀ x, foldedSetIterable iter X.env x = pure x) :
    PX nm X (.ListComp elt [⟨tg, iter, ifs, 0⟩] scope pos) (eComp f (own.map (·.2)) g t e) :=
  PE.imp (pe_lc hc hN hi okb hg ht he hs) fun σ H Q ⟨M, ρ, S, d, S', rs, re, h, k⟩ => by
    unfold eComp at h
    obtain ⟨it, S1, h1, h⟩ := bind_inv h
    obtain ⟨ys, S2, h2, h⟩ := bind_inv h
    split at h
    · rename_i c
      cases h
      refine ⟨M, ρ, S, it, S1, rs, re, h1, fun M1 H1 J e1 r1 w D0 hD => ?_⟩
      refine lc_read hv ok r1 (re.ext rs e1) w h2 c hD fun M3 H3 zs e3 r3 nD hz q => ?_
      obtain ⟨e4, r4⟩ := name_new hD e3 r3 nD hz q
      refine k _ _ _ (e1.trans e4) r4 ?_
      unfold RelD
      exact ⟨D0, rfl, r3.last⟩
    · cases h
/-- name = [..], the name a local -/
theorem pxs_setLc {i : Nat} {y : Str} {py : Pos} {elt tg iter : Expr} {ifs : List Expr} {scope : Scope} {own : List (Str × Nat)} {pos spos : Pos} {f : I} {tgg : TG} {g : G} {is : List Nat} {t : T} {e : E} (hc : X.calm = true) (hN : X.N.Nodup) (hy : X.N[i]? = some y) (hyl : X.env.scope.names.lookup y = some .local)
    (hsw : swapsWith (.ListComp elt [⟨tg, iter, ifs, 0⟩] scope pos) (some (.Name y py)) spos.line X.env = pure true) (hi : PXI nm X tg iter f) (okb : BlkOk X.N X.env.scope scope own) (hv : ∀ i ∈ is, i ∈ own.map (·.2)) (ok : GOk nm X tgg g is)
    (hg : ∀ (s : Shared) (H : Hp) (C : Addr) (cl : List (Str × Addr)) (fp : List Addr), PG (X.blk s H scope (compEnvC scope cl C X.env) fp) tg tgg)
    (ht : ∀ (s : Shared) (H : Hp) (C : Addr) (cl : List (Str × Addr)) (fp : List Addr), PTs (X.blk s H scope (compEnvC scope cl C X.env) fp) ifs (rT nm X t))
    (he : ∀ (s : Shared) (H : Hp) (C : Addr) (cl : List (Str × Addr)) (fp : List Addr), PE (X.blk s H scope (compEnvC scope cl C X.env) fp) elt (rE nm X e)) (hs : ∀ x, foldedSetIterable iter X.env x = pure x) :
    PXS nm X (.Assign [.Name y py] (.ListComp elt [⟨tg, iter, ifs, 0⟩] scope pos) spos) (sSet i (eComp f (own.map (·.2)) g t e)) :=
  PS.imp (ps_setLc hc hN hy hyl hsw hi okb hg ht he hs) fun σ H D ⟨M, ρ, S, r, S', rs, re, h, k⟩ => by
    unfold sSet at h
    obtain ⟨x, S0, h0, h⟩ := bind_inv h
    cases h
    unfold eComp at h0
    obtain ⟨it, S1, h1, h0⟩ := bind_inv h0
    obtain ⟨ys, S2, h2, h0⟩ := bind_inv h0
    split at h0
    · rename_i c
      cases h0
      refine ⟨M, ρ, S, it, S1, rs, re, h1, fun M1 H1 J e1 r1 w D0 hD => ?_⟩
      refine lc_read hv ok r1 (re.ext rs e1) w h2 c hD fun M3 H3 zs e3 r3 nD hz q => ?_
      obtain ⟨e4, r4⟩ := name_new hD e3 r3 nD hz q
      refine k _ _ _ (e1.trans e4) r4 ?_
      refine RelE.set ((re.ext rs e1).ext r1 e4) ?_
      unfold RelD
      exact ⟨D0, rfl, r3.last⟩
    · cases h0
theorem pxts_nil : PTs X [] (rT nm X tYes) := ⟨fun pins s σ H Q I h => (pts_nil (X := X)).run pins s σ H Q I (by
  obtain ⟨M, ρ, S, b, S', rs, re, h, k⟩ := h
  unfold PF.tYes at h
  cases h
  exact k M H Ext.refl rs)⟩
theorem pxts_one {c : Expr} {t : T} (h : PXT nm X c t) : PTs X [c] (rT nm X t) := pts_one h

/-! ### statements -/
theorem pxss_nil : PXSs nm X [] sNext := PSs.imp pss_nil fun σ H D ⟨M, ρ, S, r, S', rs, re, h, k⟩ => by
  unfold sNext at h
  cases h
  exact k M H σ Ext.refl rs re
theorem pxss_cons {st : Stmt} {rest : List Stmt} {a b : St} (h1 : PXS nm X st a) (h2 : PXSs nm X rest b) : PXSs nm X (st :: rest) (sSeq a b) :=
  PSs.imp (pss_cons h1 h2) fun σ H D ⟨M, ρ, S, r, S', rs, re, h, k⟩ => by
    unfold sSeq at h
    obtain ⟨r1, S1, h1, h⟩ := bind_inv h
    refine ⟨M, ρ, S, r1, S1, rs, re, h1, fun M1 H1 σ1 e1 rs1 re1 => ?_⟩
    cases ef : r1.1 with
    | nx =>
      rw [ef] at h
      exact ⟨M1, r1.2, S1, r, S', rs1, re1, h, fun M2 H2 σ2 e2 => k M2 H2 σ2 (e1.trans e2)⟩
    | bk => rw [ef] at h; cases h; exact k M1 H1 σ1 e1 rs1 re1
    | ct => rw [ef] at h; cases h; exact k M1 H1 σ1 e1 rs1 re1
    | rt d => rw [ef] at h; cases h; exact k M1 H1 σ1 e1 rs1 re1
theorem pxss_one {st : Stmt} {a : St} (h1 : PXS nm X st a) : PXSs nm X [st] a := pss_one h1
theorem pxs_set {i : Nat} {x : Str} {e : Expr} {f : E} {pos pos' : Pos} (hN : X.N.Nodup) (hi : X.N[i]? = some x) (hx : Loc X.env.scope x) (he : PX nm X e f) (hs : swapsWith e (some (.Name x pos')) pos.line X.env = pure false) (hf : X.fn x = true ∨ X.env.scope.names.lookup x = some .local) : PXS nm X (.Assign [.Name x pos'] e pos) (sSet i f) :=
  PS.imp (ps_set hN hi hx he hs hf) fun σ H D ⟨M, ρ, S, r, S', rs, re, h, k⟩ => by
    unfold sSet at h
    obtain ⟨x, S1, h1, h⟩ := bind_inv h
    cases h
    exact rE.go rs re h1 fun M1 H1 v e1 r1 q1 => k M1 H1 _ e1 r1 ((re.ext rs e1).set q1)
theorem pxs_asg {tg e : Expr} {f : E} {tgg : TG} {g : G} {is : List Nat} {pos : Pos} (he : PX nm X e f) (hg : PG X tg tgg) (ok : GOk nm X tgg g is) (hs : swapsWithSole [tg] e pos.line X.env = pure false) (hw : swappedStores [tg] e X.env = pure none) (h1 : (assignEach [tg] X.env).map (·.2) = [assign tg X.env]) : PXS nm X (.Assign [tg] e pos) (sAsg g f) :=
  PS.imp (ps_asg he hg hs hw h1) fun σ H D ⟨M, ρ, S, r, S', rs, re, h, k⟩ => by
    unfold sAsg at h
    obtain ⟨x, S1, h1, h⟩ := bind_inv h
    split at h
    · rename_i ρ1 eg
      cases h
      refine rE.go rs re h1 fun M1 H1 v e1 r1 q1 => ?_
      exact ok M1 H1 _ x v ρ ρ1 σ _ r1 q1 (re.ext rs e1) eg fun σ1 re1 _ => k M1 H1 σ1 e1 r1 re1
    · cases h
theorem pxs_expr {e : Expr} {f : E} {pos : Pos} (he : PX nm X e f) (hs : swapsWith e none pos.line X.env = pure false) : PXS nm X (.Expr e pos) (sExpr f) :=
  PS.imp (ps_expr he hs) fun σ H D ⟨M, ρ, S, r, S', rs, re, h, k⟩ => by
    unfold sExpr at h
    obtain ⟨x, S1, h1, h⟩ := bind_inv h
    cases h
    exact rE.go rs re h1 fun M1 H1 v e1 r1 q1 => k M1 H1 σ e1 r1 (re.ext rs e1)
theorem pxs_ret {e : Expr} {f : E} {pos : Pos} (he : PX nm X e f) : PXS nm X (.Return (some e) pos) (sRet f) :=
  PS.imp (ps_ret he) fun σ H D ⟨M, ρ, S, r, S', rs, re, h, k⟩ => by
    unfold sRet at h
    obtain ⟨x, S1, h1, h⟩ := bind_inv h
    cases h
    exact rE.go rs re h1 fun M1 H1 v e1 r1 q1 => k M1 H1 σ e1 r1 (re.ext rs e1) v q1
theorem pxs_if {c : Expr} {a b : List Stmt} {t : T} {f g : St} {pos : Pos} (hc : PXT nm X c t) (ha : PXSs nm X a f) (hb : PXSs nm X b g) : PXS nm X (.If c a b pos) (sIf t f g) :=
  PS.imp (ps_if hc ha hb) fun σ H D ⟨M, ρ, S, r, S', rs, re, h, k⟩ => by
    unfold sIf at h
    obtain ⟨c, S1, h1, h⟩ := bind_inv h
    refine rT.go rs re h1 fun M1 H1 e1 r1 => ?_
    cases c with
    | true => exact iteT ⟨M1, ρ, S1, r, S', r1, re.ext rs e1, h, fun M2 H2 σ2 e2 => k M2 H2 σ2 (e1.trans e2)⟩
    | false => exact iteF ⟨M1, ρ, S1, r, S', r1, re.ext rs e1, h, fun M2 H2 σ2 e2 => k M2 H2 σ2 (e1.trans e2)⟩
theorem pxs_break {pos : Pos} : PXS nm X (.Break pos) sBreak := PS.imp ps_break fun σ H D ⟨M, ρ, S, r, S', rs, re, h, k⟩ => by
  unfold sBreak at h
  cases h
  exact k M H σ Ext.refl rs re
theorem pxs_continue {pos : Pos} : PXS nm X (.Continue pos) sCont := PS.imp ps_continue fun σ H D ⟨M, ρ, S, r, S', rs, re, h, k⟩ => by
  unfold sCont at h
  cases h
  exact k M H σ Ext.refl rs re
/-- a raise that is never come to -/
theorem pxs_raise0 {st : Stmt} {c : Nat} {a : A} : PXS nm X st (sRaise c a) := PS.imp ps_never fun σ H D ⟨M, ρ, S, r, S', rs, re, h, k⟩ => by
  unfold sRaise at h
  obtain ⟨xs, S1, h1, h⟩ := bind_inv h
  cases h
/-- xs[i] = v -/
theorem pxs_sub {o i v : Expr} {fo fi fv : E} {pos pos' : Pos} (ho : PX nm X o fo) (hi : PX nm X i fi) (hv : PX nm X v fv)
    (ha : ∀ v, assign (.Subscript o i pos') X.env v = (do
      let ov ← holding [v] (eval o X.env)
      let iv ← holding [v, ov] (eval i X.env)
      standAt pos'
      holding [v, ov, iv] (PySem.setItem ov iv v)
      release [v, ov, iv] []))
    (hs : swapsWithSole [.Subscript o i pos'] v pos.line X.env = pure false) (hw : swappedStores [.Subscript o i pos'] v X.env = pure none) (h1 : (assignEach [.Subscript o i pos'] X.env).map (·.2) = [assign (.Subscript o i pos') X.env]) :
    PXS nm X (.Assign [.Subscript o i pos'] v pos) (sSub fo fi fv) :=
  PS.imp (ps_asg hv (pg_sub ho hi set_list ha) hs hw h1) fun σ H D ⟨M, ρ, S, r, S', rs, re, h, k⟩ => by
    unfold sSub at h
    obtain ⟨x, S1, h1, h⟩ := bind_inv h
    obtain ⟨a, S2, h2, h⟩ := bind_inv h
    obtain ⟨y, S3, h3, h⟩ := bind_inv h
    refine rE.go rs re h1 fun M1 H1 vx e1 r1 q1 => ?_
    refine rE.go r1 (re.ext rs e1) h2 fun M2 H2 va e2 r2 q2 => ?_
    refine rE.go r2 ((re.ext rs e1).ext r1 e2) h3 fun M3 H3 vy e3 r3 q3 => ?_
    have q1 := RelD.ext r2 e3 (RelD.ext r1 e2 q1)
    have q2 := RelD.ext r2 e3 q2
    have re3 := ((re.ext rs e1).ext r1 e2).ext r2 e3
    split at h
    · rename_i S4 e4
      cases h
      unfold PF.setItem at e4
      cases a with
      | ref n =>
        cases y with
        | int i =>
          dsimp only at e4
          split at e4
          · rename_i ds ed
            split at e4
            · rename_i j ej
              cases e4
              obtain ⟨b, rfl, hb⟩ := q2.ref
              obtain ⟨vs, ka, qa⟩ := lst_wr r3 hb (wr_lst ed)
              have ex : Ext M3 H3 M3 (upd H3 b (.lst (vs.set j vx))) := Ext.set (List.mem_of_getElem? hb)
              refine ⟨b, vs, i, j, rfl, q3.int, ka, by rw [← qa.length]; exact ej, ?_⟩
              exact k _ _ _ ((e1.trans e2).trans (e3.trans ex)) (r3.set hb ⟨_, upd_same, RelDs.ext r3 ex (qa.set j q1)⟩) (re3.ext r3 ex)
            · cases e4
          · cases e4
        | _ => cases e4
      | _ => cases e4
    · cases h
end
end PF
end
section
set_option Elab.async false
set_option linter.all false
set_option maxRecDepth 100003
set_option maxHeartbeats 2000003
set_option autoImplicit false
namespace PF
open PySem L2
section
variable {nm : Nm} {X : Cx} {M M' : List Addr} {H H' : Hp} {S S' S1 : Sto} {ρ : Env} {σ : L2.St} {Q : VK} {d : D}
/-! ### instances -/
/-- what the top has left of a class: its fields are no class attributes -/
structure ClsOk (nm : Nm) (K : PySem.W.Frag) (mg : Str → Option Value) (c : Nat) (C : Addr) (fs : List Nat) : Prop where
  mgC : mg (nm.cls c) = some (.ref C)
  cl : Cls K C
  no : ∀ f ∈ fs, NoAttr K C (nm.fld f)
theorem ins_at {c n : Nat} {fs : List (Nat × D)} (h : insOf c n S = some fs) : S[n]? = some (.ins c fs) := by
  unfold insOf at h
  split at h
  · split at h
    · rename_i e
      cases h
      subst e
      assumption
    · cases h
  · cases h
theorem ins_rel (rs : RelS nm X.K X.mg M S H) {c n : Nat} {a C : Addr} {fs : List (Nat × D)} {fl : List Nat} (k : ClsOk nm X.K X.mg c C fl) (hn : M[n]? = some a) (h : insOf c n S = some fs) : ∃ dx gs, H a = some (.ins C dx gs) ∧ RelFs nm X.K M H fs gs := by
  obtain ⟨C', dx, gs, h1, h2, h3⟩ := rs.obj n a _ hn (ins_at h)
  have e := h2.symm.trans k.mgC
  cases e
  exact ⟨dx, gs, h1, h3⟩
theorem fget_rel {K : PySem.W.Frag} {f : Nat} : ∀ {fs : List (Nat × D)} {gs : List (Str × V)} {d : D}, RelFs nm K M H fs gs → fget fs f = some d → ∃ v, gs.lookup (nm.fld f) = some v ∧ RelD K M H d v
  | [], _, _, _, h => by simp [fget] at h
  | p :: r, _, d, q, h => by
    obtain ⟨v, qs, rfl, q1, q2⟩ := q
    unfold fget at h
    rw [List.find?_cons] at h
    by_cases e : p.1 = f
    · subst e
      simp only [beq_self_eq_true] at h
      cases h
      exact ⟨v, by simp [List.lookup], q1⟩
    · have e1 : (p.1 == f) = false := by simpa using e
      simp only [e1] at h
      have e2 : (nm.fld f == nm.fld p.1) = false := by
        rw [beq_eq_false_iff_ne]
        exact fun z => e (nm.inj _ _ z.symm)
      obtain ⟨w, h1, h2⟩ := fget_rel (f := f) q2 h
      exact ⟨w, by simp only [List.lookup, e2]; exact h1, h2⟩
theorem fput_rel {K : PySem.W.Frag} {f : Nat} {v : V} (r : RelD K M H d v) : ∀ {fs : List (Nat × D)} {gs : List (Str × V)}, RelFs nm K M H fs gs → RelFs nm K M H (fput fs f d) (putF (nm.fld f) v gs)
  | [], _, q => by
    have e : _ = [] := q
    subst e
    exact ⟨v, [], rfl, r, rfl⟩
  | p :: t, _, q => by
    obtain ⟨w, qs, rfl, q1, q2⟩ := q
    obtain ⟨a, b⟩ := p
    by_cases e : a = f
    · subst e
      have e1 : fput ((a, b) :: t) a d = (a, d) :: t := by simp [fput]
      have e2 : putF (nm.fld a) v ((nm.fld a, w) :: qs) = (nm.fld a, v) :: qs := by simp [putF]
      rw [e1, e2]
      exact ⟨v, qs, rfl, r, q2⟩
    · have e1 : fput ((a, b) :: t) f d = (a, b) :: fput t f d := by simp [fput, e]
      have e2 : putF (nm.fld f) v ((nm.fld a, w) :: qs) = (nm.fld a, w) :: putF (nm.fld f) v qs := by
        have ne : ¬ nm.fld a = nm.fld f := fun z => e (nm.inj _ _ z)
        simp [putF, ne]
      rw [e1, e2]
      exact ⟨w, _, rfl, q1, fput_rel r q2⟩
theorem fs_len {K : PySem.W.Frag} : ∀ {fs : List (Nat × D)} {gs : List (Str × V)}, RelFs nm K M H fs gs → fs.length = gs.length
  | [], _, q => by have e : _ = [] := q; subst e; rfl
  | p :: t, _, q => by
    obtain ⟨w, qs, rfl, q1, q2⟩ := q
    simp [fs_len q2]
/-- e.f -/
theorem px_fld {c f : Nat} {C : Addr} {fl : List Nat} {e : Expr} {fe : E} {pos : Pos} {fn : Str} (k : ClsOk nm X.K X.mg c C fl) (hf : f ∈ fl) (ef : fn = nm.fld f) (he : PX nm X e fe) (hb : attributeBase e fn X.env (eval e X.env) = eval e X.env) : PX nm X (.Attribute e fn pos) (e1 (gFld c f) fe) := by
  subst ef
  refine PE.imp (pe_fld he hb) fun σ H Q ⟨M, ρ, S, d, S', rs, re, h, kk⟩ => ?_
  unfold e1 at h
  obtain ⟨x, S1, h1, h⟩ := bind_inv h
  refine rE.go rs re h1 fun M1 H1 v e1 r1 q1 => ?_
  unfold gFld at h
  cases x with
  | ref n =>
    dsimp only at h
    split at h
    · rename_i fs ei
      split at h
      · rename_i d' ed
        cases h
        obtain ⟨a, rfl, ha⟩ := q1.ref
        obtain ⟨dx, gs, h2, h3⟩ := ins_rel r1 k ha ei
        obtain ⟨w, h4, h5⟩ := fget_rel h3 ed
        exact ⟨a, C, dx, gs, w, rfl, h2, k.cl, k.no f hf, h4, (kk.ext e1).here r1 h5⟩
      · cases h
    · cases h
  | _ => cases h
/-- e.f = v -/
theorem pxs_fld {c f : Nat} {C : Addr} {fl : List Nat} {o v : Expr} {fo fv : E} {pos pos' : Pos} {fn : Str} (k : ClsOk nm X.K X.mg c C fl) (hf : f ∈ fl) (ef : fn = nm.fld f) (ho : PX nm X o fo) (hv : PX nm X v fv) (hs : swapsWith v (some (.Attribute o fn pos')) pos.line X.env = pure false) :
    PXS nm X (.Assign [.Attribute o fn pos'] v pos) (sFld c f fo fv) := by
  subst ef
  refine PS.imp (ps_fld ho hv hs) fun σ H D ⟨M, ρ, S, r, S', rs, re, h, kk⟩ => ?_
  unfold PF.sFld at h
  obtain ⟨x, S1, h1, h⟩ := bind_inv h
  obtain ⟨a, S2, h2, h⟩ := bind_inv h
  refine rE.go rs re h1 fun M1 H1 vx e1 r1 q1 => ?_
  refine rE.go r1 (re.ext rs e1) h2 fun M2 H2 va e2 r2 q2 => ?_
  have q1 := RelD.ext r1 e2 q1
  have re2 := (re.ext rs e1).ext r1 e2
  split at h
  · rename_i S4 e4
    cases h
    unfold setFld at e4
    cases a with
    | ref n =>
      dsimp only at e4
      split at e4
      · rename_i fs ei
        split at e4
        · rename_i cl
          cases e4
          obtain ⟨a, rfl, ha⟩ := q2.ref
          obtain ⟨dx, gs, h3, h4⟩ := ins_rel r2 k ha ei
          have ex : Ext M2 H2 M2 (upd H2 a (.ins C dx (putF (nm.fld f) vx gs))) := Ext.set (List.mem_of_getElem? ha)
          refine ⟨a, C, dx, gs, rfl, h3, k.cl, k.no f hf, by rw [← fs_len h4]; omega, ?_⟩
          exact kk _ _ _ ((e1.trans e2).trans ex) (r2.set ha ⟨C, dx, _, upd_same, k.mgC, RelFs.ext r2 ex (fput_rel q1 h4)⟩) (re2.ext r2 ex)
        · cases e4
      · cases e4
    | _ => cases e4
  · cases h

/-! ### a def's promise, by its reading -/
def spF (nm : Nm) (K : PySem.W.Frag) (mg : Str → Option Value) (n : Nat) (f : Fn) : Sp := fun vs H Q _ => ∃ M S ds d S', RelS nm K mg M S H ∧ RelDs K M H ds vs ∧ vs.length = n ∧ f ds S = .ok d S' ∧ ∀ M' H' v, Ext M H M' H' → RelS nm K mg M' S' H' → RelD K M' H' d v → Q v H'
theorem len_arg {f : Fn} {n : Nat} {K : PySem.W.Frag} {mg : Str → Option Value} {vs : List V} {E : XK} {Q : VK} (h : spF nm K mg n f vs H Q E) : vs.length = n := let ⟨_, _, _, _, _, _, _, e, _⟩ := h; e
/-- how many arguments are written -/
def ALen (f : A) (n : Nat) : Prop := ∀ ρ S ds S', f ρ S = .ok ds S' → ds.length = n
theorem call_read {f : Fn} {a : A} {n : Nat} (hl : ALen a n) {σ : L2.St} {H : Hp} {Q : VK} (h : rE nm X (eCall f a) σ H Q) : tCall (spF nm X.K X.mg n f) [] E0 (rA nm X a) σ H Q := by
  obtain ⟨M, ρ, S, d, S', rs, re, h, k⟩ := h
  unfold eCall at h
  obtain ⟨xs, S1, h1, h⟩ := bind_inv h
  refine rA.go rs re h1 fun M1 H1 vs e1 r1 q1 => ?_
  rw [List.append_nil]
  exact ⟨M1, S1, xs, d, S', r1, q1, by rw [← q1.length]; exact hl _ _ _ _ h1, h, fun M2 H2 v e2 r2 q2 => k M2 H2 v (e1.trans e2) r2 q2⟩
theorem px_call {k : Nat} {g : Addr} {fd : FuncData} {ps : List Str} {x : Str} {p pos : Pos} {e : Expr} {es : List Expr} {f : Fn} {a : A} {n : Nat} (F : FnOk X.prog X.w X.K X.mg X.base CX0 k g fd ps (spF nm X.K X.mg n f)) (hl : ALen a n) (hr : Room k X.A) (hg : Gl X x) (hm : X.mg x = some (.ref g)) (hk : PySem.W.keepIn X.K (.ref g) = true) (hb : Binds X.K fd ps [])
    (ha : PXA nm X (e :: es) a) (hdb : (x == ("__debug__" : Str)) = false) (he : starEach (e :: es) X.env = (false, eval e X.env) :: starEach es X.env) (hpl : (backTo pos (starEach es X.env)).any (·.1) = false) : PX nm X (.Call (.Name x p) (e :: es) [] pos) (eCall f a) :=
  PE.imp (pe_call F hr hg hm hk hb .nil pass0 ha hdb he hpl) fun σ H Q h => call_read hl h
theorem meth_read {c : Nat} {C : Addr} {fl : List Nat} {m : Str} {f : Fn} {o : E} {a : A} {n : Nat} (k : ClsOk nm X.K X.mg c C fl) (hm : ∀ f, nm.fld f ≠ m) (hl : ALen a n) {σ : L2.St} {H : Hp} {Q : VK} (h : rE nm X (eMeth c f o a) σ H Q) : tMeth C m (spF nm X.K X.mg (n + 1) f) [] E0 (rE nm X o) (rA nm X a) σ H Q := by
  obtain ⟨M, ρ, S, d, S', rs, re, h, kk⟩ := h
  unfold eMeth at h
  obtain ⟨x, S1, h1, h⟩ := bind_inv h
  refine rE.go rs re h1 fun M1 H1 v e1 r1 q1 => ?_
  cases x with
  | ref nn =>
    dsimp only at h
    split at h
    · rename_i fs ei
      obtain ⟨xs, S2, h2, h⟩ := bind_inv h
      obtain ⟨b, rfl, hb⟩ := q1.ref
      obtain ⟨dx, gs, h3, h4⟩ := ins_rel r1 k hb ei
      have nl : ∀ {fs : List (Nat × D)} {gs : List (Str × V)}, RelFs nm X.K M1 H1 fs gs → gs.lookup m = none := by
        intro fs
        induction fs with
        | nil => intro gs q; have e : gs = [] := q; subst e; rfl
        | cons p t ih =>
          intro gs q
          obtain ⟨w, qs, rfl, _, q2⟩ := q
          have e : (m == nm.fld p.1) = false := by rw [beq_eq_false_iff_ne]; exact fun z => hm _ z.symm
          simp only [List.lookup, e]
          exact ih q2
      refine ⟨b, dx, gs, rfl, h3, nl h4, ?_⟩
      refine rA.go r1 (re.ext rs e1) h2 fun M2 H2 vs e2 r2 q2 => ?_
      rw [List.append_nil]
      exact ⟨M2, _, .ref nn :: xs, d, S', r2, .cons (RelD.ext r1 e2 q1) q2, by rw [List.length_cons, ← q2.length]; exact congrArg (· + 1) (hl _ _ _ _ h2), h, fun M3 H3 v e3 r3 q3 => kk M3 H3 v ((e1.trans e2).trans e3) r3 q3⟩
    · cases h
  | _ => cases h
theorem px_meth {k c n : Nat} {C g : Addr} {fl : List Nat} {m : Str} {fd : FuncData} {ps : List Str} {apos pos : Pos} {o e : Expr} {es : List Expr} {f : Fn} {fo : E} {a : A} {pl : Sem Bool} (ko : ClsOk nm X.K X.mg c C fl) (hnm : ∀ f, nm.fld f ≠ m) (hm : Meth X.K C m g) (F : FnOk X.prog X.w X.K X.mg X.base CX0 k g fd ps (spF nm X.K X.mg (n + 1) f)) (hl : ALen a n) (hr : Room k X.A) (hb : Binds X.K fd ps [])
    (ho : PX nm X o fo) (ha : PXA nm X (e :: es) a) (hst : starEach (e :: es) X.env = (false, eval e X.env) :: starEach es X.env) (hpl : (backTo pos (starEach es X.env)).any (·.1) = false)
    (ht : eval (.Call (.Attribute o m apos) (e :: es) [] pos) X.env = (do
      let ov ← eval o X.env
      standAt apos.atName
      let (f, first) ← holding [ov] (getMethod ov m pl)
      callWith pos f first (backTo pos (starEach (e :: es) X.env)) (backToKw pos (keywordEach [] X.env)))) : PX nm X (.Call (.Attribute o m apos) (e :: es) [] pos) (eMeth c f fo a) :=
  PE.imp (pe_meth (dvs := []) (ds := []) ho ko.cl hm F hr hb .nil pass0 ha hst hpl ht) fun σ H Q h => meth_read ko hnm hl h
theorem px_meth0 {k c : Nat} {C g : Addr} {fl : List Nat} {m : Str} {fd : FuncData} {ps : List Str} {apos pos : Pos} {o : Expr} {f : Fn} {fo : E} {pl : Sem Bool} (ko : ClsOk nm X.K X.mg c C fl) (hnm : ∀ f, nm.fld f ≠ m) (hm : Meth X.K C m g) (F : FnOk X.prog X.w X.K X.mg X.base CX0 k g fd ps (spF nm X.K X.mg 1 f)) (hr : Room k X.A) (hb : Binds X.K fd ps [])
    (ho : PX nm X o fo)
    (ht : eval (.Call (.Attribute o m apos) [] [] pos) X.env = (do
      let ov ← eval o X.env
      standAt apos.atName
      let (f, first) ← holding [ov] (getMethod ov m pl)
      callWith pos f first (backTo pos (starEach [] X.env)) (backToKw pos (keywordEach [] X.env)))) : PX nm X (.Call (.Attribute o m apos) [] [] pos) (eMeth c f fo aNil) :=
  PE.imp (pe_meth0 (dvs := []) (ds := []) ho ko.cl hm F hr hb .nil pass0 ht) fun σ H Q h => by
    obtain ⟨M, ρ, S, d, S', rs, re, h, kk⟩ := h
    have z := meth_read (m := m) ko hnm (n := 0) (fun ρ S ds S' h => by unfold aNil at h; cases h; rfl) (show rE nm X (eMeth c f fo aNil) σ H Q from ⟨M, ρ, S, d, S', rs, re, h, kk⟩)
    obtain ⟨M, ρ, S, x, S1, rs, re, h1, k1⟩ := z
    refine ⟨M, ρ, S, x, S1, rs, re, h1, fun M1 H1 v e1 r1 q1 => ?_⟩
    obtain ⟨b, dx, gs, h2, h3, h4, M2, ρ2, S2, xs, S3, r2, re2, h5, k5⟩ := k1 M1 H1 v e1 r1 q1
    unfold aNil at h5
    cases h5
    exact ⟨b, dx, gs, h2, h3, h4, k5 M2 H1 [] Ext.refl r2 .nil⟩
/-- C(..) -/
theorem px_make {k c n : Nat} {C g : Addr} {fl : List Nat} {x : Str} {fd : FuncData} {ps : List Str} {p pos : Pos} {e : Expr} {es : List Expr} {f : Fn} {a : A} (ko : ClsOk nm X.K X.mg c C fl) (ex : x = nm.cls c) (Mk0 : Mk X.K C g) (F : FnOk X.prog X.w X.K X.mg X.base CX0 k g fd ps (spF nm X.K X.mg (n + 1) f)) (hl : ALen a n) (hr : Room (k + 1) X.A) (hg : Gl X x) (hb : Binds X.K fd ps [])
    (ha : PXA nm X (e :: es) a) (hdb : (x == ("__debug__" : Str)) = false) (he : starEach (e :: es) X.env = (false, eval e X.env) :: starEach es X.env) (hpl : (backTo pos (starEach es X.env)).any (·.1) = false) : PX nm X (.Call (.Name x p) (e :: es) [] pos) (eMake c f a) := by
  refine PE.imp (pe_make (dvs := []) (ds := []) Mk0 F hr hg (by rw [ex]; exact ko.mgC) hb .nil pass0 ha hdb he hpl) fun σ H Q ⟨M, ρ, S, d, S', rs, re, h, kk⟩ => ?_
  unfold eMake at h
  obtain ⟨xs, S1, h1, h⟩ := bind_inv h
  obtain ⟨r, S2, h2, h⟩ := bind_inv h
  split at h
  · rename_i er
    cases h
    subst er
    refine rA.go rs re h1 fun M1 H1 vs e1 r1 q1 => fun a dx ha hdx ne => ?_
    have hx2 : upd H1 dx (.own a) a = none := by rw [upd_ne (Ne.symm ne)]; exact ha
    have e2 : Ext M1 H1 M1 (upd H1 dx (.own a)) := Ext.tup hdx
    have r2 := r1.tup (o := .own a) hdx
    have e3 : Ext M1 (upd H1 dx (.own a)) (M1 ++ [a]) (upd (upd H1 dx (.own a)) a (.ins C dx [])) := Ext.push hx2
    have r3 : RelS nm X.K X.mg (M1 ++ [a]) (S1 ++ [.ins c []]) (upd (upd H1 dx (.own a)) a (.ins C dx [])) := r2.push hx2 ⟨C, dx, [], upd_same, ko.mgC, rfl⟩
    rw [List.append_nil]
    have ee := e2.trans e3
    refine ⟨M1 ++ [a], S1 ++ [.ins c []], .ref S1.length :: xs, .non, _, r3, .cons ?_ (RelDs.ext r1 ee q1), ?_, h2, fun M4 H4 v e4 r4 q4 => ⟨by unfold RelD at q4; exact q4, ?_⟩⟩
    · unfold RelD
      exact ⟨a, rfl, r1.last⟩
    · rw [List.length_cons, ← q1.length]
      exact congrArg (· + 1) (hl _ _ _ _ h1)
    · refine kk M4 H4 _ ((e1.trans ee).trans e4) r4 ?_
      unfold RelD
      exact ⟨a, rfl, e4.get r1.last⟩
  · cases h
theorem alen_nil : ALen aNil 0 := len_nil
theorem alen_cons {f : E} {r : A} {n : Nat} (h : ALen r n) : ALen (aCons f r) (n + 1) := len_cons h
end
/-! ### a def keeps its promise -/
theorem fn_ok {nm : Nm} {P : Program} {w : World} {K : PySem.W.Frag} {mg : Str → Option Value} {base : Heap} {x qual : Str} {st : Stmt} {f : Addr} {fd : FuncData} {N ps : List Str} {k : Nat} {b : St} (F : Fun K x qual st f fd) (Sc : FnScope N ps (defScope st))
    (hb : ∀ (cdv : Value) (A : Around) (outer : List PySem.Env) (s : Shared) (H : Hp) (E : XK), Room k (A.deeper (PyProof.Rows.envOfC qual (defScope st) s.heap.objs.size f cdv)) → PXSs nm (cxOf CX0 P w K mg base N qual (defScope st) f cdv A outer s H E).nox (defBody st) b) :
    FnOk P w K mg base CX0 (k + 1) f fd ps (spF nm K mg ps.length (fn N.length b)) := by
  refine F.ok Sc (fun vs H Q E h => len_arg h) (fun cdv A outer s H vs Q E hr h => ⟨_, hb cdv A outer s H E hr, ?_⟩)
  obtain ⟨M, S, ds, d, S', rs, q, hl, h, k⟩ := h
  unfold fn at h
  split at h
  · rename_i c
    obtain ⟨r, S1, h1, h⟩ := bind_inv h
    have hN : ps.length ≤ N.length := by have := congrArg List.length Sc.pre; rw [List.length_take] at this; omega
    refine ⟨M, ds.map some ++ List.replicate (N.length - ds.length) none, S, r, S1, rs, ?_, h1, fun M1 H1 σ1 e1 r1 re1 => ?_⟩
    · unfold L2.start
      rw [q.length]
      refine ⟨by simp [q.length], fun i d hi => ?_⟩
      by_cases hlt : i < ds.length
      · rw [List.getElem?_append_left (by simpa using hlt), List.getElem?_map] at hi
        cases e : ds[i]? with
        | none => rw [e] at hi; cases hi
        | some d' =>
          rw [e] at hi
          cases hi
          obtain ⟨v, h1, h2⟩ := q.get e
          refine ⟨v, ?_, h2⟩
          rw [List.getElem?_append_left (by rw [List.length_map, ← q.length]; exact hlt), List.getElem?_map, h1]
          rfl
      · rw [List.getElem?_append_right (by simpa using hlt), List.getElem?_replicate] at hi
        split at hi <;> cases hi
    · cases ef : r.1 with
      | nx => rw [ef] at h; cases h; exact k M1 H1 .non e1 r1 .mkN
      | rt d' => rw [ef] at h; cases h; exact fun v qv => k M1 H1 v e1 r1 qv
      | bk => rw [ef] at h; cases h
      | ct => rw [ef] at h; cases h
  · cases h
end PF
end
section
set_option Elab.async false
set_option linter.all false
set_option maxRecDepth 100003
set_option maxHeartbeats 2000003
set_option autoImplicit false
namespace PF
open PySem L2
section
variable {nm : Nm} {X : Cx} {M M' : List Addr} {H H' : Hp} {S S' S1 : Sto} {ρ : Env} {σ : L2.St} {Q : VK} {d : D}
/-! ### a op b op c -/
theorem chain_read {r r' : R2} {g g' : D → D → PF.M D} {fa fb fc : E} (hg : Op2 nm X r g) (hg' : Op2 nm X r' g') (h : rE nm X (eChain g g' fa fb fc) σ H Q) : tChain r r' (rE nm X fa) (rE nm X fb) (rE nm X fc) σ H Q := by
  obtain ⟨M, ρ, S, d, S', rs, re, h, k⟩ := h
  unfold eChain at h
  obtain ⟨x, S1, h1, h⟩ := bind_inv h
  obtain ⟨y, S2, h2, h⟩ := bind_inv h
  obtain ⟨z, S3, h3, h⟩ := bind_inv h
  refine rE.go rs re h1 fun M1 H1 vx e1 r1 q1 => ?_
  refine rE.go r1 (re.ext rs e1) h2 fun M2 H2 vy e2 r2 q2 => ?_
  refine hg M2 S2 H2 x y vx vy z S3 _ r2 (RelD.ext r1 e2 q1) q2 h3 fun M3 H3 v e3 r3 q3 => ?_
  cases z with
  | bl c =>
    refine ⟨c, q3.bl, ?_⟩
    have re3 := ((re.ext rs e1).ext r1 e2).ext r2 e3
    cases c with
    | true =>
      obtain ⟨w, S4, h4, h⟩ := bind_inv h
      refine iteT (rE.go r3 re3 h4 fun M4 H4 vw e4 r4 q4 => ?_)
      exact hg' M4 S4 H4 y w vy vw d S' Q r4 (RelD.ext r3 e4 (RelD.ext r2 e3 q2)) q4 h (k.ext (((e1.trans e2).trans e3).trans e4))
    | false =>
      cases h
      exact iteF (k M3 H3 _ ((e1.trans e2).trans e3) r3 .mkB)
  | _ => cases h
theorem px_chain {op op' : CmpOp} {r r' : R2} {g g' : D → D → PF.M D} {a b c : Expr} {fa fb fc : E} {pos : Pos} (ho : OpR X (compareOp op) r) (hg : Op2 nm X r g) (ho' : OpR X (compareOp op') r') (hg' : Op2 nm X r' g') (ha : PX nm X a fa) (hb : PX nm X b fb) (hc : PX nm X c fc)
    (hm : lastMarks [op, op'] [b, c] = false) : PX nm X (.Compare a [op, op'] [b, c] pos) (eChain g g' fa fb fc) := PE.imp (pe_chain ho ho' ha hb hc hm) fun σ H Q h => chain_read hg hg' h
theorem pxt_chain {op op' : CmpOp} {r r' : R2} {g g' : D → D → PF.M D} {a b c : Expr} {fa fb fc : E} {pos : Pos} (ho : OpR X (compareOp op) r) (hg : Op2 nm X r g) (ho' : OpR X (compareOp op') r') (hg' : Op2 nm X r' g') (ha : PX nm X a fa) (hb : PX nm X b fb) (hc : PX nm X c fc)
    (hm : lastMarks [op, op'] [b, c] = false) : PXT nm X (.Compare a [op, op'] [b, c] pos) (tE (eChain g g' fa fb fc)) := pxt_of (PT.imp (pt_chain ho ho' ha hb hc hm) fun σ H Q h => chain_read hg hg' h)
/-! ### a, b = x, y -/
theorem pxs_par2 {i j : Nat} {x y : Str} {a b : Expr} {f : A} {px py pt pos : Pos} {kt k2 pt2} (hc : X.calm = true) (hN : X.N.Nodup) (hi : X.N[i]? = some x) (hj : X.N[j]? = some y) (hij : i ≠ j)
    (hx : X.env.scope.names.lookup x = some .local) (hy : X.env.scope.names.lookup y = some .local) (ha : PXA nm X [a, b] f)
    (hw : swappedStores [.Tuple [.Name x px, .Name y py] kt pt] (.Tuple [a, b] k2 pt2) X.env = pure (some [x, y]))
    (hs : swapsWithSole [.Tuple [.Name x px, .Name y py] kt pt] (.Tuple [a, b] k2 pt2) pos.line X.env = pure false) :
    PXS nm X (.Assign [.Tuple [.Name x px, .Name y py] kt pt] (.Tuple [a, b] k2 pt2) pos) (sPar [i, j] f) :=
  PS.imp (ps_par hc hN hi hj hij hx hy ha hw hs) fun σ H D ⟨M, ρ, S, r, S', rs, re, h, k⟩ => by
    unfold sPar at h
    obtain ⟨xs, S1, h1, h⟩ := bind_inv h
    split at h
    · rename_i ρ1 e1
      cases h
      refine rA.go rs re h1 fun M1 H1 vs e2 r2 q2 => ?_
      match xs, e1 with
      | [d1, d2], e1 =>
        obtain ⟨v, w, rfl, q3, q4⟩ := q2.two
        cases e1
        exact ⟨v, w, rfl, k M1 H1 _ e2 r2 (((re.ext rs e2).set q3).set q4)⟩
      | [], e1 => cases e1
      | [_], e1 => cases e1
      | _ :: _ :: _ :: _, e1 => cases e1
    · cases h
theorem RelDs.three {K : PySem.W.Frag} {x y z : D} {vs : List V} (h : RelDs K M H [x, y, z] vs) : ∃ v u w, vs = [v, u, w] ∧ RelD K M H x v ∧ RelD K M H y u ∧ RelD K M H z w := by
  unfold RelDs at h
  obtain ⟨v, q, rfl, h1, h2⟩ := h
  obtain ⟨u, w, rfl, h3, h4⟩ := RelDs.two h2
  exact ⟨v, u, w, rfl, h1, h3, h4⟩
theorem pxs_par3 {i j l : Nat} {x y z : Str} {a b c : Expr} {f : A} {px py pz pt pos : Pos} {kt k2 pt2} (hc : X.calm = true) (hN : X.N.Nodup) (hi : X.N[i]? = some x) (hj : X.N[j]? = some y) (hl : X.N[l]? = some z) (hij : i ≠ j) (hil : i ≠ l) (hjl : j ≠ l)
    (hx : X.env.scope.names.lookup x = some .local) (hy : X.env.scope.names.lookup y = some .local) (hz : X.env.scope.names.lookup z = some .local) (ha : PXA nm X [a, b, c] f)
    (hw : swappedStores [.Tuple [.Name x px, .Name y py, .Name z pz] kt pt] (.Tuple [a, b, c] k2 pt2) X.env = pure (some [x, y, z]))
    (hs : swapsWithSole [.Tuple [.Name x px, .Name y py, .Name z pz] kt pt] (.Tuple [a, b, c] k2 pt2) pos.line X.env = pure false) :
    PXS nm X (.Assign [.Tuple [.Name x px, .Name y py, .Name z pz] kt pt] (.Tuple [a, b, c] k2 pt2) pos) (sPar [i, j, l] f) :=
  PS.imp (ps_par3 hc hN hi hj hl hij hil hjl hx hy hz ha hw hs) fun σ H D ⟨M, ρ, S, r, S', rs, re, h, k⟩ => by
    unfold sPar at h
    obtain ⟨xs, S1, h1, h⟩ := bind_inv h
    split at h
    · rename_i ρ1 e1
      cases h
      refine rA.go rs re h1 fun M1 H1 vs e2 r2 q2 => ?_
      match xs, e1 with
      | [d1, d2, d3], e1 =>
        obtain ⟨v, w, u, rfl, q3, q4, q5⟩ := q2.three
        cases e1
        exact ⟨v, w, u, rfl, k M1 H1 _ e2 r2 ((((re.ext rs e2).set q3).set q4).set q5)⟩
      | [], e1 => cases e1
      | [_], e1 => cases e1
      | [_, _], e1 => cases e1
      | _ :: _ :: _ :: _ :: _, e1 => cases e1
    · cases h
/-! ### dict([..]) -/
theorem pairs_of_list : ∀ {ds : List D} {ps : List (D × D)} {vs : List V}, pairs? ds = some ps → RelDs X.K M H ds vs → ∃ (as : List Addr) (kvs : List (Key × V)), vs = as.map V.ref ∧ Paired (fun p kv => SqT X.K H p [kV kv.1, kv.2]) as kvs ∧ RelKs X.K M H ps kvs
  | [], _, _, h, q => by
    unfold RelDs at q
    subst q
    cases h
    exact ⟨[], [], rfl, .nil, rfl⟩
  | .tup [k, v] :: r, ps, _, h, q => by
    unfold RelDs at q
    obtain ⟨u, us, rfl, q1, q2⟩ := q
    unfold pairs? at h
    split at h
    · rename_i c
      cases e : pairs? r with
      | none => rw [e] at h; cases h
      | some ps' =>
        rw [e] at h
        cases h
        obtain ⟨as, kvs, rfl, p, qk⟩ := pairs_of_list e q2
        obtain ⟨a, ws, rfl, ha, qa⟩ := q1.tup
        obtain ⟨w1, w2, rfl, qa1, qa2⟩ := RelDs.two qa
        obtain ⟨kk, rfl, rfl⟩ := key_of_D c qa1
        exact ⟨a :: as, (kk, w2) :: kvs, rfl, .cons ha p, kk, w2, kvs, rfl, rfl, qa2, qk⟩
    · cases h
  | .non :: _, _, _, h, _ => by cases h
  | .bl _ :: _, _, _, h, _ => by cases h
  | .int _ :: _, _, _, h, _ => by cases h
  | .str _ :: _, _, _, h, _ => by cases h
  | .ref _ :: _, _, _, h, _ => by cases h
  | .tup [] :: _, _, _, h, _ => by cases h
  | .tup [_] :: _, _, _, h, _ => by cases h
  | .tup (_ :: _ :: _ :: _) :: _, _, _, h, _ => by cases h
theorem opn_dict : OpN nm X (fun xs H Q => ∃ (a : Addr) (ps : List Addr) (kvs : List (Key × V)), xs = [.ref a] ∧ SqL X.K H a (ps.map V.ref) ∧ Paired (fun p kv => SqT X.K H p [kV kv.1, kv.2]) ps kvs ∧ ∀ p, H p = none → Q (.ref p) (upd H p (.dK (mergeK [] kvs)))) fDict := by
  intro M S H xs vs d S' Q rs q h k
  unfold fDict at h
  split at h
  · rename_i n
    split at h
    · rename_i ds ew
      split at h
      · rename_i ps ep
        split at h
        · rename_i c
          cases h
          obtain ⟨v, rfl, q1⟩ := q.one
          obtain ⟨a, rfl, ha⟩ := q1.ref
          obtain ⟨ws, ka, qa⟩ := lst_wr rs ha (wr_lst ew)
          obtain ⟨as, kvs, rfl, p, qk⟩ := pairs_of_list ep qa
          refine ⟨a, as, kvs, rfl, .inl (.inl ka), p, fun l hl => ?_⟩
          refine k _ _ _ (Ext.push hl) (rs.push hl ⟨_, upd_same, putAll_rel (show RelKs X.K _ _ [] [] from rfl) (RelKs.ext rs (Ext.push hl) qk)⟩) ?_
          unfold RelD
          exact ⟨l, rfl, rs.last⟩
        · cases h
      · cases h
    · cases h
  · cases h
/-! ### d.update(e) -/
theorem nodup_ix {l : List Addr} (h : l.Nodup) {i j : Nat} (hi : i < l.length) (hj : j < l.length) (e : l[i] = l[j]) : i = j := by
  rcases Nat.lt_trichotomy i j with z | z | z
  · exact absurd e (List.pairwise_iff_getElem.mp h i j hi hj z)
  · exact z
  · exact absurd e.symm (List.pairwise_iff_getElem.mp h j i hj hi z)
theorem px_upd {o e : Expr} {fo fe : E} {apos cpos : Pos} (ho : PX nm X o fo) (he : PX nm X e fe) (m : M1 X o "update" apos e cpos) : PX nm X (.Call (.Attribute o "update" apos) [e] [] cpos) (eUpd fo fe) := by
  refine ⟨fun pins s σ H Q I h => ?_⟩
  obtain ⟨M, ρ, S, d, S', rs, re, h, k⟩ := h
  unfold eUpd at h
  obtain ⟨x, S1, h1, h⟩ := bind_inv h
  refine wpAny_Call_method m.base m.few m.line PySem.F.plainAttrs_dict PySem.F.slot_dict_update PySem.F.type_dict_update (thn (ho.run pins s σ H (fun v H1 => ∃ M1, Ext M H M1 H1 ∧ RelS nm X.K X.mg M1 S1 H1 ∧ RelD X.K M1 H1 x v) I (rE.go rs re h1 fun M1 H1 v e1 r1 q1 => ⟨M1, e1, r1, q1⟩)) fun u s1 ⟨v, H1, I1, rx, M1, e1, r1, q1⟩ => ?_)
  cases x with
  | ref n =>
    dsimp only at h
    split at h
    · rename_i kvs0 ek0
      obtain ⟨y, S2, h2, h⟩ := bind_inv h
      obtain ⟨a, rfl, ha⟩ := q1.ref
      obtain ⟨ps0, ka0, _⟩ := dic_rel r1 ha ek0
      obtain rfl : u = Value.ref a := rx
      obtain ⟨t1, t2, _⟩ := isD_at I1 (.inl ⟨ps0, .inl ka0⟩)
      refine ⟨t1, t2, ?_⟩
      rw [m.trees]
      refine Calls.callWith_builtin rfl (Calls.evalArgs_plain (Calls.spliced_cons (thn (he.run pins s1 σ H1 (fun v H2 => ∃ M2, Ext M1 H1 M2 H2 ∧ RelS nm X.K X.mg M2 S2 H2 ∧ RelD X.K M2 H2 y v) I1 (rE.go r1 (re.ext rs e1) h2 fun M2 H2 v e2 r2 q2 => ⟨M2, e2, r2, q2⟩)) fun iv s2 ⟨vy, H2, I2, ry, M2, e2, r2, q2⟩ => Calls.spliced_nil ?_)))
      unfold mUpdate at h
      cases y with
      | ref m' =>
        dsimp only at h
        split at h
        · rename_i kvs ps ek ep
          split at h
          · rename_i c
            cases h
            obtain ⟨b, rfl, hb⟩ := q2.ref
            obtain rfl : iv = Value.ref b := ry
            have ha2 := e2.get ha
            obtain ⟨g1, ka, qa⟩ := dic_rel r2 ha2 ek
            obtain ⟨g2, kb, qb⟩ := dic_rel r2 hb ep
            have hab : a ≠ b := fun z => by
              subst z
              obtain ⟨l1, z1⟩ := List.getElem?_eq_some_iff.mp ha2
              obtain ⟨l2, z2⟩ := List.getElem?_eq_some_iff.mp hb
              exact c.1 ((nodup_ix r2.nd l1 l2 (z1.trans z2.symm)))
            obtain ⟨z1, lo1, vs1, rel1, d1⟩ := dk_of I2.hok ka
            obtain ⟨z2, lo2, vs2, rel2, d2⟩ := dk_of I2.hok kb
            have hz : g1.length + g2.length ≤ 1000 := by rw [← qa.length, ← qb.length]; exact c.2
            refine call_meetsIn PySem.F.slot_dict_update d1.typeIs PySem.F.entry_dict_update (PySem.F.args_dict_update_2 _ _) (meets_dict_update (mixKind X.prog X.w) a b hab lo2)
              ⟨vs1, vs2, d1, d2, (by rw [← rel1.length, ← rel2.length, sizeLine_eq]; omega), fun h' hm1 hm2 hs => ?_⟩
            have hlen : (mergeK g1 g2).length ≤ sizeLine := by
              have z := length_mergeK g2 g1
              rw [sizeLine_eq]
              omega
            have he' : ∃ q, h'.get? a = some q := by
              obtain ⟨ob, _, _, w1, _⟩ := hm1
              exact ⟨ob, w1⟩
            have ex : Ext M2 H2 M2 (upd H2 a (.dK (mergeK g1 g2))) := Ext.set (List.mem_of_getElem? ha2)
            refine ⟨.non, _, d_write (t' := s2.toks) I2 (by rw [ka]; trivial) hs he' (dk_new hlen lo1 (KV.merge rel2 rel1) hm1), rfl, ?_⟩
            refine k _ _ _ ((e1.trans e2).trans ex) (r2.set ha2 ⟨_, upd_same, RelKs.ext r2 ex (putAll_rel qa qb)⟩) ?_
            unfold RelD
            rfl
          · cases h
        · cases h
      | _ => cases h
    · cases h
  | _ => cases h
/-! ### the module's tables: texts to texts -/
def TabEs : List (D × D) → List DictEntry → Prop
  | [], es => es = []
  | p :: r, es => ∃ (e : DictEntry) (q : List DictEntry) (k v : List Nat) (t u : Tok), es = e :: q ∧ p = (.str k, .str v) ∧ e.key = .str (strOf k) t ∧ e.val = .str (strOf v) u ∧ TabEs r q
def TabOk (X : Cx) (d : Addr) (t : List (D × D)) : Prop := ∃ es n, KDict X.K X.w d es n ∧ TabEs t es.toList
theorem tab_find : ∀ {t : List (D × D)} {es : List DictEntry} (k : List Nat), TabEs t es →
    (dget t (.str k) = none ∧ es.find? (·.key.isStr (strOf k)) = none ∧ es.any (·.refKey) = false) ∨ ∃ (v : List Nat) (e : DictEntry) (u : Tok), dget t (.str k) = some (.str v) ∧ es.find? (·.key.isStr (strOf k)) = some e ∧ e.val = .str (strOf v) u
  | [], _, k, h => by
    have e : _ = [] := h
    subst e
    exact .inl ⟨rfl, rfl, rfl⟩
  | p :: r, _, k, h => by
    obtain ⟨e, q, k', v, t, u, rfl, rfl, ek, ev, h⟩ := h
    unfold dget
    rw [List.find?_cons, List.find?_cons]
    by_cases c : k' = k
    · subst c
      have e1 : e.key.isStr (strOf k') = true := by rw [ek]; simp [Value.isStr]
      simp only [e1, decide_true]
      exact .inr ⟨v, e, u, rfl, rfl, ev⟩
    · have e1 : e.key.isStr (strOf k) = false := by
        rw [ek]
        show (strOf k' == strOf k) = false
        rw [beq_eq_false_iff_ne]
        exact fun z => c (strOf_inj z)
      have e2 : decide ((D.str k', D.str v).1 = D.str k) = false := decide_eq_false (fun z => c (by injection z))
      simp only [e1, e2]
      rcases tab_find k h with ⟨a, b, c'⟩ | w
      · refine .inl ⟨a, b, ?_⟩
        rw [List.any_cons, c']
        simp [DictEntry.refKey, ek]
      · exact .inr w
theorem tab_ns {a : Addr} {t : List (D × D)} {es : Array DictEntry} {n : Nat} (D0 : KDict X.K X.w a es n) (h : TabEs t es.toList) (k : List Nat) :
    (dget t (.str k) = none ∧ PySem.W.nsIn X.K a (strOf k) = some none) ∨ ∃ (v : List Nat) (u : Value), dget t (.str k) = some (.str v) ∧ PySem.W.nsIn X.K a (strOf k) = some (some u) ∧ RelV (.str (strOf v)) u := by
  unfold PySem.W.nsIn
  rw [D0.at_]
  dsimp only
  rcases tab_find k h with ⟨z1, z2, z3⟩ | ⟨v, e, u, z1, z2, z3⟩
  · rw [z2, z3]
    exact .inl ⟨z1, rfl⟩
  · rw [z2]
    exact .inr ⟨v, e.val, z1, rfl, u, z3⟩
/-- TABLE.get(k, x) -/
theorem px_kget {x : Str} {a : Addr} {t : List (D × D)} {e g : Expr} {fe fg : E} {p apos cpos : Pos} (T : TabOk X a t) (hgl : Gl X x) (hm : X.mg x = some (.ref a)) (hd : (x == ("__debug__" : Str)) = false) (he : PX nm X e fe) (hg : PX nm X g fg) (m : M2 X (.Name x p) "get" apos e g cpos) :
    PX nm X (.Call (.Attribute (.Name x p) "get" apos) [e, g] [] cpos) (e2 (kGet t) fe fg) := by
  refine ⟨fun pins s σ H Q I h => ?_⟩
  obtain ⟨M, ρ, S, d, S', rs, re, h, k⟩ := h
  obtain ⟨es, n, D0, te⟩ := T
  unfold e2 at h
  obtain ⟨y, S1, h1, h⟩ := bind_inv h
  obtain ⟨z, S2, h2, h⟩ := bind_inv h
  refine wpAny_Call_method m.base m.few m.line PySem.F.plainAttrs_dict PySem.F.slot_dict_get PySem.F.type_dict_get (thn ((pe_glob (v := .ref a) hgl hm rfl hd).run pins s σ H (fun v H1 => v = .ref a ∧ H1 = H) I ⟨rfl, rfl⟩) fun u s1 ⟨v, H1, I1, rx, ev, eH⟩ => ?_)
  subst ev eH
  obtain rfl : u = Value.ref a := rx
  have mp : ∀ {s : Shared}, L2.Inv X pins σ H1 s → s.heap.MapOf (PySem.strKind X.prog X.w) a (fun k => findBy Value.isStrOf es k) := fun I => PySem.W.mapOf_K (prog := X.prog) I.kIn D0.at_ D0.lit
  refine ⟨(mp I1).typeIs, (mp I1).noDict, ?_⟩
  rw [m.trees]
  refine Calls.callWith_builtin rfl (Calls.evalArgs_plain (Calls.spliced_cons (thn (he.run pins s1 σ H1 (fun v H2 => ∃ M2, Ext M H1 M2 H2 ∧ RelS nm X.K X.mg M2 S1 H2 ∧ RelD X.K M2 H2 y v) I1 (rE.go rs re h1 fun M2 H2 v e2 r2 q2 => ⟨M2, e2, r2, q2⟩)) fun iv s2 ⟨vy, H2, I2, ry, M2, e2, r2, q2⟩ =>
    Calls.spliced_cons (thn (hg.run pins s2 σ H2 (fun v H3 => ∃ M3, Ext M2 H2 M3 H3 ∧ RelS nm X.K X.mg M3 S2 H3 ∧ RelD X.K M3 H3 z v) I2 (rE.go r2 (re.ext rs e2) h2 fun M3 H3 v e3 r3 q3 => ⟨M3, e3, r3, q3⟩)) fun fv s3 ⟨vz, H3, I3, rz, M3, e3, r3, q3⟩ => Calls.spliced_nil ?_))))
  unfold kGet at h
  cases y with
  | str ky =>
    cases h
    obtain rfl := q2.str
    obtain ⟨tk, rfl⟩ := ry
    have mp3 : s3.heap.MapOf (PySem.strKind X.prog X.w) a (fun k => findBy Value.isStrOf es k) := PySem.W.mapOf_K (prog := X.prog) I3.kIn D0.at_ D0.lit
    refine call_meetsIn PySem.F.slot_dict_get mp3.typeIs PySem.F.entry_dict_get (PySem.F.args_dict_get_3 _ _ _) (meets_dict_get_default (PySem.strKind X.prog X.w) a (PySem.strKind_is X.prog X.w _ tk) D0.low fv) ⟨_, mp3, ?_⟩
    have kk := k.ext (e2.trans e3)
    rcases tab_ns D0 te ky with ⟨z1, z2⟩ | ⟨v, u, z1, z2, z3⟩
    · rw [PySem.W.find_K D0.at_ z2]
      rw [z1] at kk
      exact ⟨vz, H3, I3.tok _, rz, kk.here r3 q3⟩
    · rw [PySem.W.find_K D0.at_ z2]
      rw [z1] at kk
      exact ⟨_, H3, I3.tok _, z3, kk.here r3 .mkS⟩
  | _ => cases h
/-- TABLE[k] -/
theorem px_kix {x : Str} {a : Addr} {t : List (D × D)} {i : Expr} {fi : E} {p pos : Pos} (T : TabOk X a t) (hgl : Gl X x) (hm : X.mg x = some (.ref a)) (hd : (x == ("__debug__" : Str)) = false) (hi : PX nm X i fi) (hs : NoSl i) : PX nm X (.Subscript (.Name x p) i pos) (e1 (kIx t) fi) := by
  refine ⟨fun pins s σ H Q I h => ?_⟩
  obtain ⟨M, ρ, S, d, S', rs, re, h, k⟩ := h
  obtain ⟨es, n, D0, te⟩ := T
  unfold e1 at h
  obtain ⟨y, S1, h1, h⟩ := bind_inv h
  refine subD_of PySem.F.slot_dict_getitem.lookup hs (thn ((pe_glob (v := .ref a) hgl hm rfl hd).run pins s σ H (fun v H1 => v = .ref a ∧ H1 = H) I ⟨rfl, rfl⟩) fun u s1 ⟨v, H1, I1, rx, ev, eH⟩ => ?_)
  subst ev eH
  obtain rfl : u = Value.ref a := rx
  refine thn (hi.run pins s1 σ H1 (fun v H2 => ∃ M2, Ext M H1 M2 H2 ∧ RelS nm X.K X.mg M2 S1 H2 ∧ RelD X.K M2 H2 y v) I1 (rE.go rs re h1 fun M2 H2 v e2 r2 q2 => ⟨M2, e2, r2, q2⟩)) fun iv s2 ⟨vy, H2, I2, ry, M2, e2, r2, q2⟩ => ?_
  refine ⟨(PySem.W.mapOf_K (prog := X.prog) (w := X.w) I2.kIn D0.at_ D0.lit).typeIs, ?_⟩
  unfold kIx at h
  cases y with
  | str ky =>
    dsimp only at h
    split at h
    · rename_i d' ed
      cases h
      obtain rfl := q2.str
      rcases tab_ns D0 te ky with ⟨z1, z2⟩ | ⟨v, u, z1, z2, z3⟩
      · rw [z1] at ed; cases ed
      · rw [z1] at ed
        cases ed
        exact op_item_kd D0 pins s2 σ H2 (.ref a) (.str (strOf ky)) (.ref a) iv Q I2 rfl ry ⟨_, u, _, rfl, rfl, z2, z3, (k.ext e2).here r2 .mkS⟩
    · cases h
  | _ => cases h
/-- k not in TABLE -/
theorem pxt_kNotIn {x : Str} {a : Addr} {t : List (D × D)} {i : Expr} {fi : E} {p pos : Pos} (T : TabOk X a t) (hgl : Gl X x) (hm : X.mg x = some (.ref a)) (hd : (x == ("__debug__" : Str)) = false) (hi : PX nm X i fi) : PXT nm X (.Compare i [.NotIn] [.Name x p] pos) (tE (e1 (kNotIn t) fi)) := by
  obtain ⟨es, n, D0, te⟩ := T
  refine pxt_of (PT.imp (pt_cmpR (op_notIn_kd D0) hi (pe_glob (v := .ref a) hgl hm rfl hd) rfl) fun σ H Q ⟨M, ρ, S, d, S', rs, re, h, k⟩ => ?_)
  unfold e1 at h
  obtain ⟨y, S1, h1, h⟩ := bind_inv h
  refine rE.go rs re h1 fun M1 H1 v e1 r1 q1 => ?_
  unfold kNotIn at h
  cases y with
  | str ky =>
    cases h
    obtain rfl := q1.str
    rcases tab_ns D0 te ky with ⟨z1, z2⟩ | ⟨v, u, z1, z2, z3⟩
    · refine ⟨_, _, rfl, rfl, z2, ?_⟩
      rw [z1] at k
      exact k M1 H1 _ e1 r1 .mkB
    · refine ⟨_, _, rfl, rfl, z2, ?_⟩
      rw [z1] at k
      exact k M1 H1 _ e1 r1 .mkB
  | _ => cases h
end
end PF
end
section
set_option Elab.async false
set_option linter.all false
set_option maxRecDepth 100003
set_option maxHeartbeats 2000003
set_option autoImplicit false
/-! words for the program that prints derivations -/
namespace PF
open PySem L2
theorem hu1 {k : Nat} {A : Around} (h : Room k A) : A.units + 1 < cLine := by have := h.un; omega
theorem hu64 {k : Nat} {A : Around} (h : Room k A) : A.units + 64 < cLine := by have := h.un; omega
theorem hu65 {k : Nat} {A : Around} (h : Room k A) : A.units + 65 < cLine := by have := h.un; omega
def ndbg (x : Str) : Bool := !(x == ("__debug__" : Str)) && !(x == ("__classdict__" : Str))
/-- names of fields -/
def fldOf (ns : List Str) (n : Nat) : Str := match ns[n]? with
  | some s => s
  | none => ⟨(List.replicate (n + 100) 0).toArray⟩
theorem fldOf_inj {ns : List Str} (nd : ns.Nodup) (hl : ∀ x ∈ ns, x.cps.size < 100) (a b : Nat) (h : fldOf ns a = fldOf ns b) : a = b := by
  unfold fldOf at h
  cases ea : ns[a]? with
  | none =>
    cases eb : ns[b]? with
    | none =>
      rw [ea, eb] at h
      have h2 := congrArg (fun s : Str => s.cps.size) h
      simp at h2
      exact h2
    | some y =>
      rw [ea, eb] at h
      have h2 := congrArg (fun s : Str => s.cps.size) h
      have h3 := hl y (List.mem_of_getElem? eb)
      simp at h2
      omega
  | some x =>
    cases eb : ns[b]? with
    | none =>
      rw [ea, eb] at h
      have h2 := congrArg (fun s : Str => s.cps.size) h
      have h3 := hl x (List.mem_of_getElem? ea)
      simp at h2
      omega
    | some y =>
      rw [ea, eb] at h
      have e : x = y := h
      subst e
      obtain ⟨la, qa⟩ := List.getElem?_eq_some_iff.mp ea
      obtain ⟨lb, qb⟩ := List.getElem?_eq_some_iff.mp eb
      rcases Nat.lt_trichotomy a b with z | z | z
      · exact absurd (qa.trans qb.symm) (List.pairwise_iff_getElem.mp nd a b la lb z)
      · exact z
      · exact absurd (qb.trans qa.symm) (List.pairwise_iff_getElem.mp nd b a lb la z)
def nmOf (cs ns : List Str) (nd : ns.Nodup) (hl : ∀ x ∈ ns, x.cps.size < 100) : Nm := ⟨fun n => cs.getD n "", fldOf ns, fldOf_inj nd hl⟩
theorem fldOf_ne {ns : List Str} {m : Str} (h : m ∉ ns) (hm : m.cps.size < 100) (f : Nat) : fldOf ns f ≠ m := by
  unfold fldOf
  intro e
  cases q : ns[f]? with
  | none =>
    rw [q] at e
    have h2 := congrArg (fun s : Str => s.cps.size) e
    simp at h2
    omega
  | some y =>
    rw [q] at e
    have e : y = m := e
    subst e
    exact h (List.mem_of_getElem? q)
/-! facts of the module -/
def GlI (mg : Str → Option Value) (x : Str) (i : Int) : Prop := ∃ t, mg x = some (.int i t)
def GlS (mg : Str → Option Value) (x : Str) (s : List Nat) : Prop := ∃ t, mg x = some (.str (strOf s) t)
def GlT (K : PySem.W.Frag) (mg : Str → Option Value) (x : Str) (ds : List D) : Prop := ∃ a vs, mg x = some (.ref a) ∧ (∀ H, SqT K H a vs) ∧ ∀ M H, RelDs K M H ds vs
def GlD (K : PySem.W.Frag) (w : World) (mg : Str → Option Value) (x : Str) (t : List (D × D)) : Prop := ∃ a, mg x = some (.ref a) ∧ ∃ es n, KDict K w a es n ∧ TabEs t es.toList
/-- a def that keeps its promise -/
def Cal (nm : Nm) (P : Program) (w : World) (K : PySem.W.Frag) (mg : Str → Option Value) (base : Heap) (k : Nat) (x : Str) (ps : List Str) (f : Fn) : Prop :=
  ∃ g fd, FnOk P w K mg base CX0 k g fd ps (spF nm K mg ps.length f) ∧ mg x = some (.ref g) ∧ PySem.W.keepIn K (.ref g) = true ∧ Binds K fd ps []
/-- .. a method -/
def CalM (nm : Nm) (P : Program) (w : World) (K : PySem.W.Frag) (mg : Str → Option Value) (base : Heap) (k : Nat) (C : Addr) (m : Str) (ps : List Str) (f : Fn) : Prop :=
  ∃ g fd, FnOk P w K mg base CX0 k g fd ps (spF nm K mg ps.length f) ∧ Meth K C m g ∧ Binds K fd ps []
/-- .. an __init__ -/
def CalI (nm : Nm) (P : Program) (w : World) (K : PySem.W.Frag) (mg : Str → Option Value) (base : Heap) (k : Nat) (C : Addr) (ps : List Str) (f : Fn) : Prop :=
  ∃ g fd, FnOk P w K mg base CX0 k g fd ps (spF nm K mg ps.length f) ∧ Mk K C g ∧ Binds K fd ps []
section
variable {nm : Nm} {X : Cx}
theorem wv (nd : X.N.all ndbg = true) {i : Nat} {x : Str} {pos : Pos} (hN : X.N[i]? = some x) (hv : Vis X.env.scope x) : PX nm X (.Name x pos) (eVar i) := by
  have h := List.all_eq_true.mp nd x (List.mem_of_getElem? hN)
  unfold ndbg at h
  rw [Bool.and_eq_true, Bool.not_eq_true', Bool.not_eq_true'] at h
  exact px_var hN hv h.1 h.2
theorem wd_globI {x : Str} {i : Int} {pos : Pos} (h : GlI X.mg x i) (hg : Gl X x) (hd : (x == ("__debug__" : Str)) = false) : PX nm X (.Name x pos) (eC (.int i)) := by
  obtain ⟨t, h⟩ := h
  exact px_glob (v := .int i) hg h ⟨t, rfl⟩ (.int i) hd
theorem wd_globS {x : Str} {s : List Nat} {pos : Pos} (h : GlS X.mg x s) (hg : Gl X x) (hd : (x == ("__debug__" : Str)) = false) : PX nm X (.Name x pos) (eC (.str s)) := by
  obtain ⟨t, h⟩ := h
  exact px_glob (v := .str (strOf s)) hg h ⟨t, rfl⟩ (.str rfl) hd
theorem wd_globT {x : Str} {ds : List D} {pos : Pos} (h : GlT X.K X.mg x ds) (hg : Gl X x) (hd : (x == ("__debug__" : Str)) = false) : PX nm X (.Name x pos) (eC (.tup ds)) := by
  obtain ⟨a, vs, h1, h2, h3⟩ := h
  exact px_globT hg h1 h2 h3 hd
theorem wd_kget {x : Str} {t : List (D × D)} {e g : Expr} {fe fg : E} {p apos cpos : Pos} (T : GlD X.K X.w X.mg x t) (hgl : Gl X x) (hd : (x == ("__debug__" : Str)) = false) (he : PX nm X e fe) (hg : PX nm X g fg) (m : M2 X (.Name x p) "get" apos e g cpos) :
    PX nm X (.Call (.Attribute (.Name x p) "get" apos) [e, g] [] cpos) (e2 (kGet t) fe fg) := by
  obtain ⟨a, hm, T⟩ := T
  exact px_kget T hgl hm hd he hg m
theorem wd_kix {x : Str} {t : List (D × D)} {i : Expr} {fi : E} {p pos : Pos} (T : GlD X.K X.w X.mg x t) (hgl : Gl X x) (hd : (x == ("__debug__" : Str)) = false) (hi : PX nm X i fi) (hs : NoSl i) : PX nm X (.Subscript (.Name x p) i pos) (e1 (kIx t) fi) := by
  obtain ⟨a, hm, T⟩ := T
  exact px_kix T hgl hm hd hi hs
theorem wd_kNotIn {x : Str} {t : List (D × D)} {i : Expr} {fi : E} {p pos : Pos} (T : GlD X.K X.w X.mg x t) (hgl : Gl X x) (hd : (x == ("__debug__" : Str)) = false) (hi : PX nm X i fi) : PXT nm X (.Compare i [.NotIn] [.Name x p] pos) (tE (e1 (kNotIn t) fi)) := by
  obtain ⟨a, hm, T⟩ := T
  exact pxt_kNotIn T hgl hm hd hi
theorem wd_call {k : Nat} {x : Str} {ps : List Str} {p pos : Pos} {e : Expr} {es : List Expr} {f : Fn} {a : A} (C : Cal nm X.prog X.w X.K X.mg X.base k x ps f) (hl : ALen a ps.length) (hr : Room k X.A) (hg : Gl X x)
    (ha : PXA nm X (e :: es) a) (hdb : (x == ("__debug__" : Str)) = false) (he : starEach (e :: es) X.env = (false, eval e X.env) :: starEach es X.env) (hpl : (backTo pos (starEach es X.env)).any (·.1) = false) : PX nm X (.Call (.Name x p) (e :: es) [] pos) (eCall f a) := by
  obtain ⟨g, fd, F, hm, hk, hb⟩ := C
  exact px_call F hl hr hg hm hk hb ha hdb he hpl
theorem wd_meth {k c : Nat} {C : Addr} {fl : List Nat} {m : Str} {ps : List Str} {q : Str} {apos pos : Pos} {o e : Expr} {es : List Expr} {f : Fn} {fo : E} {a : A} {pl : Sem Bool} (ko : ClsOk nm X.K X.mg c C fl) (hnm : ∀ f, nm.fld f ≠ m) (F : CalM nm X.prog X.w X.K X.mg X.base k C m (q :: ps) f) (hl : ALen a ps.length) (hr : Room k X.A)
    (ho : PX nm X o fo) (ha : PXA nm X (e :: es) a) (hst : starEach (e :: es) X.env = (false, eval e X.env) :: starEach es X.env) (hpl : (backTo pos (starEach es X.env)).any (·.1) = false)
    (ht : eval (.Call (.Attribute o m apos) (e :: es) [] pos) X.env = (do
      let ov ← eval o X.env
      standAt apos.atName
      let (f, first) ← holding [ov] (getMethod ov m pl)
      callWith pos f first (backTo pos (starEach (e :: es) X.env)) (backToKw pos (keywordEach [] X.env)))) : PX nm X (.Call (.Attribute o m apos) (e :: es) [] pos) (eMeth c f fo a) := by
  obtain ⟨g, fd, F, hm, hb⟩ := F
  exact px_meth ko hnm hm F hl hr hb ho ha hst hpl ht
theorem wd_meth0 {k c : Nat} {C : Addr} {fl : List Nat} {m : Str} {q : Str} {apos pos : Pos} {o : Expr} {f : Fn} {fo : E} {pl : Sem Bool} (ko : ClsOk nm X.K X.mg c C fl) (hnm : ∀ f, nm.fld f ≠ m) (F : CalM nm X.prog X.w X.K X.mg X.base k C m [q] f) (hr : Room k X.A)
    (ho : PX nm X o fo)
    (ht : eval (.Call (.Attribute o m apos) [] [] pos) X.env = (do
      let ov ← eval o X.env
      standAt apos.atName
      let (f, first) ← holding [ov] (getMethod ov m pl)
      callWith pos f first (backTo pos (starEach [] X.env)) (backToKw pos (keywordEach [] X.env)))) : PX nm X (.Call (.Attribute o m apos) [] [] pos) (eMeth c f fo aNil) := by
  obtain ⟨g, fd, F, hm, hb⟩ := F
  exact px_meth0 ko hnm hm F hr hb ho ht
theorem wd_make {k c : Nat} {C : Addr} {fl : List Nat} {x : Str} {ps : List Str} {q : Str} {p pos : Pos} {e : Expr} {es : List Expr} {f : Fn} {a : A} (ko : ClsOk nm X.K X.mg c C fl) (ex : x = nm.cls c) (F : CalI nm X.prog X.w X.K X.mg X.base k C (q :: ps) f) (hl : ALen a ps.length) (hr : Room (k + 1) X.A) (hg : Gl X x)
    (ha : PXA nm X (e :: es) a) (hdb : (x == ("__debug__" : Str)) = false) (he : starEach (e :: es) X.env = (false, eval e X.env) :: starEach es X.env) (hpl : (backTo pos (starEach es X.env)).any (·.1) = false) : PX nm X (.Call (.Name x p) (e :: es) [] pos) (eMake c f a) := by
  obtain ⟨g, fd, F, hm, hb⟩ := F
  exact px_make ko ex hm F hl hr hg hb ha hdb he hpl
section
variable {e : Expr} {es : List Expr} {fa : A} {p pos : Pos}
theorem bv_len : bootBuiltins "len" = some (.builtin "len") := PySem.boot_len
theorem bv_min : bootBuiltins "min" = some (.builtin "min") := by decide +kernel
theorem bv_max : bootBuiltins "max" = some (.builtin "max") := by decide +kernel
theorem bv_sorted : bootBuiltins "sorted" = some (.builtin "sorted") := by decide +kernel
theorem bv_int : bootBuiltins "int" = some (.type "int") := by decide +kernel
theorem bv_list : bootBuiltins "list" = some (.type "list") := by decide +kernel
theorem bv_tuple : bootBuiltins "tuple" = some (.type "tuple") := by decide +kernel
theorem bv_dict : bootBuiltins "dict" = some (.type "dict") := by decide +kernel
theorem wd_len (hg : Gl X "len") (hm : X.mg "len" = none) (ha : PXA nm X (e :: es) fa) (he : starEach (e :: es) X.env = (false, eval e X.env) :: starEach es X.env) (hpl : (backTo pos (starEach es X.env)).any (·.1) = false) : PX nm X (.Call (.Name "len" p) (e :: es) [] pos) (eCall fLen fa) :=
  px_cb (pe_callB call_len hg hm bv_len ha (by decide +kernel) (by decide +kernel) he hpl) opn_len
theorem wd_min (hc : X.calm = true) (hg : Gl X "min") (hm : X.mg "min" = none) (ha : PXA nm X (e :: es) fa) (he : starEach (e :: es) X.env = (false, eval e X.env) :: starEach es X.env) (hpl : (backTo pos (starEach es X.env)).any (·.1) = false) : PX nm X (.Call (.Name "min" p) (e :: es) [] pos) (eCall fMin fa) :=
  px_cb (pe_callB (call_min2 hc) hg hm bv_min ha (by decide +kernel) (by decide +kernel) he hpl) opn_min
theorem wd_max (hc : X.calm = true) (hg : Gl X "max") (hm : X.mg "max" = none) (ha : PXA nm X (e :: es) fa) (he : starEach (e :: es) X.env = (false, eval e X.env) :: starEach es X.env) (hpl : (backTo pos (starEach es X.env)).any (·.1) = false) : PX nm X (.Call (.Name "max" p) (e :: es) [] pos) (eCall fMax fa) :=
  px_cb (pe_callB (call_max2 hc) hg hm bv_max ha (by decide +kernel) (by decide +kernel) he hpl) opn_max
theorem wd_sortedI (hg : Gl X "sorted") (hm : X.mg "sorted" = none) (ha : PXA nm X (e :: es) fa) (he : starEach (e :: es) X.env = (false, eval e X.env) :: starEach es X.env) (hpl : (backTo pos (starEach es X.env)).any (·.1) = false) : PX nm X (.Call (.Name "sorted" p) (e :: es) [] pos) (eCall fSortedI fa) :=
  px_cb (pe_callB cr_sortedI hg hm bv_sorted ha (by decide +kernel) (by decide +kernel) he hpl) opn_sortedI
theorem wd_int (hg : Gl X "int") (hm : X.mg "int" = none) (ha : PXA nm X (e :: es) fa) (he : starEach (e :: es) X.env = (false, eval e X.env) :: starEach es X.env) (hpl : (backTo pos (starEach es X.env)).any (·.1) = false) : PX nm X (.Call (.Name "int" p) (e :: es) [] pos) (eCall fInt fa) :=
  px_cb (pe_callTy call_int1 hg hm bv_int ha (by decide +kernel) (by decide +kernel) he hpl) opn_int
theorem wd_list (hg : Gl X "list") (hm : X.mg "list" = none) (ha : PXA nm X (e :: es) fa) (he : starEach (e :: es) X.env = (false, eval e X.env) :: starEach es X.env) (hpl : (backTo pos (starEach es X.env)).any (·.1) = false) : PX nm X (.Call (.Name "list" p) (e :: es) [] pos) (eCall fList fa) :=
  px_cb (pe_callTy call_list_of hg hm bv_list ha (by decide +kernel) (by decide +kernel) he hpl) opn_list
theorem wd_tuple (hg : Gl X "tuple") (hm : X.mg "tuple" = none) (ha : PXA nm X (e :: es) fa) (he : starEach (e :: es) X.env = (false, eval e X.env) :: starEach es X.env) (hpl : (backTo pos (starEach es X.env)).any (·.1) = false) : PX nm X (.Call (.Name "tuple" p) (e :: es) [] pos) (eCall fTuple fa) :=
  px_cb (pe_callTy call_tuple_of hg hm bv_tuple ha (by decide +kernel) (by decide +kernel) he hpl) opn_tuple
theorem wd_dict (hc : X.calm = true) (hg : Gl X "dict") (hm : X.mg "dict" = none) (ha : PXA nm X (e :: es) fa) (he : starEach (e :: es) X.env = (false, eval e X.env) :: starEach es X.env) (hpl : (backTo pos (starEach es X.env)).any (·.1) = false) : PX nm X (.Call (.Name "dict" p) (e :: es) [] pos) (eCall fDict fa) :=
  px_cb (pe_callTy (call_dictP hc) hg hm bv_dict ha (by decide +kernel) (by decide +kernel) he hpl) opn_dict
end
section
variable {o e : Expr} {fo fa : E} {apos cpos : Pos}
theorem wd_append (ho : PX nm X o fo) (ha : PX nm X e fa) (hbase : attributeBase o "append" X.env (eval o X.env) = eval o X.env)
    (hfew : ((backTo cpos (starEach [e] X.env)).all (fun x => !x.1) && (backToKw cpos (keywordEach [] X.env)).all (fun x => x.1.isSome) && decide ([e].length + ([] : List Keyword).length + (if ([] : List Keyword).isEmpty then 0 else 1) < 30)) = true)
    (hline : (apos.endLine == cpos.line) = true) (hs : starEach [e] X.env = (false, eval e X.env) :: starEach [] X.env) (hp : (backTo cpos (starEach [] X.env)).any (·.1) = false) : PX nm X (.Call (.Attribute o "append" apos) [e] [] cpos) (eM1 mAppend fo fa) :=
  px_m1 (pe_bm PySem.F.plainAttrs_list PySem.F.slot_list_append PySem.F.type_list_append mt_append ho (pa_cons ha pa_nil hs) hbase hfew hline hs hp) opm_append
theorem wd_pop (ho : PX nm X o fo) (ha : PX nm X e fa) (hbase : attributeBase o "pop" X.env (eval o X.env) = eval o X.env)
    (hfew : ((backTo cpos (starEach [e] X.env)).all (fun x => !x.1) && (backToKw cpos (keywordEach [] X.env)).all (fun x => x.1.isSome) && decide ([e].length + ([] : List Keyword).length + (if ([] : List Keyword).isEmpty then 0 else 1) < 30)) = true)
    (hline : (apos.endLine == cpos.line) = true) (hs : starEach [e] X.env = (false, eval e X.env) :: starEach [] X.env) (hp : (backTo cpos (starEach [] X.env)).any (·.1) = false) : PX nm X (.Call (.Attribute o "pop" apos) [e] [] cpos) (eM1 mPop fo fa) :=
  px_m1 (pe_bm PySem.F.plainAttrs_list PySem.F.slot_list_pop PySem.F.type_list_pop mt_popAt ho (pa_cons ha pa_nil hs) hbase hfew hline hs hp) opm_pop
theorem wd_extend (ho : PX nm X o fo) (ha : PX nm X e fa) (hbase : attributeBase o "extend" X.env (eval o X.env) = eval o X.env)
    (hfew : ((backTo cpos (starEach [e] X.env)).all (fun x => !x.1) && (backToKw cpos (keywordEach [] X.env)).all (fun x => x.1.isSome) && decide ([e].length + ([] : List Keyword).length + (if ([] : List Keyword).isEmpty then 0 else 1) < 30)) = true)
    (hline : (apos.endLine == cpos.line) = true) (hs : starEach [e] X.env = (false, eval e X.env) :: starEach [] X.env) (hp : (backTo cpos (starEach [] X.env)).any (·.1) = false) : PX nm X (.Call (.Attribute o "extend" apos) [e] [] cpos) (eM1 mExtend fo fa) :=
  px_m1 (pe_bm PySem.F.plainAttrs_list PySem.F.slot_list_extend PySem.F.type_list_extend mt_extend ho (pa_cons ha pa_nil hs) hbase hfew hline hs hp) opm_extend
theorem wd_popLast (ho : PX nm X o fo) (hbase : attributeBase o "pop" X.env (eval o X.env) = eval o X.env) (hline : (apos.endLine == cpos.line) = true) : PX nm X (.Call (.Attribute o "pop" apos) [] [] cpos) (eM0 mPopLast fo) :=
  px_m0 (pe_bm0 PySem.F.plainAttrs_list PySem.F.slot_list_pop PySem.F.type_list_pop mt_pop ho hbase hline) opm_popLast
end
end
end PF
end
section
set_option Elab.async false
set_option linter.all false
set_option maxRecDepth 100003
set_option maxHeartbeats 2000003
set_option autoImplicit false
/-! the end of a law -/
namespace PF
open PySem L2
/-- no list stands in what the top has left -/
def noList (K : PySem.W.Frag) : Bool := K.all fun p => match p.2.cls with
  | .type c => !decide (c = "list")
  | _ => true
theorem noList_ok {K : PySem.W.Frag} (h : noList K = true) {a : Addr} {o : Obj} (l : K.lookup a = some o) : o.cls ≠ .type "list" := by
  unfold noList at h
  have m : ∃ b, (b, o) ∈ K := by
    induction K with
    | nil => cases l
    | cons p r ih =>
      obtain ⟨b, u⟩ := p
      rw [List.all_cons, Bool.and_eq_true] at h
      unfold List.lookup at l
      split at l
      · cases l; exact ⟨b, List.mem_cons_self⟩
      · obtain ⟨c, hc⟩ := ih h.2 l
        exact ⟨c, List.mem_cons_of_mem _ hc⟩
  obtain ⟨b, hb⟩ := m
  have z := List.all_eq_true.mp h _ hb
  intro e
  simp [e] at z
theorem rel_script {K : PySem.W.Frag} {M : List Addr} {H : Hp} : ∀ is : List Int, RelDs K M H (is.map D.int) (is.map V.int)
  | [] => .nil
  | i :: is => .cons .mkI (rel_script is)
theorem law_sp {nm : Nm} {K : PySem.W.Frag} {mg : Str → Option Value} {f : Fn} {H : Hp} {a : Addr} {ns : List Int} {E : XK} (hK : noList K = true) (hO : Only H) (hS : SqL K H a (ns.map V.int)) (h : ∃ S', f [.ref 0] [.rol (ns.map D.int)] = .ok (.bl true) S') :
    spF nm K mg 1 f [.ref a] H (fun v _ => v = .bl true) E := by
  obtain ⟨S', h⟩ := h
  have hf : ∃ o, H a = some (.frz o (.lst (ns.map V.int))) := by
    rcases hS with (h | h) | ⟨o, its, n, h1, h2, _⟩
    · rcases hO a with e | ⟨o, xs, e⟩
      · rw [h] at e; cases e
      · rw [h] at e; cases e
    · exact h
    · exact absurd h2 (noList_ok hK h1)
  obtain ⟨o, hf⟩ := hf
  refine ⟨[a], [.rol (ns.map D.int)], [.ref 0], .bl true, S', ⟨rfl, by simp, fun n b ob h1 h2 => ?_⟩, ?_, rfl, h, fun M' H' v e r q => q.bl⟩
  · cases n with
    | zero => cases h1; cases h2; exact ⟨o, _, hf, rel_script ns⟩
    | succ n => cases h1
  · refine .cons ?_ .nil
    unfold RelD
    exact ⟨a, rfl, rfl⟩
theorem walk_pf {l : PySem.W.OpenLaw} {n k : Nat} {q : Program} {loose : List Str} {XP : (Str → Option Value) → Heap → Prop} {YP : World → Heap → Prop} {d : DefRec} {K : Params → PySem.W.Frag} {nm : Nm} {f : Fn} {x : Str}
    (hn : l.most = some n) (hn2 : n ≤ sizeLine) (hdf : d.params.defaults = []) (hr : Room k callerA)
    (hY : ∀ (w : World) (h : Heap), YP w h → (K w.params).In h) (hK : ∀ w : World, noList (K w.params) = true)
    (F : ∀ (w : World) (mg : Str → Option Value) (fa : Addr) (h : Heap), (K w.params).In h → h.Ns mainGlobals mg → mg d.name = some (.ref fa) →
      ∃ fd : FuncData, (∀ (s : Shared) (u : Value), BindsTo s fd ⟨[u], []⟩ [(x, u)]) ∧
        ∀ base : Heap, (K w.params).In base → base.Ns mainGlobals mg → FnOk l.prog w (K w.params) mg base CX0 k fa fd [x] (spF nm (K w.params) mg 1 f))
    (law : ∀ ns : List Int, ns.length ≤ n → ∃ S', f [.ref 0] [.rol (ns.map D.int)] = .ok (.bl true) S') :
    PySem.W.WalkO q loose XP YP l.row.toRowW d [] (fun f vs => PySem.call f vs) :=
  L2.walk_ofE hn hn2 hdf hr (fun w mg fa h Y G hmg => by
    obtain ⟨fd, hb, F⟩ := F w mg fa h (hY w h Y) G hmg
    exact ⟨K w.params, fd, _, hY w h Y, hb, fun H a ns hl hO hS => law_sp (hK w) hO hS (law ns hl), F⟩) (fun _ _ _ _ z => z)
theorem fn_bad {nm : Nm} {P : Program} {w : World} {K : PySem.W.Frag} {mg : Str → Option Value} {base : Heap} {k : Nat} {f : Addr} {fd : FuncData} {ps : List Str} : FnOk P w K mg base CX0 k f fd ps (spF nm K mg ps.length fun _ _ => .bad) :=
  ⟨fun vs H Q E h => len_arg h, fun A outer s H args us vs Q E hr he hb hv hs => by obtain ⟨_, _, _, _, _, _, _, _, h, _⟩ := hs; cases h⟩
/-! facts of defs -/
theorem at_mk {K : PySem.W.Frag} {h : Heap} {mg : Str → Option Value} {x qual : Str} {st : Stmt} {f : Addr} {ps : List Str} {oc : Value} {od an : Option Addr} {osl : Array (Option Value)} {kV doc pm cdv ct : Value} (X : K.In h) (G : h.Ns mainGlobals mg)
    (a : PySem.W.nsIn K mainGlobals x = some (some (.ref f))) (l : K.lookup f = some ⟨oc, od, .func (PySem.W.fnOf x qual (defArgs st) (defBody st) (defScope st) .none kV doc pm an cdv ct), osl⟩)
    (c : PySem.W.codeIn K cdv qual = true) (k : PySem.W.keepIn K (.ref f) = true)
    (hb : ∀ (kV doc pm : Value) (an : Option Addr) (cdv ct : Value) (us : List Value), us.length = ps.length → bindArgs (PySem.W.fnOf x qual (defArgs st) (defBody st) (defScope st) .none kV doc pm an cdv ct) ⟨us, []⟩ = pure (ps.zip us)) :
    ∃ fd, Fun K x qual st f fd ∧ mg x = some (.ref f) ∧ PySem.W.keepIn K (.ref f) = true ∧ Binds K fd ps [] :=
  ⟨_, fun_mk l c k, PySem.W.mg_of X G a, k, (fun_mk l c k).binds hb⟩
theorem atM_mk {K : PySem.W.Frag} {x qual : Str} {st : Stmt} {f C : Addr} {ps : List Str} {oc : Value} {od an : Option Addr} {osl : Array (Option Value)} {kV doc pm cdv ct : Value}
    (a : PySem.W.findIn K (.ref C) x = some (some (.ref f))) (i : PySem.W.isFn K (.ref f) = true) (l : K.lookup f = some ⟨oc, od, .func (PySem.W.fnOf x qual (defArgs st) (defBody st) (defScope st) .none kV doc pm an cdv ct), osl⟩)
    (c : PySem.W.codeIn K cdv qual = true) (k : PySem.W.keepIn K (.ref f) = true)
    (hb : ∀ (kV doc pm : Value) (an : Option Addr) (cdv ct : Value) (us : List Value), us.length = ps.length → bindArgs (PySem.W.fnOf x qual (defArgs st) (defBody st) (defScope st) .none kV doc pm an cdv ct) ⟨us, []⟩ = pure (ps.zip us)) :
    ∃ fd, Fun K x qual st f fd ∧ Meth K C x f ∧ Binds K fd ps [] :=
  ⟨_, fun_mk l c k, ⟨a, i, k⟩, (fun_mk l c k).binds hb⟩
theorem glI_mk {K : PySem.W.Frag} {h : Heap} {mg : Str → Option Value} {x : Str} {i : Int} {t : Tok} (X : K.In h) (G : h.Ns mainGlobals mg) (a : PySem.W.nsIn K mainGlobals x = some (some (.int i t))) : GlI mg x i := ⟨t, PySem.W.mg_of X G a⟩
theorem glS_mk {K : PySem.W.Frag} {h : Heap} {mg : Str → Option Value} {x y : Str} {s : List Nat} {t : Tok} (X : K.In h) (G : h.Ns mainGlobals mg) (e : strOf s = y) (a : PySem.W.nsIn K mainGlobals x = some (some (.str y t))) : GlS mg x s := ⟨t, by rw [e]; exact PySem.W.mg_of X G a⟩
def strsR : List (List Nat) → List Value → Prop
  | [], vs => vs = []
  | s :: r, vs => ∃ t q, vs = .str (strOf s) t :: q ∧ strsR r q
theorem strs_vals {ss : List (List Nat)} : ∀ {vs : List Value}, strsR ss vs → Vals (ss.map fun s => V.str (strOf s)) vs := by
  induction ss with
  | nil => intro vs h; have e : vs = [] := h; subst e; exact .nil
  | cons s r ih =>
    intro vs h
    obtain ⟨t, q, rfl, h⟩ := h
    exact .cons ⟨t, rfl⟩ (ih h)
theorem glT_mk {K : PySem.W.Frag} {h : Heap} {mg : Str → Option Value} {x : Str} {ss : List (List Nat)} {b : Addr} {its : Array Value} {od : Option Addr} {n : Nat} {sl : Array (Option Value)} (X : K.In h) (G : h.Ns mainGlobals mg) (a : PySem.W.nsIn K mainGlobals x = some (some (.ref b)))
    (l : K.lookup b = some ⟨.type "tuple", od, .seq its n, sl⟩) (hz : its.size ≤ 1000) (hs : strsR ss its.toList) : GlT K mg x (ss.map D.str) := by
  refine ⟨b, ss.map fun s => V.str (strOf s), PySem.W.mg_of X G a, fun H => .inr ⟨_, its, n, l, rfl, rfl, by rw [sizeLine_eq]; omega, strs_vals hs⟩, fun M H => ?_⟩
  induction ss generalizing its with
  | nil => exact .nil
  | cons s r ih => exact .cons .mkS (rel_strs r)
where rel_strs {K : PySem.W.Frag} {M : List Addr} {H : Hp} : ∀ ss : List (List Nat), RelDs K M H (ss.map D.str) (ss.map fun s => V.str (strOf s))
  | [] => .nil
  | s :: r => .cons .mkS (rel_strs r)
theorem glD_mk {K : PySem.W.Frag} {w : World} {h : Heap} {mg : Str → Option Value} {x : Str} {t : List (D × D)} {b : Addr} {es : Array DictEntry} {n : Nat} (X : K.In h) (G : h.Ns mainGlobals mg) (a : PySem.W.nsIn K mainGlobals x = some (some (.ref b)))
    (l : K.lookup b = some ⟨.type "dict", none, .dict es n, #[]⟩) (lo : (b == sysModules) = false) (hk : PySem.W.KeysLit w.params es.toList) (ht : TabEs t es.toList) : GlD K w mg x t := ⟨b, PySem.W.mg_of X G a, es, n, ⟨l, hk, lo⟩, ht⟩
end PF
end
section
set_option autoImplicit false
set_option maxRecDepth 100003
/-! printed by gen.py: the bodies of the laws' defs by PF -/
namespace PG
open PF
abbrev z_put : List Nat := [112, 117, 116]
abbrev z_copy : List Nat := [99, 111, 112, 121]
abbrev z_less : List Nat := [108, 101, 115, 115]
abbrev z_take : List Nat := [116, 97, 107, 101]
abbrev z_add : List Nat := [97, 100, 100]
abbrev z_call : List Nat := [99, 97, 108, 108]
abbrev z_say : List Nat := [115, 97, 121]
abbrev z_if : List Nat := [105, 102]
abbrev z_end : List Nat := [101, 110, 100]
abbrev z_go : List Nat := [103, 111]
abbrev z_long : List Nat := [108, 111, 110, 103]
abbrev z_d : List Nat := [100]
abbrev z_a : List Nat := [97]
abbrev z_n : List Nat := [110]
abbrev z_r : List Nat := [114]
abbrev z_dn : List Nat := [100, 110]
abbrev z_da : List Nat := [100, 97]
abbrev z_daa : List Nat := [100, 97, 97]
abbrev z_ar : List Nat := [97, 114]
abbrev z_empty : List Nat := []
def t_SHAPES : List (D × D) := [(.str z_put, .str z_dn), (.str z_copy, .str z_da), (.str z_add, .str z_daa), (.str z_take, .str z_daa), (.str z_less, .str z_daa), (.str z_call, .str z_da), (.str z_say, .str z_a), (.str z_if, .str z_ar), (.str z_go, .str z_r), (.str z_end, .str z_empty)]
/-! _law_begun: 0 _law_script, 1 _law_stirred, 2 _law_cell -/
def b__law_begun : St := sSeq (sSet 1 (eC (.int 0)))
  (sSeq (sFor (iSeq (eVar 0)) (PF.gName 2) (sSet 1 (e2 gMod (e2 gAdd (e2 gAdd (e2 gMul (eVar 1) (eC (.int 48271))) (e2 gMul (e2 gMod (eVar 2) (eC (.int 2147483647))) (eC (.int 69621)))) (eC (.int 11))) (eC (.int 2147483647)))))
  (sRet (eLst (aCons (eCall fList (aCons (eVar 0) (aNil))) (aCons (e2 gMul (eVar 1) (eCall fInt (aCons (e2 gGt (eCall fLen (aCons (eVar 0) (aNil))) (eC (.int 2))) (aNil)))) (aNil))))))
def f__law_begun : Fn := fn 3 b__law_begun
/-! _law_take: 0 _law_box, 1 _law_many, 2 _law_number -/
def b__law_take : St := sSeq (sIf (tE (e2 gEq (e2 gIx (eVar 0) (eC (.int 0))) (eLst (aNil)))) (sSeq (sSub (eVar 0) (eC (.int 1)) (e2 gMod (e2 gMul (e2 gIx (eVar 0) (eC (.int 1))) (eC (.int 48271))) (eC (.int 2147483647))))
  (sRet (e2 gMod (e2 gFdiv (e2 gIx (eVar 0) (eC (.int 1))) (eC (.int 7))) (eVar 1)))) (sNext))
  (sSeq (sSet 2 (e2 gIx (e2 gIx (eVar 0) (eC (.int 0))) (eC (.int 0))))
  (sSeq (sSub (e2 gIx (eVar 0) (eC (.int 0))) (eC (.int 0)) (e2 gFdiv (eVar 2) (eVar 1)))
  (sSeq (sIf (PF.tOr (tE (e2 gEq (e2 gIx (e2 gIx (eVar 0) (eC (.int 0))) (eC (.int 0))) (eC (.int 0)))) (tE (e2 gEq (e2 gIx (e2 gIx (eVar 0) (eC (.int 0))) (eC (.int 0))) (e1 gNeg (eC (.int 1)))))) (sExpr (eM1 mPop (e2 gIx (eVar 0) (eC (.int 0))) (eC (.int 0)))) (sNext))
  (sRet (e2 gMod (eVar 2) (eVar 1))))))
def f__law_take : Fn := fn 3 b__law_take
/-! _law_row: 0 _law_box, 1 _law_names, 2 _law_many, 3 _law_at, 4 _law_way, 5 _law_name, 6 _law_one, 7 _law_other, 8 _law_goal -/
def b__law_row : St := sSeq (sSet 4 (eCall f__law_take (aCons (eVar 0) (aCons (eC (.int 15)) (aNil)))))
  (sSeq (sPar [5, 6, 7] (aCons (eCall f__law_take (aCons (eVar 0) (aCons (eVar 1) (aNil)))) (aCons (eCall f__law_take (aCons (eVar 0) (aCons (eVar 1) (aNil)))) (aCons (eCall f__law_take (aCons (eVar 0) (aCons (eVar 1) (aNil)))) (aNil)))))
  (sSeq (sIf (tE (e2 gLt (eVar 4) (eC (.int 2)))) (sRet (eTup (aCons (eC (.str z_put)) (aCons (eVar 5) (aCons (e2 gIx (eLst (aCons (eCall f__law_take (aCons (eVar 0) (aCons (eC (.int 1000)) (aNil)))) (aCons (eCall f__law_take (aCons (eVar 0) (aCons (eC (.int 3)) (aNil)))) (aNil)))) (eCall f__law_take (aCons (eVar 0) (aCons (eC (.int 2)) (aNil))))) (aNil)))))) (sNext))
  (sSeq (sIf (tE (e2 gLt (eVar 4) (eC (.int 4)))) (sRet (eTup (aCons (eC (.str z_copy)) (aCons (eVar 5) (aCons (eVar 6) (aNil)))))) (sNext))
  (sSeq (sIf (tE (e2 gLt (eVar 4) (eC (.int 7)))) (sRet (eTup (aCons (e2 gIx (eLst (aCons (eC (.str z_add)) (aCons (eC (.str z_take)) (aCons (eC (.str z_less)) (aNil))))) (e2 gSub (eVar 4) (eC (.int 4)))) (aCons (eVar 5) (aCons (eVar 6) (aCons (eVar 7) (aNil))))))) (sNext))
  (sSeq (sIf (tE (e2 gLt (eVar 4) (eC (.int 9)))) (sRet (eTup (aCons (eC (.str z_call)) (aCons (eVar 5) (aCons (eVar 6) (aNil)))))) (sNext))
  (sSeq (sIf (tE (e2 gLt (eVar 4) (eC (.int 12)))) (sRet (eTup (aCons (eC (.str z_say)) (aCons (eVar 6) (aNil))))) (sNext))
  (sSeq (sSet 8 (eCall f__law_take (aCons (eVar 0) (aCons (eVar 2) (aNil)))))
  (sSeq (sIf (tE (e2 gLt (eVar 4) (eC (.int 14)))) (sRet (eTup (aCons (eC (.str z_if)) (aCons (eVar 6) (aCons (e2 gIx (eLst (aCons (eVar 8) (aCons (eCall fMin (aCons (e2 gSub (eVar 2) (eC (.int 1))) (aCons (e2 gAdd (e2 gAdd (eVar 3) (eC (.int 1))) (e2 gMod (eVar 8) (eC (.int 4)))) (aNil)))) (aNil)))) (eCall f__law_take (aCons (eVar 0) (aCons (eC (.int 2)) (aNil))))) (aNil)))))) (sNext))
  (sRet (e2 gIx (eLst (aCons (eTup (aCons (eC (.str z_go)) (aCons (eCall fMin (aCons (e2 gSub (eVar 2) (eC (.int 1))) (aCons (e2 gAdd (e2 gAdd (eVar 3) (eC (.int 1))) (e2 gMod (eVar 8) (eC (.int 3)))) (aNil)))) (aNil)))) (aCons (eTup (aCons (eC (.str z_go)) (aCons (eVar 8) (aNil)))) (aCons (eTup (aCons (eC (.str z_end)) (aNil))) (aNil))))) (eCall f__law_take (aCons (eVar 0) (aCons (eC (.int 3)) (aNil))))))))))))))
def f__law_row : Fn := fn 9 b__law_row
/-! _law_program: 0 _law_box, 1 _law_most, 2 _law_names, 3 _law_params, 4 _law_many, 5 _law_at -/
def b__law_program : St := sSeq (sSet 2 (e2 gAdd (eC (.int 1)) (eCall f__law_take (aCons (eVar 0) (aCons (e2 gIx (eLst (aCons (eC (.int 3)) (aCons (eC (.int 4)) (aCons (eC (.int 8)) (aNil))))) (eCall f__law_take (aCons (eVar 0) (aCons (eC (.int 3)) (aNil))))) (aNil))))))
  (sSeq (sSet 3 (e2 gIx (eLst (aCons (eVar 2) (aCons (eCall f__law_take (aCons (eVar 0) (aCons (e2 gAdd (eVar 2) (eC (.int 1))) (aNil)))) (aNil)))) (eCall f__law_take (aCons (eVar 0) (aCons (eC (.int 2)) (aNil))))))
  (sSeq (sSet 4 (e2 gAdd (eC (.int 1)) (eCall f__law_take (aCons (eVar 0) (aCons (e2 gIx (eLst (aCons (eVar 1) (aCons (eCall fMin (aCons (eVar 1) (aCons (eC (.int 6)) (aNil)))) (aNil)))) (eCall f__law_take (aCons (eVar 0) (aCons (eC (.int 2)) (aNil))))) (aNil))))))
  (sRet (eTup (aCons (eVar 3) (aCons (eVar 2) (aCons (eCall fTuple (aCons (eComp (iRange1 (eVar 4)) [5] (PF.gName 5) (tYes) (eCall f__law_row (aCons (eVar 0) (aCons (eVar 2) (aCons (eVar 4) (aCons (eVar 5) (aNil))))))) (aNil))) (aNil))))))))
def f__law_program : Fn := fn 6 b__law_program
/-! _law_run: 0 _law_program_here, 1 _law_given, 2 _law_fuel, 3 _law_has, 4 _law_said, 5 _law_at, 6 _law_done, 7 _law_row_here, 8 _law_some, 9 _law_name, 10 _law_part, 11 _law_k -/
def b__law_run : St := sSeq (sSet 3 (eCall fDict (aCons (eComp (iRange1 (e2 gIx (eVar 0) (eC (.int 1)))) [9] (PF.gName 9) (tYes) (eTup (aCons (eVar 9) (aCons (eC (.int 0)) (aNil))))) (aNil))))
  (sSeq (sExpr (eUpd (eVar 3) (eCall fDict (aCons (eComp (iRange1 (eCall fLen (aCons (eVar 1) (aNil)))) [11] (PF.gName 11) (tYes) (eTup (aCons (eVar 11) (aCons (e2 gIx (eVar 1) (eVar 11)) (aNil))))) (aNil)))))
  (sSeq (sPar [4, 5, 6] (aCons (eLst (aNil)) (aCons (eC (.int 0)) (aCons (eC (.int 0)) (aNil)))))
  (sSeq (sWhile (PF.tAnd (tE (e2 gLt (eVar 5) (eCall fLen (aCons (e2 gIx (eVar 0) (eC (.int 2))) (aNil))))) (tE (e2 gNe (e2 gIx (e2 gIx (e2 gIx (eVar 0) (eC (.int 2))) (eVar 5)) (eC (.int 0))) (eC (.str z_end))))) (sSeq (sIf (tE (e2 gEq (eVar 6) (eVar 2))) (sRet (eTup (aCons (eVar 4) (aCons (eTup (aCons (eC (.str z_long)) (aNil))) (aCons (eVar 6) (aNil)))))) (sNext))
  (sSeq (sPar [7, 6, 5] (aCons (e2 gIx (e2 gIx (eVar 0) (eC (.int 2))) (eVar 5)) (aCons (e2 gAdd (eVar 6) (eC (.int 1))) (aCons (e2 gAdd (eVar 5) (eC (.int 1))) (aNil)))))
  (sSeq (sSet 8 (eComp (iSeq (eSlice (eVar 7) (oSome (eC (.int 2))) (oNone))) [10] (PF.gName 10) (tYes) (eGet (eVar 3) (eVar 10) (eC (.int 0)))))
  (sIf (tE (e2 gEq (e2 gIx (eVar 7) (eC (.int 0))) (eC (.str z_put)))) (sDct (eVar 3) (e2 gIx (eVar 7) (eC (.int 1))) (e2 gIx (eVar 7) (eC (.int 2)))) (sIf (tE (e2 gEq (e2 gIx (eVar 7) (eC (.int 0))) (eC (.str z_copy)))) (sDct (eVar 3) (e2 gIx (eVar 7) (eC (.int 1))) (e2 gIx (eVar 8) (eC (.int 0)))) (sIf (tE (e2 gEq (e2 gIx (eVar 7) (eC (.int 0))) (eC (.str z_call)))) (sDct (eVar 3) (e2 gIx (eVar 7) (eC (.int 1))) (e2 gMod (e2 gAdd (e2 gAdd (e2 gMul (eC (.int 7)) (e2 gPow (e2 gIx (eVar 8) (eC (.int 0))) (eC (.int 2)))) (e2 gIx (eVar 8) (eC (.int 0)))) (eC (.int 3))) (eC (.int 1000)))) (sIf (tE (e2 gEq (e2 gIx (eVar 7) (eC (.int 0))) (eC (.str z_less)))) (sDct (eVar 3) (e2 gIx (eVar 7) (eC (.int 1))) (eCall fInt (aCons (e2 gLt (e2 gIx (eVar 8) (eC (.int 0))) (e2 gIx (eVar 8) (eC (.int 1)))) (aNil)))) (sIf (tE (e2 gIn (e2 gIx (eVar 7) (eC (.int 0))) (eTup (aCons (eC (.str z_add)) (aCons (eC (.str z_take)) (aNil)))))) (sDct (eVar 3) (e2 gIx (eVar 7) (eC (.int 1))) (e2 gMod (e2 gAdd (e2 gIx (eVar 8) (eC (.int 0))) (e2 gMul (e2 gIx (eVar 8) (eC (.int 1))) (e2 gIx (eLst (aCons (eC (.int 1)) (aCons (e1 gNeg (eC (.int 1))) (aNil)))) (eCall fInt (aCons (e2 gEq (e2 gIx (eVar 7) (eC (.int 0))) (eC (.str z_take))) (aNil)))))) (eC (.int 1000)))) (sIf (tE (e2 gEq (e2 gIx (eVar 7) (eC (.int 0))) (eC (.str z_say)))) (sExpr (eM1 mAppend (eVar 4) (e2 gDx (eVar 3) (e2 gIx (eVar 7) (eC (.int 1)))))) (sIf (PF.tOr (tE (e2 gEq (e2 gIx (eVar 7) (eC (.int 0))) (eC (.str z_go)))) (tE (e2 gNe (e2 gDx (eVar 3) (e2 gIx (eVar 7) (eC (.int 1)))) (eC (.int 0))))) (sSet 5 (e2 gIx (eVar 7) (e1 gNeg (eC (.int 1))))) (sNext))))))))))))
  (sRet (eTup (aCons (eVar 4) (aCons (eTup (aCons (eC (.str z_end)) (aNil))) (aCons (eVar 6) (aNil)))))))))
def f__law_run : Fn := fn 12 b__law_run
/-! is_number: 0 part, 1 low, 2 high -/
def b_is_number : St := sRet (eAnd (e1 (gIs .int) (eVar 0)) (eAnd (eNot (e1 (gIs .bool) (eVar 0))) (eChain gLe gLe (eVar 1) (eVar 0) (eVar 2))))
def f_is_number : Fn := fn 3 b_is_number
/-! is_row: 0 row, 1 names, 2 many, 3 shape, 4 most, 5 k -/
def b_is_row : St := sSeq (sIf (PF.tOr (PF.tNot (tE (e1 (gIs .tup) (eVar 0)))) (PF.tOr (tE (e2 gEq (eCall fLen (aCons (eVar 0) (aNil))) (eC (.int 0)))) (PF.tNot (tE (e1 (gIs .str) (e2 gIx (eVar 0) (eC (.int 0)))))))) (sRet (eC (.bl false))) (sNext))
  (sSeq (sSet 3 (e2 (kGet t_SHAPES) (e2 gIx (eVar 0) (eC (.int 0))) (eC .non)))
  (sSeq (sIf (PF.tOr (tE (e1 gIsN (eVar 3))) (tE (e2 gNe (eCall fLen (aCons (eVar 0) (aNil))) (e2 gAdd (eCall fLen (aCons (eVar 3) (aNil))) (eC (.int 1)))))) (sRet (eC (.bl false))) (sNext))
  (sSeq (sSet 4 (eDict [(eC (.str z_d), e2 gSub (eVar 1) (eC (.int 1))), (eC (.str z_a), e2 gSub (eVar 1) (eC (.int 1))), (eC (.str z_n), e2 gSub (eC (.int 1000)) (eC (.int 1))), (eC (.str z_r), e2 gSub (eVar 2) (eC (.int 1)))]))
  (sRet (e2 gEq (eComp (iRange1 (eCall fLen (aCons (eVar 3) (aNil)))) [5] (PF.gName 5) (PF.tNot (tE (eCall f_is_number (aCons (e2 gIx (eVar 0) (e2 gAdd (eVar 5) (eC (.int 1)))) (aCons (eC (.int 0)) (aCons (e2 gDx (eVar 4) (e2 gIx (eVar 3) (eVar 5))) (aNil))))))) (eVar 5)) (eLst (aNil)))))))
def f_is_row : Fn := fn 6 b_is_row
/-! need_program: 0 program, 1 params, 2 names, 3 rows, 4 number, 5 row -/
def b_need_program : St := sSeq (sIf (PF.tOr (PF.tNot (tE (e1 (gIs .tup) (eVar 0)))) (PF.tOr (tE (e2 gNe (eCall fLen (aCons (eVar 0) (aNil))) (eC (.int 3)))) (PF.tNot (tE (eCall f_is_number (aCons (e2 gIx (eVar 0) (eC (.int 1))) (aCons (eC (.int 1)) (aCons (eC (.int 8)) (aNil))))))))) (sRaise 0 aNil) (sNext))
  (sSeq (sAsg (PF.gTup [1, 2, 3]) (eVar 0))
  (sSeq (sIf (PF.tOr (PF.tNot (tE (eCall f_is_number (aCons (eVar 1) (aCons (eC (.int 0)) (aCons (eVar 2) (aNil))))))) (PF.tOr (PF.tNot (tE (e1 (gIs .tup) (eVar 3)))) (tE (e2 gEq (eCall fLen (aCons (eVar 3) (aNil))) (eC (.int 0)))))) (sRaise 0 aNil) (sNext))
  (sFor (iEnum (eVar 3)) (PF.gTup [4, 5]) (sIf (PF.tOr (tE (e2 gGe (eVar 4) (eC (.int 24)))) (PF.tNot (tE (eCall f_is_row (aCons (eVar 5) (aCons (eVar 2) (aCons (eCall fMin (aCons (eCall fLen (aCons (eVar 3) (aNil))) (aCons (eC (.int 24)) (aNil)))) (aNil)))))))) (sRaise 0 aNil) (sNext)))))
def f_need_program : Fn := fn 6 b_need_program
/-! need_given: 0 program, 1 given, 2 number -/
def b_need_given : St := sSeq (sIf (PF.tOr (PF.tNot (tE (e1 (gIs .tup) (eVar 1)))) (tE (e2 gNe (eCall fLen (aCons (eVar 1) (aNil))) (e2 gIx (eVar 0) (eC (.int 0)))))) (sRaise 0 aNil) (sNext))
  (sIf (tE (e2 gNe (eComp (iSeq (eVar 1)) [2] (PF.gName 2) (PF.tNot (tE (eCall f_is_number (aCons (eVar 2) (aCons (eC (.int 0)) (aCons (e2 gSub (eC (.int 1000)) (eC (.int 1))) (aNil))))))) (eVar 2)) (eLst (aNil)))) (sRaise 0 aNil) (sNext))
def f_need_given : Fn := fn 3 b_need_given
/-! need_fuel: 0 fuel -/
def b_need_fuel : St := sIf (PF.tNot (tE (eCall f_is_number (aCons (eVar 0) (aCons (eC (.int 0)) (aCons (eC (.int 1000)) (aNil))))))) (sRaise 0 aNil) (sNext)
def f_need_fuel : Fn := fn 1 b_need_fuel
/-! Run.__init__: 0 self, 1 rows -/
def b_Run___init__ : St := sSeq (sFld 0 0 (eVar 0) (eVar 1))
  (sSeq (sFld 0 1 (eVar 0) (eC (.int 0)))
  (sSeq (sFld 0 2 (eVar 0) (eLst (aNil)))
  (sFld 0 3 (eVar 0) (eC (.int 0)))))
def f_Run___init__ : Fn := fn 2 b_Run___init__
/-! Run.is_over: 0 self -/
def b_Run_is_over : St := sRet (eOr (e2 gGe (e1 (gFld 0 1) (eVar 0)) (eCall fLen (aCons (e1 (gFld 0 0) (eVar 0)) (aNil)))) (e2 gEq (e2 gIx (e2 gIx (e1 (gFld 0 0) (eVar 0)) (e1 (gFld 0 1) (eVar 0))) (eC (.int 0))) (eC (.str z_end))))
def f_Run_is_over : Fn := fn 1 b_Run_is_over
/-! makes: 0 row -/
def b_makes : St := sRet (e2 gNotIn (e2 gIx (eVar 0) (eC (.int 0))) (eTup (aCons (eC (.str z_say)) (aCons (eC (.str z_if)) (aCons (eC (.str z_go)) (aCons (eC (.str z_end)) (aNil)))))))
def f_makes : Fn := fn 1 b_makes
/-! called: 0 number -/
def b_called : St := sRet (e2 gMod (e2 gAdd (e2 gAdd (e2 gMul (e2 gMul (eVar 0) (eVar 0)) (eC (.int 7))) (eVar 0)) (eC (.int 3))) (eC (.int 1000)))
def f_called : Fn := fn 1 b_called
/-! reckoned: 0 word, 1 one, 2 other -/
def b_reckoned : St := sSeq (sIf (tE (e2 gEq (eVar 0) (eC (.str z_less)))) (sRet (eCall fInt (aCons (e2 gLt (eVar 1) (eVar 2)) (aNil)))) (sNext))
  (sRet (e2 gMod (eIf (tE (e2 gEq (eVar 0) (eC (.str z_add)))) (e2 gAdd (eVar 1) (eVar 2)) (e2 gSub (eVar 1) (eVar 2))) (eC (.int 1000))))
def f_reckoned : Fn := fn 3 b_reckoned
/-! told_by: 0 row, 1 some -/
def b_told_by : St := sSeq (sIf (tE (e2 gEq (e2 gIx (eVar 0) (eC (.int 0))) (eC (.str z_put)))) (sRet (e2 gIx (eVar 0) (eC (.int 2)))) (sNext))
  (sSeq (sIf (tE (e2 gEq (e2 gIx (eVar 0) (eC (.int 0))) (eC (.str z_call)))) (sRet (eCall f_called (aCons (e2 gIx (eVar 1) (eC (.int 0))) (aNil)))) (sNext))
  (sRet (eIf (tE (e2 gEq (e2 gIx (eVar 0) (eC (.int 0))) (eC (.str z_copy)))) (e2 gIx (eVar 1) (eC (.int 0))) (eCall f_reckoned (aCons (e2 gIx (eVar 0) (eC (.int 0))) (aCons (e2 gIx (eVar 1) (eC (.int 0))) (aCons (e2 gIx (eVar 1) (eC (.int 1))) (aNil))))))))
def f_told_by : Fn := fn 2 b_told_by
/-! Run.go: 0 self, 1 some, 2 row -/
def b_Run_go : St := sSeq (sSet 2 (e2 gIx (e1 (gFld 0 0) (eVar 0)) (e1 (gFld 0 1) (eVar 0))))
  (sSeq (sFld 0 3 (eVar 0) (e2 gAdd (e1 (gFld 0 3) (eVar 0)) (eC (.int 1))))
  (sSeq (sFld 0 1 (eVar 0) (e2 gAdd (e1 (gFld 0 1) (eVar 0)) (eC (.int 1))))
  (sSeq (sIf (tE (e2 gEq (e2 gIx (eVar 2) (eC (.int 0))) (eC (.str z_say)))) (sExpr (eM1 mAppend (e1 (gFld 0 2) (eVar 0)) (e2 gIx (eVar 1) (eC (.int 0))))) (sNext))
  (sSeq (sIf (tE (e2 gEq (e2 gIx (eVar 2) (eC (.int 0))) (eC (.str z_go)))) (sFld 0 1 (eVar 0) (e2 gIx (eVar 2) (eC (.int 1)))) (sNext))
  (sIf (PF.tAnd (tE (e2 gEq (e2 gIx (eVar 2) (eC (.int 0))) (eC (.str z_if)))) (tE (e2 gNe (e2 gIx (eVar 1) (eC (.int 0))) (eC (.int 0))))) (sFld 0 1 (eVar 0) (e2 gIx (eVar 2) (eC (.int 2)))) (sNext))))))
def f_Run_go : Fn := fn 3 b_Run_go
/-! Run.told: 0 self -/
def b_Run_told : St := sRet (eTup (aCons (e1 (gFld 0 2) (eVar 0)) (aCons (eIf (tE (eMeth 0 f_Run_is_over (eVar 0) aNil)) (eC (.tup [.str z_end])) (eC (.tup [.str z_long]))) (aCons (e1 (gFld 0 3) (eVar 0)) (aNil)))))
def f_Run_told : Fn := fn 1 b_Run_told
/-! run: 0 program, 1 given, 2 fuel, 3 held, 4 one, 5 row, 6 name -/
def b_run : St := sSeq (sExpr (eCall f_need_program (aCons (eVar 0) (aNil))))
  (sSeq (sExpr (eCall f_need_given (aCons (eVar 0) (aCons (eVar 1) (aNil)))))
  (sSeq (sExpr (eCall f_need_fuel (aCons (eVar 2) (aNil))))
  (sSeq (sSet 3 (e2 gAdd (eCall fList (aCons (eVar 1) (aNil))) (e2 gMul (eLst (aCons (eC (.int 0)) (aNil))) (e2 gSub (e2 gIx (eVar 0) (eC (.int 1))) (e2 gIx (eVar 0) (eC (.int 0)))))))
  (sSeq (sSet 4 (eMake 0 f_Run___init__ (aCons (e2 gIx (eVar 0) (eC (.int 2))) (aNil))))
  (sSeq (sWhile (PF.tAnd (PF.tNot (tE (eMeth 0 f_Run_is_over (eVar 4) aNil))) (tE (e2 gLt (e1 (gFld 0 3) (eVar 4)) (eVar 2)))) (sSeq (sSet 5 (e2 gIx (e1 (gFld 0 0) (eVar 4)) (e1 (gFld 0 1) (eVar 4))))
  (sSeq (sIf (tE (eCall f_makes (aCons (eVar 5) (aNil)))) (sSub (eVar 3) (e2 gIx (eVar 5) (eC (.int 1))) (eCall f_told_by (aCons (eVar 5) (aCons (eIf (tE (e2 gNe (e2 gIx (eVar 5) (eC (.int 0))) (eC (.str z_put)))) (eComp (iSeq (eSlice (eVar 5) (oSome (eC (.int 2))) (oNone))) [6] (PF.gName 6) (tYes) (e2 gIx (eVar 3) (eVar 6))) (eLst (aNil))) (aNil))))) (sNext))
  (sExpr (eMeth 0 f_Run_go (eVar 4) (aCons (eIf (tE (e2 gIn (e2 gIx (eVar 5) (eC (.int 0))) (eTup (aCons (eC (.str z_say)) (aCons (eC (.str z_if)) (aNil)))))) (eLst (aCons (e2 gIx (eVar 3) (e2 gIx (eVar 5) (eC (.int 1)))) (aNil))) (eLst (aNil))) (aNil)))))))
  (sRet (eMeth 0 f_Run_told (eVar 4) aNil)))))))
def f_run : Fn := fn 7 b_run
/-! _law_alike: 0 _law_found, 1 _law_due, 2 _law_k -/
def b__law_alike (F0 : Fn) : St := sSeq (sIf (tE (e1 gIsN (eVar 1))) (sRet (e1 gIsN (eVar 0))) (sNext))
  (sSeq (sIf (tE (e1 (gIs .bool) (eVar 1))) (sRet (eAnd (e1 (gIs .bool) (eVar 0)) (e2 gEq (eVar 0) (eVar 1)))) (sNext))
  (sSeq (sIf (tE (e1 (gIs .int) (eVar 1))) (sRet (eAnd (e1 (gIs .int) (eVar 0)) (eAnd (eNot (e1 (gIs .bool) (eVar 0))) (e2 gEq (eVar 0) (eVar 1))))) (sNext))
  (sSeq (sIf (tE (e1 (gIs .str) (eVar 1))) (sRet (eAnd (e1 (gIs .str) (eVar 0)) (e2 gEq (eVar 0) (eVar 1)))) (sNext))
  (sSeq (sIf (PF.tOr (tE (e2 gNe (e1 (gIs .tup) (eVar 1)) (e1 (gIs .tup) (eVar 0)))) (tE (e2 gNe (e1 (gIs .lst) (eVar 1)) (e1 (gIs .lst) (eVar 0))))) (sRet (eC (.bl false))) (sNext))
  (sSeq (sIf (tE (e2 gNe (eCall fLen (aCons (eVar 0) (aNil))) (eCall fLen (aCons (eVar 1) (aNil))))) (sRet (eC (.bl false))) (sNext))
  (sSeq (sFor (iRange1 (eCall fLen (aCons (eVar 1) (aNil)))) (PF.gName 2) (sIf (PF.tNot (tE (eCall F0 (aCons (e2 gIx (eVar 0) (eVar 2)) (aCons (e2 gIx (eVar 1) (eVar 2)) (aNil)))))) (sRet (eC (.bl false))) (sNext)))
  (sRet (eC (.bl true)))))))))
def f__law_alike : Nat → Fn
  | 0 => fun _ _ => .bad
  | k + 1 => fn 3 (b__law_alike (f__law_alike k))
/-! law: 0 _law_script, 1 _law_box, 2 _law_turn, 3 _law_program_here, 4 _law_given, 5 _law_fuel, 6 _law_due, 7 _law_again, 8 _law_found, 9 _law_k -/
def b_law : St := sSeq (sSet 1 (eCall f__law_begun (aCons (eVar 0) (aNil))))
  (sSeq (sFor (iRange1 (eC (.int 6))) (PF.gName 2) (sSeq (sSet 3 (eCall f__law_program (aCons (eVar 1) (aCons (eC (.int 24)) (aNil)))))
  (sSeq (sSet 4 (eCall fTuple (aCons (eComp (iRange1 (e2 gIx (eVar 3) (eC (.int 0)))) [9] (PF.gName 9) (tYes) (e2 gIx (eLst (aCons (eCall f__law_take (aCons (eVar 1) (aCons (eC (.int 1000)) (aNil)))) (aCons (eCall f__law_take (aCons (eVar 1) (aCons (eC (.int 3)) (aNil)))) (aNil)))) (eCall f__law_take (aCons (eVar 1) (aCons (eC (.int 2)) (aNil)))))) (aNil))))
  (sFor (iSeq (eLst (aCons (eCall f__law_take (aCons (eVar 1) (aCons (eC (.int 12)) (aNil)))) (aCons (e2 gIx (eLst (aCons (eC (.int 1000)) (aCons (eC (.int 1000)) (aCons (eCall f__law_take (aCons (eVar 1) (aCons (eC (.int 200)) (aNil)))) (aNil))))) (eCall f__law_take (aCons (eVar 1) (aCons (eC (.int 3)) (aNil))))) (aNil))))) (PF.gName 5) (sSeq (sSet 6 (eCall f__law_run (aCons (eVar 3) (aCons (eVar 4) (aCons (eVar 5) (aNil))))))
  (sFor (iRange1 (eC (.int 2))) (PF.gName 7) (sSeq (sSet 8 (eCall f_run (aCons (eVar 3) (aCons (eVar 4) (aCons (eVar 5) (aNil))))))
  (sSeq (sIf (PF.tNot (tE (eCall (f__law_alike 12) (aCons (eVar 8) (aCons (eVar 6) (aNil)))))) (sRet (eC (.bl false))) (sNext))
  (sExpr (eM1 mAppend (e2 gIx (eVar 8) (eC (.int 0))) (eC (.int 0))))))))))))
  (sRet (eC (.bl true))))
def f_law : Fn := fn 10 b_law
end PG
end
section
set_option autoImplicit false
set_option maxRecDepth 100003
/-! # W: what a PF program must come to -/
namespace PF
def wp {α : Type} (o : Out α) (Q : α → Sto → Prop) : Prop := ∃ a S, o = .ok a S ∧ Q a S
section
variable {α β : Type} {o : Out α} {Q R : α → Sto → Prop} {S S' : Sto} {ρ : Env}
theorem wp_ok {a : α} : wp (.ok a S) Q = Q a S := by
  refine propext ⟨fun ⟨b, U, e, q⟩ => ?_, fun q => ⟨a, S, rfl, q⟩⟩
  cases e
  exact q
theorem wp_bad : wp (.bad : Out α) Q = False := propext ⟨fun ⟨_, _, e, _⟩ => (nomatch e), fun h => h.elim⟩
theorem wp_err {x : Exc} : wp (.err x S : Out α) Q = False := propext ⟨fun ⟨_, _, e, _⟩ => (nomatch e), fun h => h.elim⟩
theorem wp_bind {k : α → M β} {P : β → Sto → Prop} : wp (o.bind k) P = wp o (fun a S => wp (k a S) P) := by
  refine propext ⟨fun ⟨b, U, e, q⟩ => ?_, fun ⟨a, U, e, b, V, e2, q⟩ => ?_⟩
  · cases o with
    | ok a V => exact ⟨a, V, rfl, b, U, e, q⟩
    | err x V => cases e
    | bad => cases e
  · subst e
    exact ⟨b, V, e2, q⟩
theorem wp_mono (h : wp o Q) (k : ∀ a S, Q a S → R a S) : wp o R := let ⟨a, S, e, q⟩ := h; ⟨a, S, e, k a S q⟩
theorem wp_ite {c : Prop} [Decidable c] {a b : Out α} : wp (if c then a else b) Q = if c then wp a Q else wp b Q := by split <;> rfl
/-! expressions -/
variable {P : D → Sto → Prop}
theorem w_var {i : Nat} {d : D} (h : ρ[i]? = some (some d)) : wp (eVar i ρ S) P = P d S := by unfold eVar; rw [h]; exact wp_ok
theorem w_c {d : D} : wp (eC d ρ S) P = P d S := wp_ok
theorem w_e1 {g : D → M D} {a : E} : wp (e1 g a ρ S) P = wp (a ρ S) fun x S => wp (g x S) P := wp_bind
theorem w_e2 {g : D → D → M D} {a b : E} : wp (e2 g a b ρ S) P = wp (a ρ S) fun x S => wp (b ρ S) fun y S => wp (g x y S) P := by
  unfold e2
  rw [wp_bind]
  simp only [wp_bind]
theorem w_nil {P : List D → Sto → Prop} : wp (aNil ρ S) P = P [] S := wp_ok
theorem w_cons {P : List D → Sto → Prop} {a : E} {r : A} : wp (aCons a r ρ S) P = wp (a ρ S) fun x S => wp (r ρ S) fun xs S => P (x :: xs) S := by
  unfold aCons
  simp only [wp_bind, wp_ok]
theorem w_tup {a : A} : wp (eTup a ρ S) P = wp (a ρ S) fun xs S => P (.tup xs) S := by
  unfold eTup
  simp only [wp_bind, wp_ok]
theorem w_lst {a : A} : wp (eLst a ρ S) P = wp (a ρ S) fun xs S => P (.ref S.length) (S ++ [.lst xs]) := by
  unfold eLst alloc
  simp only [wp_bind, wp_ok]
theorem w_call {f : Fn} {a : A} : wp (eCall f a ρ S) P = wp (a ρ S) fun xs S => wp (f xs S) P := wp_bind
theorem w_if {t : T} {a b : E} : wp (eIf t a b ρ S) P = wp (t ρ S) fun c S => if c = true then wp (a ρ S) P else wp (b ρ S) P := by
  unfold eIf
  simp only [wp_bind, wp_ite]
theorem w_te {P : Bool → Sto → Prop} {a : E} : wp (tE a ρ S) P = wp (a ρ S) fun x S => ∃ c, x = .bl c ∧ P c S := by
  unfold tE
  rw [wp_bind]
  congr
  funext x S
  cases x <;> simp [wp_ok, wp_bad]
theorem w_and {a b : E} : wp (eAnd a b ρ S) P = wp (a ρ S) fun x S => ∃ c, x = .bl c ∧ if c = true then wp (b ρ S) P else P (.bl false) S := by
  unfold eAnd
  rw [wp_bind]
  congr
  funext x S
  cases x with
  | bl c => cases c <;> simp [wp_ok]
  | _ => simp [wp_bad]
theorem w_or {a b : E} : wp (eOr a b ρ S) P = wp (a ρ S) fun x S => ∃ c, x = .bl c ∧ if c = true then P (.bl true) S else wp (b ρ S) P := by
  unfold eOr
  rw [wp_bind]
  congr
  funext x S
  cases x with
  | bl c => cases c <;> simp [wp_ok]
  | _ => simp [wp_bad]
theorem w_not {a : E} : wp (eNot a ρ S) P = wp (a ρ S) fun x S => ∃ c, x = .bl c ∧ P (.bl (!c)) S := by
  unfold eNot
  rw [wp_bind]
  congr
  funext x S
  cases x <;> simp [wp_ok, wp_bad]
theorem w_tand {P : Bool → Sto → Prop} {a b : T} : wp (tAnd a b ρ S) P = wp (a ρ S) fun c S => if c = true then wp (b ρ S) P else P false S := by
  unfold tAnd
  simp only [wp_bind, wp_ite, wp_ok]
theorem w_tor {P : Bool → Sto → Prop} {a b : T} : wp (tOr a b ρ S) P = wp (a ρ S) fun c S => if c = true then P true S else wp (b ρ S) P := by
  unfold tOr
  simp only [wp_bind, wp_ite, wp_ok]
theorem w_tnot {P : Bool → Sto → Prop} {a : T} : wp (tNot a ρ S) P = wp (a ρ S) fun c S => P (!c) S := by
  unfold tNot
  simp only [wp_bind, wp_ok]
theorem w_tyes {P : Bool → Sto → Prop} : wp (tYes ρ S) P = P true S := wp_ok
theorem w_chain {g g' : D → D → M D} {a b c : E} : wp (eChain g g' a b c ρ S) P = wp (a ρ S) fun x S => wp (b ρ S) fun y S => wp (g x y S) fun z S => ∃ k, z = .bl k ∧ if k = true then wp (c ρ S) fun w S => wp (g' y w S) P else P (.bl false) S := by
  unfold eChain
  simp only [wp_bind]
  congr
  funext x S
  congr
  funext y S
  congr
  funext z S
  cases z with
  | bl k => cases k <;> simp [wp_ok, wp_bind]
  | _ => simp [wp_bad]
/-! statements -/
variable {Z : Fl × Env → Sto → Prop}
theorem w_next : wp (sNext ρ S) Z = Z (.nx, ρ) S := wp_ok
theorem w_seq {a b : St} : wp (sSeq a b ρ S) Z = wp (a ρ S) fun r S => match r.1 with
    | .nx => wp (b r.2 S) Z
    | f => Z (f, r.2) S := by
  unfold sSeq
  rw [wp_bind]
  congr
  funext r S
  cases r.1 <;> simp [wp_ok]
theorem w_set {i : Nat} {a : E} : wp (sSet i a ρ S) Z = wp (a ρ S) fun x S => Z (.nx, ρ.set i (some x)) S := by
  unfold sSet
  simp only [wp_bind, wp_ok]
theorem w_asg {g : G} {a : E} : wp (sAsg g a ρ S) Z = wp (a ρ S) fun x S => ∃ ρ1, g x ρ = some ρ1 ∧ Z (.nx, ρ1) S := by
  unfold sAsg
  rw [wp_bind]
  congr
  funext x S
  cases g x ρ <;> simp [wp_ok, wp_bad]
theorem w_par {is : List Nat} {a : A} : wp (sPar is a ρ S) Z = wp (a ρ S) fun xs S => ∃ ρ1, setAll is xs ρ = some ρ1 ∧ Z (.nx, ρ1) S := by
  unfold sPar
  rw [wp_bind]
  congr
  funext x S
  cases setAll is x ρ <;> simp [wp_ok, wp_bad]
theorem w_expr {a : E} : wp (sExpr a ρ S) Z = wp (a ρ S) fun _ S => Z (.nx, ρ) S := by
  unfold sExpr
  simp only [wp_bind, wp_ok]
theorem w_ret {a : E} : wp (sRet a ρ S) Z = wp (a ρ S) fun x S => Z (.rt x, ρ) S := by
  unfold sRet
  simp only [wp_bind, wp_ok]
theorem w_sif {t : T} {a b : St} : wp (sIf t a b ρ S) Z = wp (t ρ S) fun c S => if c = true then wp (a ρ S) Z else wp (b ρ S) Z := by
  unfold sIf
  simp only [wp_bind, wp_ite]
theorem w_break : wp (sBreak ρ S) Z = Z (.bk, ρ) S := wp_ok
theorem w_cont : wp (sCont ρ S) Z = Z (.ct, ρ) S := wp_ok
theorem w_sub {o i v : E} : wp (sSub o i v ρ S) Z = wp (v ρ S) fun x S => wp (o ρ S) fun a S => wp (i ρ S) fun k S => ∃ S1, setItem a k x S = some S1 ∧ Z (.nx, ρ) S1 := by
  unfold sSub
  simp only [wp_bind]
  congr
  funext x S
  congr
  funext a S
  congr
  funext k S
  cases setItem a k x S <;> simp [wp_ok, wp_bad]
theorem w_dct {o i v : E} : wp (sDct o i v ρ S) Z = wp (v ρ S) fun x S => wp (o ρ S) fun a S => wp (i ρ S) fun k S => ∃ S1, setDct a k x S = some S1 ∧ Z (.nx, ρ) S1 := by
  unfold sDct
  simp only [wp_bind]
  congr
  funext x S
  congr
  funext a S
  congr
  funext k S
  cases setDct a k x S <;> simp [wp_ok, wp_bad]
theorem w_fld {c f : Nat} {o v : E} : wp (sFld c f o v ρ S) Z = wp (v ρ S) fun x S => wp (o ρ S) fun a S => ∃ S1, setFld c f a x S = some S1 ∧ Z (.nx, ρ) S1 := by
  unfold sFld
  simp only [wp_bind]
  congr
  funext x S
  congr
  funext a S
  cases setFld c f a x S <;> simp [wp_ok, wp_bad]
theorem w_fn {n : Nat} {b : St} {xs : List D} : wp (fn n b xs S) P = (xs.length ≤ n ∧ wp (b (xs.map some ++ List.replicate (n - xs.length) none) S) fun r S => match r.1 with
    | .nx => P .non S
    | .rt d => P d S
    | _ => False) := by
  unfold fn
  split
  · rename_i c
    rw [wp_bind]
    simp only [c, true_and]
    congr
    funext r S
    cases r.1 <;> simp [wp_ok, wp_bad]
  · rename_i c
    simp [wp_bad, c]
theorem w_comp {i : I} {vs : List Nat} {g : G} {t : T} {e : E} : wp (eComp i vs g t e ρ S) P = wp (i ρ S) fun it S => wp (compLoop it g t e (wipe ρ vs) it.all S) fun ys S => ys.length ≤ LIM ∧ P (.ref S.length) (S ++ [.lst ys]) := by
  unfold eComp
  simp only [wp_bind]
  congr
  funext it S
  congr
  funext ys S
  split
  · rename_i c
    unfold alloc
    simp [wp_ok, c]
  · rename_i c
    simp [wp_bad, c]
theorem w_for {i : I} {g : G} {b : St} : wp (sFor i g b ρ S) Z = wp (i ρ S) fun it S => wp (forLoop it g b it.all ρ S) Z := wp_bind
theorem w_iseq {P : Iter → Sto → Prop} {a : E} : wp (iSeq a ρ S) P = wp (a ρ S) fun x S => ∃ ds, seqOf x S = some ds ∧ P ⟨chkOf x S, ds⟩ S := by
  unfold iSeq
  rw [wp_bind]
  congr
  funext x S
  cases seqOf x S <;> simp [wp_ok, wp_bad]
theorem w_range1 {P : Iter → Sto → Prop} {a : E} : wp (iRange1 a ρ S) P = wp (a ρ S) fun x S => ∃ j, x = .int j ∧ (-(2 ^ 62) ≤ j ∧ j < 2 ^ 62) ∧ P ⟨[], rangeD 0 j⟩ S := by
  unfold iRange1
  rw [wp_bind]
  congr
  funext x S
  cases x with
  | int j =>
    refine propext ⟨fun h => ?_, fun ⟨k, e, h, p⟩ => ?_⟩
    · dsimp only at h
      split at h
      · rename_i c; rw [wp_ok] at h; exact ⟨j, rfl, c, h⟩
      · rw [wp_bad] at h; exact h.elim
    · cases e
      dsimp only
      rw [if_pos h, wp_ok]
      exact p
  | _ => simp [wp_bad]
theorem w_enum {P : Iter → Sto → Prop} {a : E} : wp (iEnum a ρ S) P = wp (a ρ S) fun x S => ∃ ds, seqZ x S = some ds ∧ P ⟨chkOf x S, enumD 0 ds⟩ S := by
  unfold iEnum
  rw [wp_bind]
  congr
  funext x S
  cases seqZ x S <;> simp [wp_ok, wp_bad]
/-! loops -/
/-- a comprehension by its invariant: how many were walked, what is made, the store -/
theorem wp_loop {it : Iter} {g : G} {t : T} {e : E} (J : Nat → List D → Sto → Prop) (hs : ∀ k acc S, J k acc S → it.same S = true)
    (step : ∀ k x acc S, it.all[k]? = some x → J k acc S → ∃ ρ1, g x ρ = some ρ1 ∧ wp (t ρ1 S) fun b S1 => if b = true then wp (e ρ1 S1) fun y S2 => J (k + 1) (acc ++ [y]) S2 else J (k + 1) acc S1) (h0 : J 0 [] S) :
    wp (compLoop it g t e ρ it.all S) fun ys S' => J it.all.length ys S' := by
  have key : ∀ (xs : List D) (k : Nat) (acc : List D) (S : Sto), it.all = it.all.take k ++ xs → k + xs.length = it.all.length → J k acc S → wp (compLoop it g t e ρ xs S) fun ys S' => J it.all.length (acc ++ ys) S' := by
    intro xs
    induction xs with
    | nil =>
      intro k acc S e1 e2 h
      unfold compLoop
      rw [if_pos (hs _ _ _ h), wp_ok, List.append_nil]
      have : k = it.all.length := by simpa using e2
      rw [← this]
      exact h
    | cons x xs ih =>
      intro k acc S e1 e2 h
      have hx : it.all[k]? = some x := by
        have hk : (it.all.take k).length = k := by
          rw [List.length_take]
          rw [List.length_cons] at e2
          omega
        rw [e1, List.getElem?_append_right (by rw [hk]; exact Nat.le_refl _), hk, Nat.sub_self]
        rfl
      have e1' : it.all = it.all.take (k + 1) ++ xs := by
        rw [List.take_add_one, hx, List.append_assoc]
        exact e1
      obtain ⟨ρ1, eg, w⟩ := step k x acc S hx h
      unfold compLoop
      rw [if_pos (hs _ _ _ h), eg]
      simp only [wp_bind]
      refine wp_mono w fun b S1 w1 => ?_
      cases b with
      | true =>
        simp only [if_true] at w1 ⊢
        rw [wp_bind]
        refine wp_mono w1 fun y S2 j => ?_
        rw [wp_bind]
        refine wp_mono (ih (k + 1) _ S2 e1' (by rw [List.length_cons] at e2; omega) j) fun ys S3 j2 => ?_
        rw [wp_ok]
        rw [List.append_assoc] at j2
        exact j2
      | false =>
        simp only [Bool.false_eq_true, if_false] at w1 ⊢
        exact ih (k + 1) _ S1 e1' (by rw [List.length_cons] at e2; omega) w1
  exact key it.all 0 [] S (by simp) (by simp) h0
/-- a for by its invariant -/
theorem wp_for {it : Iter} {g : G} {b : St} (J : Nat → Env → Sto → Prop) (hs : ∀ k ρ S, J k ρ S → it.same S = true)
    (step : ∀ k x ρ S, it.all[k]? = some x → J k ρ S → ∃ ρ1, g x ρ = some ρ1 ∧ wp (b ρ1 S) fun r S1 => match r.1 with
      | .nx => J (k + 1) r.2 S1
      | .ct => J (k + 1) r.2 S1
      | .bk => Z (.nx, r.2) S1
      | .rt d => Z (.rt d, r.2) S1) (h0 : J 0 ρ S) (hd : ∀ ρ S, J it.all.length ρ S → Z (.nx, ρ) S) : wp (forLoop it g b it.all ρ S) Z := by
  have key : ∀ (xs : List D) (k : Nat) (ρ : Env) (S : Sto), it.all = it.all.take k ++ xs → k + xs.length = it.all.length → J k ρ S → wp (forLoop it g b xs ρ S) Z := by
    intro xs
    induction xs with
    | nil =>
      intro k ρ S e1 e2 h
      unfold forLoop
      rw [if_pos (hs _ _ _ h), wp_ok]
      have : k = it.all.length := by simpa using e2
      rw [this] at h
      exact hd _ _ h
    | cons x xs ih =>
      intro k ρ S e1 e2 h
      have hx : it.all[k]? = some x := by
        have hk : (it.all.take k).length = k := by
          rw [List.length_take]
          rw [List.length_cons] at e2
          omega
        rw [e1, List.getElem?_append_right (by rw [hk]; exact Nat.le_refl _), hk, Nat.sub_self]
        rfl
      have e1' : it.all = it.all.take (k + 1) ++ xs := by
        rw [List.take_add_one, hx, List.append_assoc]
        exact e1
      obtain ⟨ρ1, eg, w⟩ := step k x ρ S hx h
      unfold forLoop
      rw [if_pos (hs _ _ _ h), eg]
      simp only [wp_bind]
      refine wp_mono w fun r S1 w1 => ?_
      have el : k + 1 + xs.length = it.all.length := by rw [List.length_cons] at e2; omega
      split at w1
      · rename_i er; (try rw [er]); exact ih (k + 1) _ S1 e1' el w1
      · rename_i er; (try rw [er]); exact ih (k + 1) _ S1 e1' el w1
      · rename_i er; (try rw [er]); (try simp only [wp_ok]); exact w1
      · rename_i er; (try rw [er]); (try simp only [wp_ok]); exact w1
  exact key it.all 0 ρ S (by simp) (by simp) h0
/-- a while by its invariant J and measure -/
theorem wp_while {t : T} {b : St} (J : Nat → Env → Sto → Prop) (n : Nat) (hn : n < TURNS)
    (step : ∀ m ρ S, J m ρ S → wp (t ρ S) fun c S1 => if c = true then wp (b ρ S1) fun r S2 => match r.1 with
      | .nx => ∃ m', m' < m ∧ J m' r.2 S2
      | .ct => ∃ m', m' < m ∧ J m' r.2 S2
      | .bk => Z (.nx, r.2) S2
      | .rt d => Z (.rt d, r.2) S2 else Z (.nx, ρ) S1) (h0 : J n ρ S) : wp (sWhile t b ρ S) Z := by
  have key : ∀ (f m : Nat) (ρ : Env) (S : Sto), m < f → J m ρ S → wp (whileLoop t b f ρ S) Z := by
    intro f
    induction f with
    | zero => intro m ρ S h; omega
    | succ f ih =>
      intro m ρ S hm h
      unfold whileLoop
      rw [wp_bind]
      refine wp_mono (step m ρ S h) fun c S1 w => ?_
      cases c with
      | false =>
        simp only [Bool.false_eq_true, if_false] at w ⊢
        rw [wp_ok]
        exact w
      | true =>
        simp only [if_true] at w ⊢
        rw [wp_bind]
        refine wp_mono w fun r S2 w2 => ?_
        split at w2
        · rename_i er; (try rw [er]); obtain ⟨m', lt, j⟩ := w2; exact ih m' _ S2 (by omega) j
        · rename_i er; (try rw [er]); obtain ⟨m', lt, j⟩ := w2; exact ih m' _ S2 (by omega) j
        · rename_i er; (try rw [er]); (try simp only [wp_ok]); exact w2
        · rename_i er; (try rw [er]); (try simp only [wp_ok]); exact w2
  exact key TURNS n ρ S hn h0
end
/-! ### stores -/
/-- all but W as it was, more may stand behind -/
structure Keep (W : List Nat) (S S' : Sto) : Prop where
  len : S.length ≤ S'.length
  get : ∀ i, i < S.length → i ∉ W → S'[i]? = S[i]?
section
variable {W W' : List Nat} {S S' S2 U : Sto} {n i : Nat} {o u : MO}
theorem Keep.refl : Keep W S S := ⟨Nat.le_refl _, fun _ _ _ => rfl⟩
theorem Keep.trans (a : Keep W S S') (b : Keep W S' S2) : Keep W S S2 :=
  ⟨Nat.le_trans a.len b.len, fun i h n => (b.get i (Nat.lt_of_lt_of_le h a.len) n).trans (a.get i h n)⟩
theorem Keep.mono (a : Keep W S S') (h : ∀ i, i < S.length → i ∈ W → i ∈ W') : Keep W' S S' := ⟨a.len, fun i l n => a.get i l fun m => n (h i l m)⟩
theorem Keep.all (a : Keep [] S S') : Keep W S S' := a.mono fun _ _ m => nomatch m
theorem Keep.app : Keep W S (S ++ U) := ⟨by simp, fun i h _ => List.getElem?_append_left h⟩
theorem Keep.set (h : n ∈ W) : Keep W S (S.set n o) := ⟨by simp, fun i _ m => List.getElem?_set_ne fun e => m (by rw [← e]; exact h)⟩
theorem lt_of_get (h : S[i]? = some o) : i < S.length := (List.getElem?_eq_some_iff.mp h).1
theorem Keep.at (a : Keep W S S') (h : S[i]? = some o) (n : i ∉ W) : S'[i]? = some o := (a.get i (lt_of_get h) n).trans h
theorem get_app (h : S[i]? = some o) : (S ++ U)[i]? = some o := by rw [List.getElem?_append_left (lt_of_get h)]; exact h
theorem get_last : (S ++ [o])[S.length]? = some o := by simp
theorem get_set (h : i < S.length) : (S.set i o)[i]? = some o := by simp [h]
theorem get_ne (h : S[i]? = some o) (ne : n ≠ i) : (S.set n u)[i]? = some o := by rw [List.getElem?_set_ne ne]; exact h
/-- what is made behind is no old one -/
theorem Keep.new (a : Keep W S S') (h : ∀ i ∈ W, S.length ≤ i) : Keep [] S S' := a.mono fun i l m => absurd l (Nat.not_lt_of_le (h i m))
theorem lstOf_lst {ds : List D} (h : S[n]? = some (.lst ds)) : lstOf n S = some ds := by unfold lstOf; rw [h]
theorem lstOf_rol {ds : List D} (h : S[n]? = some (.rol ds)) : lstOf n S = some ds := by unfold lstOf; rw [h]
theorem wrOf_lst {ds : List D} (h : S[n]? = some (.lst ds)) : wrOf n S = some ds := by unfold wrOf; rw [h]
theorem dicOf_dic {ds : List (D × D)} (h : S[n]? = some (.dic ds)) : dicOf n S = some ds := by unfold dicOf; rw [h]
theorem insOf_ins {c : Nat} {fs : List (Nat × D)} (h : S[n]? = some (.ins c fs)) : insOf c n S = some fs := by unfold insOf; rw [h]; simp
end
/-! ### operations -/
section
variable {S : Sto} {P : D → Sto → Prop}
theorem w_add {i j : Int} : wp (gAdd (.int i) (.int j) S) P = P (.int (i + j)) S := wp_ok
theorem w_sub2 {i j : Int} : wp (gSub (.int i) (.int j) S) P = P (.int (i - j)) S := wp_ok
theorem w_mul {i j : Int} (h : (-(2 ^ 64) < i ∧ i < 2 ^ 64) ∨ (-(2 ^ 64) < j ∧ j < 2 ^ 64)) : wp (gMul (.int i) (.int j) S) P = P (.int (i * j)) S := by
  unfold gMul
  simp only [if_pos h, wp_ok]
theorem w_fdiv {i j : Int} (h : 0 < j ∧ j < 1073741824) : wp (gFdiv (.int i) (.int j) S) P = P (.int (i / j)) S := by
  unfold gFdiv
  simp only [if_pos h, wp_ok]
theorem w_mod {i j : Int} (h : 0 < j) : wp (gMod (.int i) (.int j) S) P = P (.int (i % j)) S := by
  unfold gMod
  simp only [if_pos h, wp_ok]
theorem w_neg {i : Int} : wp (gNeg (.int i) S) P = P (.int (-i)) S := wp_ok
theorem w_lt {i j : Int} : wp (gLt (.int i) (.int j) S) P = P (.bl (decide (i < j))) S := wp_ok
theorem w_le {i j : Int} : wp (gLe (.int i) (.int j) S) P = P (.bl (decide (i ≤ j))) S := wp_ok
theorem w_gt {i j : Int} : wp (gGt (.int i) (.int j) S) P = P (.bl (decide (j < i))) S := wp_ok
theorem w_ge {i j : Int} : wp (gGe (.int i) (.int j) S) P = P (.bl (decide (j ≤ i))) S := wp_ok
theorem w_eqI {i j : Int} : wp (gEq (.int i) (.int j) S) P = P (.bl (i == j)) S := wp_ok
theorem w_neI {i j : Int} : wp (gNe (.int i) (.int j) S) P = P (.bl (!(i == j))) S := wp_ok
theorem w_eqS {i j : List Nat} : wp (gEq (.str i) (.str j) S) P = P (.bl (i == j)) S := wp_ok
theorem w_neS {i j : List Nat} : wp (gNe (.str i) (.str j) S) P = P (.bl (!(i == j))) S := wp_ok
theorem w_eqB {i j : Bool} : wp (gEq (.bl i) (.bl j) S) P = P (.bl (i == j)) S := wp_ok
theorem w_neB {i j : Bool} : wp (gNe (.bl i) (.bl j) S) P = P (.bl (!(i == j))) S := wp_ok
theorem w_eq {x y : D} {b : Bool} (h : eqF S x y = some b) : wp (gEq x y S) P = P (.bl b) S := by unfold gEq; simp only [h, wp_ok]
theorem w_ne {x y : D} {b : Bool} (h : eqF S x y = some b) : wp (gNe x y S) P = P (.bl (!b)) S := by unfold gNe; simp only [h, wp_ok]
theorem w_isN {x : D} : wp (gIsN x S) P = P (.bl (decide (x = .non))) S := wp_ok
theorem w_notN {x : D} : wp (gNotN x S) P = P (.bl (!decide (x = .non))) S := wp_ok
theorem w_is {k : Kind} {x : D} {b : Bool} (h : isK k x S = some b) : wp (gIs k x S) P = P (.bl b) S := by unfold gIs; simp only [h, wp_ok]
theorem w_ixT {ds : List D} {i : Int} {d : D} (h : at? ds i = some d) : wp (gIx (.tup ds) (.int i) S) P = P d S := by unfold gIx; simp only [h, wp_ok]
theorem w_ixL {n : Nat} {ds : List D} {i : Int} {d : D} (h : lstOf n S = some ds) (h2 : at? ds i = some d) : wp (gIx (.ref n) (.int i) S) P = P d S := by unfold gIx; simp only [h, h2, wp_ok]
theorem w_ixS {s : List Nat} {i : Int} {c : Nat} (hl : s.length ≤ LIM) (h : at? s i = some c) : wp (gIx (.str s) (.int i) S) P = P (.str [c]) S := by unfold gIx; simp only [if_pos hl, h, wp_ok]
theorem w_dx {n : Nat} {kvs : List (D × D)} {k d : D} (h : dicOf n S = some kvs) (hk : keyOk k = true) (h2 : dget kvs k = some d) : wp (gDx (.ref n) k S) P = P d S := by unfold gDx; simp only [h, hk, h2, if_true, wp_ok]
theorem w_in {x y : D} {b : Bool} (h : inB x y S = some b) : wp (gIn x y S) P = P (.bl b) S := by unfold gIn; simp only [h, wp_ok]
theorem w_notIn {x y : D} {b : Bool} (h : inB x y S = some b) : wp (gNotIn x y S) P = P (.bl (!b)) S := by unfold gNotIn; simp only [h, wp_ok]
theorem w_gfld {c f n : Nat} {fs : List (Nat × D)} {d : D} (h : insOf c n S = some fs) (h2 : fget fs f = some d) : wp (gFld c f (.ref n) S) P = P d S := by unfold gFld; simp only [h, h2, wp_ok]
theorem w_lenT {ds : List D} : wp (fLen [.tup ds] S) P = P (.int ds.length) S := wp_ok
theorem w_lenL {n : Nat} {ds : List D} (h : lstOf n S = some ds) : wp (fLen [.ref n] S) P = P (.int ds.length) S := by unfold fLen; simp only [h, wp_ok]
theorem w_intB {b : Bool} : wp (fInt [.bl b] S) P = P (.int (b2i b)) S := wp_ok
theorem w_min2 {i j : Int} : wp (fMin [.int i, .int j] S) P = P (.int (if j < i then j else i)) S := wp_ok
theorem w_max2 {i j : Int} : wp (fMax [.int i, .int j] S) P = P (.int (if j > i then j else i)) S := wp_ok
theorem w_listOf {d : D} {ds : List D} (h : seqOf d S = some ds) : wp (fList [d] S) P = P (.ref S.length) (S ++ [.lst ds]) := by unfold fList; simp only [h, alloc, wp_ok]
theorem w_tupOf {d : D} {ds : List D} (h : seqOf d S = some ds) : wp (fTuple [d] S) P = P (.tup ds) S := by unfold fTuple; simp only [h, wp_ok]
theorem at0 {α : Type} {xs : List α} : at? xs 0 = xs[0]? := by
  unfold at? ixN
  cases xs with
  | nil => simp
  | cons x xs => simp
theorem at_nat {α : Type} {xs : List α} {n : Nat} : at? xs (n : Int) = xs[n]? := by
  unfold at? ixN
  by_cases h : n < xs.length
  · simp [h]
  · simp [h]
theorem at_lit {α : Type} {xs : List α} (n : Nat) (i : Int) (h : i = (n : Int)) : at? xs i = xs[n]? := by subst h; exact at_nat
theorem at_last {α : Type} {xs : List α} {x : α} : at? (xs ++ [x]) (-1) = some x := by
  unfold at? ixN
  have h : -(((xs ++ [x]).length : Nat) : Int) ≤ -1 := by rw [List.length_append]; simp; omega
  have e : ((-1 : Int) + (((xs ++ [x]).length : Nat) : Int)).toNat = xs.length := by rw [List.length_append]; simp only [List.length_cons, List.length_nil]; omega
  simp only [show ¬ (0 : Int) ≤ -1 by decide, if_false, if_pos h, Option.bind_some, e]
  simp
end
end PF
end
section
set_option autoImplicit false
set_option maxRecDepth 100003
namespace PF
/-- there is one, and so on with it -/
def on {α : Type} (o : Option α) (k : α → Prop) : Prop := ∃ a, o = some a ∧ k a
theorem on_some {α : Type} {a : α} {k : α → Prop} : on (some a) k = k a := propext ⟨fun ⟨b, e, h⟩ => by cases e; exact h, fun h => ⟨a, rfl, h⟩⟩
theorem on_none {α : Type} {k : α → Prop} : on (none : Option α) k = False := propext ⟨fun ⟨b, e, h⟩ => (nomatch e), fun h => h.elim⟩
theorem on_map {α β : Type} {o : Option α} {f : α → β} {k : β → Prop} : on (o.map f) k = on o fun a => k (f a) := by
  cases o <;> simp only [Option.map_some, Option.map_none, on_some, on_none]
theorem ex_bl {c : Bool} {k : Bool → Prop} : (∃ d, D.bl c = .bl d ∧ k d) = k c := propext ⟨fun ⟨d, e, h⟩ => by cases e; exact h, fun h => ⟨c, rfl, h⟩⟩
theorem ex_int {c : Int} {k : Int → Prop} : (∃ d, D.int c = .int d ∧ k d) = k c := propext ⟨fun ⟨d, e, h⟩ => by cases e; exact h, fun h => ⟨c, rfl, h⟩⟩
section
variable {S : Sto} {ρ : Env} {P : D → Sto → Prop}
theorem v_var {i : Nat} : wp (eVar i ρ S) P = on ρ[i]? fun o => on o fun d => P d S := by
  cases h : ρ[i]? with
  | none => unfold eVar; rw [h, on_none]; exact wp_bad
  | some o =>
    cases o with
    | none => unfold eVar; rw [h, on_some, on_none]; exact wp_bad
    | some d => rw [w_var h, on_some, on_some]
theorem v_asg {Z : Fl × Env → Sto → Prop} {g : G} {a : E} : wp (sAsg g a ρ S) Z = wp (a ρ S) fun x S => on (g x ρ) fun ρ1 => Z (.nx, ρ1) S := w_asg
theorem v_par {Z : Fl × Env → Sto → Prop} {is : List Nat} {a : A} : wp (sPar is a ρ S) Z = wp (a ρ S) fun xs S => on (setAll is xs ρ) fun ρ1 => Z (.nx, ρ1) S := w_par
theorem v_sub {Z : Fl × Env → Sto → Prop} {o i v : E} : wp (sSub o i v ρ S) Z = wp (v ρ S) fun x S => wp (o ρ S) fun a S => wp (i ρ S) fun k S => on (setItem a k x S) fun S1 => Z (.nx, ρ) S1 := w_sub
theorem v_dct {Z : Fl × Env → Sto → Prop} {o i v : E} : wp (sDct o i v ρ S) Z = wp (v ρ S) fun x S => wp (o ρ S) fun a S => wp (i ρ S) fun k S => on (setDct a k x S) fun S1 => Z (.nx, ρ) S1 := w_dct
theorem v_fld {Z : Fl × Env → Sto → Prop} {c f : Nat} {o v : E} : wp (sFld c f o v ρ S) Z = wp (v ρ S) fun x S => wp (o ρ S) fun a S => on (setFld c f a x S) fun S1 => Z (.nx, ρ) S1 := w_fld
theorem v_ixT {ds : List D} {i : Int} : wp (gIx (.tup ds) (.int i) S) P = on (at? ds i) fun d => P d S := by
  cases h : at? ds i with
  | none => unfold gIx; simp only [h, wp_bad, on_none]
  | some d => rw [w_ixT h, on_some]
theorem v_ixL {n : Nat} {i : Int} : wp (gIx (.ref n) (.int i) S) P = on (lstOf n S) fun ds => on (at? ds i) fun d => P d S := by
  cases h : lstOf n S with
  | none => unfold gIx; simp only [h, wp_bad, on_none]
  | some ds =>
    cases h2 : at? ds i with
    | none => unfold gIx; simp only [h, h2, wp_bad, on_none, on_some]
    | some d => rw [w_ixL h h2, on_some, h2, on_some]
theorem v_ixS {s : List Nat} {i : Int} (hl : s.length ≤ LIM) : wp (gIx (.str s) (.int i) S) P = on (at? s i) fun c => P (.str [c]) S := by
  cases h : at? s i with
  | none => unfold gIx; simp only [h, if_pos hl, wp_bad, on_none]
  | some d => rw [w_ixS hl h, on_some]
theorem v_dx {n : Nat} {k : D} (hk : keyOk k = true) : wp (gDx (.ref n) k S) P = on (dicOf n S) fun kvs => on (dget kvs k) fun d => P d S := by
  cases h : dicOf n S with
  | none => unfold gDx; simp only [h, wp_bad, on_none]
  | some kvs =>
    cases h2 : dget kvs k with
    | none => unfold gDx; simp only [h, h2, hk, if_true, wp_bad, on_none, on_some]
    | some d => rw [w_dx h hk h2, on_some, h2, on_some]
theorem v_eq {x y : D} : wp (gEq x y S) P = on (eqF S x y) fun b => P (.bl b) S := by
  cases h : eqF S x y with
  | none => unfold gEq; simp only [h, wp_bad, on_none]
  | some b => rw [w_eq h, on_some]
theorem v_ne {x y : D} : wp (gNe x y S) P = on (eqF S x y) fun b => P (.bl (!b)) S := by
  cases h : eqF S x y with
  | none => unfold gNe; simp only [h, wp_bad, on_none]
  | some b => rw [w_ne h, on_some]
theorem v_is {k : Kind} {x : D} : wp (gIs k x S) P = on (isK k x S) fun b => P (.bl b) S := by
  cases h : isK k x S with
  | none => unfold gIs; simp only [h, wp_bad, on_none]
  | some b => rw [w_is h, on_some]
theorem v_in {x y : D} : wp (gIn x y S) P = on (inB x y S) fun b => P (.bl b) S := by
  cases h : inB x y S with
  | none => unfold gIn; simp only [h, wp_bad, on_none]
  | some b => rw [w_in h, on_some]
theorem v_notIn {x y : D} : wp (gNotIn x y S) P = on (inB x y S) fun b => P (.bl (!b)) S := by
  cases h : inB x y S with
  | none => unfold gNotIn; simp only [h, wp_bad, on_none]
  | some b => rw [w_notIn h, on_some]
theorem v_gfld {c f n : Nat} : wp (gFld c f (.ref n) S) P = on (insOf c n S) fun fs => on (fget fs f) fun d => P d S := by
  cases h : insOf c n S with
  | none => unfold gFld; simp only [h, wp_bad, on_none]
  | some fs =>
    cases h2 : fget fs f with
    | none => unfold gFld; simp only [h, h2, wp_bad, on_none, on_some]
    | some d => rw [w_gfld h h2, on_some, h2, on_some]
theorem v_lenL {n : Nat} : wp (fLen [.ref n] S) P = on (lstOf n S) fun ds => P (.int ds.length) S := by
  cases h : lstOf n S with
  | none => unfold fLen; simp only [h, wp_bad, on_none]
  | some ds => rw [w_lenL h, on_some]
theorem v_lenS {s : List Nat} : wp (fLen [.str s] S) P = (s.length ≤ LIM ∧ P (.int s.length) S) := by
  unfold fLen
  by_cases h : s.length ≤ LIM
  · simp [h, wp_ok]
  · simp [h, wp_bad]
theorem v_listOf {d : D} : wp (fList [d] S) P = on (seqOf d S) fun ds => P (.ref S.length) (S ++ [.lst ds]) := by
  cases h : seqOf d S with
  | none => unfold fList; simp only [h, wp_bad, on_none]
  | some ds => rw [w_listOf h, on_some]
theorem v_tupOf {d : D} : wp (fTuple [d] S) P = on (seqOf d S) fun ds => P (.tup ds) S := by
  cases h : seqOf d S with
  | none => unfold fTuple; simp only [h, wp_bad, on_none]
  | some ds => rw [w_tupOf h, on_some]
theorem v_iseq {P : Iter → Sto → Prop} {a : E} : wp (iSeq a ρ S) P = wp (a ρ S) fun x S => on (seqOf x S) fun ds => P ⟨chkOf x S, ds⟩ S := w_iseq
theorem v_range1 {P : Iter → Sto → Prop} {a : E} : wp (iRange1 a ρ S) P = wp (a ρ S) fun x S => ∃ j, x = .int j ∧ (-(2 ^ 62) ≤ j ∧ j < 2 ^ 62) ∧ P ⟨[], rangeD 0 j⟩ S := w_range1
theorem v_enum {P : Iter → Sto → Prop} {a : E} : wp (iEnum a ρ S) P = wp (a ρ S) fun x S => on (seqZ x S) fun ds => P ⟨chkOf x S, enumD 0 ds⟩ S := w_enum
theorem v_m1 {g : D → D → M D} {o a : E} : wp (eM1 g o a ρ S) P = wp (o ρ S) fun x S => isL x S = true ∧ wp (a ρ S) fun y S => wp (g x y S) P := by
  unfold eM1
  rw [wp_bind]
  congr
  funext x S
  by_cases h : isL x S = true
  · simp [h, wp_bind]
  · simp [h, wp_bad]
theorem v_append {n : Nat} {v : D} : wp (mAppend (.ref n) v S) P = on (wrOf n S) fun ds => ds.length < LIM ∧ P .non (S.set n (.lst (ds ++ [v]))) := by
  unfold mAppend
  cases h : wrOf n S with
  | none => simp only [h, on_none, wp_bad]
  | some ds =>
    by_cases c : ds.length < LIM
    · simp only [h, on_some, c, if_true, true_and, wp_ok]
    · simp only [h, on_some, c, if_false, false_and, wp_bad]
theorem v_pop0 {n : Nat} : wp (mPop (.ref n) (.int 0) S) P = on (wrOf n S) fun ds => on ds[0]? fun d => P d (S.set n (.lst (ds.eraseIdx 0))) := by
  unfold mPop
  cases h : wrOf n S with
  | none => simp only [h, on_none, wp_bad]
  | some ds =>
    have c : (0 : Int) ≤ 0 ∧ (0 : Int) < 2 ^ 62 := by decide
    have z : (Int.toNat 0) = 0 := rfl
    cases h2 : ds[0]? with
    | none => simp only [h, on_some, on_none, c, z, h2, wp_bad, if_true, and_self]
    | some d => simp only [h, on_some, c, z, h2, wp_ok, if_true, and_self]
theorem v_meth {c : Nat} {f : Fn} {o : E} {a : A} : wp (eMeth c f o a ρ S) P = wp (o ρ S) fun x S => ∃ n, x = .ref n ∧ on (insOf c n S) fun _ => wp (a ρ S) fun xs S => wp (f (.ref n :: xs) S) P := by
  unfold eMeth
  rw [wp_bind]
  congr
  funext x S
  cases x with
  | ref n =>
    refine propext ⟨fun h => ⟨n, rfl, ?_⟩, fun ⟨m, e, h⟩ => ?_⟩
    · cases e : insOf c n S with
      | none => simp [e, wp_bad] at h
      | some fs => simp only [e, wp_bind] at h; rw [on_some]; exact h
    · cases e
      cases e : insOf c n S with
      | none => rw [e, on_none] at h; exact h.elim
      | some fs => rw [e, on_some] at h; simp only [e, wp_bind]; exact h
  | _ => simp [wp_bad]
theorem ex_ref {n : Nat} {k : Nat → Prop} : (∃ m, D.ref n = .ref m ∧ k m) = k n := propext ⟨fun ⟨d, e, h⟩ => by cases e; exact h, fun h => ⟨n, rfl, h⟩⟩
theorem v_make {c : Nat} {f : Fn} {a : A} : wp (eMake c f a ρ S) P = wp (a ρ S) fun xs S => wp (f (.ref S.length :: xs) (S ++ [.ins c []])) fun r S1 => r = .non ∧ P (.ref S.length) S1 := by
  unfold eMake
  simp only [wp_bind]
  congr
  funext xs S
  congr
  funext r S1
  by_cases h : r = .non
  · simp [h, wp_ok]
  · simp [h, wp_bad]
theorem v_setItem {n : Nat} {k : Int} {x : D} {K : Sto → Prop} : on (setItem (.ref n) (.int k) x S) K = on (wrOf n S) fun ds => on (ixN ds.length k) fun j => K (S.set n (.lst (ds.set j x))) := by
  unfold setItem
  cases h : wrOf n S with
  | none => simp only [h, on_none]
  | some ds =>
    cases h2 : ixN ds.length k with
    | none => simp only [h, on_none, on_some, h2]
    | some j => simp only [h, on_some, h2]
theorem v_setDct {n : Nat} {k x : D} {K : Sto → Prop} (hk : keyOk k = true) : on (setDct (.ref n) k x S) K = on (dicOf n S) fun kvs => kvs.length < LIM ∧ K (S.set n (.dic (dput kvs k x))) := by
  unfold setDct
  cases h : dicOf n S with
  | none => simp only [h, on_none]
  | some kvs =>
    by_cases c : kvs.length < LIM
    · simp only [h, on_some, c, hk, and_self, if_true, true_and]
    · simp only [h, on_some, on_none, c, hk, and_false, if_false, false_and]
theorem v_setFld {c f n : Nat} {x : D} {K : Sto → Prop} : on (setFld c f (.ref n) x S) K = on (insOf c n S) fun fs => fs.length < 100 ∧ K (S.set n (.ins c (fput fs f x))) := by
  unfold setFld
  cases h : insOf c n S with
  | none => simp only [h, on_none]
  | some fs =>
    by_cases c : fs.length < 100
    · simp only [h, on_some, c, if_true, true_and]
    · simp only [h, on_some, on_none, c, if_false, false_and]
theorem v_kget {t : List (D × D)} {k : List Nat} {v : D} : wp (kGet t (.str k) v S) P = P ((dget t (.str k)).getD v) S := wp_ok
theorem v_upd {o a : E} : wp (eUpd o a ρ S) P = wp (o ρ S) fun x S => ∃ n, x = .ref n ∧ on (dicOf n S) fun _ => wp (a ρ S) fun y S => wp (mUpdate (.ref n) y S) P := by
  unfold eUpd
  rw [wp_bind]
  congr
  funext x S
  cases x with
  | ref n =>
    refine propext ⟨fun h => ⟨n, rfl, ?_⟩, fun ⟨m, e, h⟩ => ?_⟩
    · cases e : dicOf n S with
      | none => simp [e, wp_bad] at h
      | some fs => simp only [e, wp_bind] at h; rw [on_some]; exact h
    · cases e
      cases e : dicOf n S with
      | none => rw [e, on_none] at h; exact h.elim
      | some fs => rw [e, on_some] at h; simp only [e, wp_bind]; exact h
  | _ => simp [wp_bad]
theorem ixN_lit {m : Nat} (n : Nat) (i : Int) (h : i = (n : Int)) (hn : n < m) : ixN m i = some n := by
  subst h
  unfold ixN
  simp [hn]
end
section
variable {S U : Sto} {n i : Nat} {o u : MO} {ds : List D}
theorem lstOf_app (h : S[n]? = some (.lst ds)) : lstOf n (S ++ U) = some ds := lstOf_lst (get_app h)
theorem lstOf_len {xs : List MO} : lstOf S.length (S ++ xs) = lstOf 0 xs := by
  unfold lstOf
  rw [List.getElem?_append_right (Nat.le_refl _), Nat.sub_self]
theorem lstOf_lenk {xs : List MO} {k : Nat} : lstOf (S.length + k) (S ++ xs) = lstOf k xs := by
  unfold lstOf
  rw [List.getElem?_append_right (Nat.le_add_right _ _), Nat.add_sub_cancel_left]
theorem lstOf_0 {xs : List MO} : lstOf 0 (.lst ds :: xs) = some ds := rfl
theorem lstOf_1 {xs : List MO} : lstOf 1 (o :: .lst ds :: xs) = some ds := rfl
theorem wrOf_app (h : S[n]? = some (.lst ds)) : wrOf n (S ++ U) = some ds := wrOf_lst (get_app h)
theorem isL_lst (h : S[n]? = some (.lst ds)) : isL (.ref n) S = true := by
  show (wrOf n S).isSome = true
  rw [wrOf_lst h]
  rfl
end
theorem w_mulR {S : Sto} {P : D → Sto → Prop} {i : Int} (j : Int) (h : -(2 ^ 64) < j ∧ j < 2 ^ 64) : wp (gMul (.int i) (.int j) S) P = P (.int (i * j)) S := w_mul (.inr h)
theorem eqF_int {S : Sto} {i j : Int} : eqF S (.int i) (.int j) = some (i == j) := rfl
theorem eqF_str {S : Sto} {i j : List Nat} : eqF S (.str i) (.str j) = some (i == j) := rfl
theorem eqF_bl {S : Sto} {i j : Bool} : eqF S (.bl i) (.bl j) = some (i == j) := rfl
theorem kd_tup_tup : (Kind.tup == Kind.tup) = true := rfl
theorem kd_tup_int : (Kind.tup == Kind.int) = false := rfl
theorem kd_tup_bool : (Kind.tup == Kind.bool) = false := rfl
theorem kd_tup_str : (Kind.tup == Kind.str) = false := rfl
theorem kd_tup_lst : (Kind.tup == Kind.lst) = false := rfl
theorem kd_int_tup : (Kind.int == Kind.tup) = false := rfl
theorem kd_int_int : (Kind.int == Kind.int) = true := rfl
theorem kd_int_bool : (Kind.int == Kind.bool) = false := rfl
theorem kd_int_str : (Kind.int == Kind.str) = false := rfl
theorem kd_int_lst : (Kind.int == Kind.lst) = false := rfl
theorem kd_bool_tup : (Kind.bool == Kind.tup) = false := rfl
theorem kd_bool_int : (Kind.bool == Kind.int) = false := rfl
theorem kd_bool_bool : (Kind.bool == Kind.bool) = true := rfl
theorem kd_bool_str : (Kind.bool == Kind.str) = false := rfl
theorem kd_bool_lst : (Kind.bool == Kind.lst) = false := rfl
theorem kd_str_tup : (Kind.str == Kind.tup) = false := rfl
theorem kd_str_int : (Kind.str == Kind.int) = false := rfl
theorem kd_str_bool : (Kind.str == Kind.bool) = false := rfl
theorem kd_str_str : (Kind.str == Kind.str) = true := rfl
theorem kd_str_lst : (Kind.str == Kind.lst) = false := rfl
theorem kd_lst_tup : (Kind.lst == Kind.tup) = false := rfl
theorem kd_lst_int : (Kind.lst == Kind.int) = false := rfl
theorem kd_lst_bool : (Kind.lst == Kind.bool) = false := rfl
theorem kd_lst_str : (Kind.lst == Kind.str) = false := rfl
theorem kd_lst_lst : (Kind.lst == Kind.lst) = true := rfl
theorem isK_non {k : Kind} {S : Sto} : isK k .non S = some false := rfl
theorem isK_bl {k : Kind} {b : Bool} {S : Sto} : isK k (.bl b) S = some (k == .bool || k == .int) := rfl
theorem isK_int {k : Kind} {b : Int} {S : Sto} : isK k (.int b) S = some (k == .int) := rfl
theorem isK_str {k : Kind} {b : List Nat} {S : Sto} : isK k (.str b) S = some (k == .str) := rfl
theorem isK_tup {k : Kind} {b : List D} {S : Sto} : isK k (.tup b) S = some (k == .tup) := rfl
theorem isK_ref {k : Kind} {n : Nat} {S : Sto} {ds : List D} (h : lstOf n S = some ds) : isK k (.ref n) S = some (k == .lst) := by unfold isK; simp only [h]
/-- what changes is not among the old ones -/
theorem Keep.past {S S' S2 : Sto} {V W : List Nat} (a : Keep V S S') (b : Keep W S' S2) (h : ∀ i ∈ W, S.length ≤ i) : Keep V S S2 :=
  ⟨Nat.le_trans a.len b.len, fun i l n => (b.get i (Nat.lt_of_lt_of_le l a.len) fun m => Nat.not_lt_of_le (h i m) l).trans (a.get i l n)⟩
end PF
end
local macro_rules | `(tactic| simp_arith [$ls,*]) => `(tactic| try simp only [PF.wp_ok, PF.wp_ite, PF.v_var, PF.w_c, PF.w_e1, PF.w_e2, PF.w_nil, PF.w_cons, PF.w_tup, PF.w_lst, PF.w_call, PF.w_if, PF.w_te, PF.w_and, PF.w_or, PF.w_not, PF.w_tand, PF.w_tor, PF.w_tnot, PF.w_tyes, PF.w_chain, PF.w_next, PF.w_seq, PF.w_set, PF.v_asg, PF.v_par, PF.w_expr, PF.w_ret, PF.w_sif, PF.w_break, PF.w_cont, PF.v_sub, PF.v_dct, PF.v_fld, PF.w_fn, PF.w_comp, PF.w_for, PF.v_iseq, PF.v_range1, PF.v_enum, PF.v_m1, PF.v_append, PF.v_pop0, PF.v_meth, PF.v_make, PF.v_upd, PF.w_add, PF.w_sub2, PF.w_neg, PF.w_lt, PF.w_le, PF.w_gt, PF.w_ge, PF.v_ixT, PF.v_ixL, PF.v_lenL, PF.w_lenT, PF.w_intB, PF.w_min2, PF.w_max2, PF.v_listOf, PF.v_tupOf, PF.v_gfld, PF.v_setItem, PF.v_setFld, PF.v_kget, PF.w_isN, PF.w_notN, PF.v_is, PF.v_eq, PF.v_ne, PF.eqF_int, PF.eqF_str, PF.eqF_bl, PF.ex_bl, PF.ex_int, PF.ex_ref, PF.on_some, PF.on_none, List.getElem?_cons_zero, List.getElem?_cons_succ, List.set_cons_zero, List.set_cons_succ, List.map_cons, List.map_nil, List.length_cons, List.length_nil, Nat.reduceAdd, Nat.reduceSub, Nat.reduceLeDiff, Nat.reduceLT, Nat.zero_add, List.replicate_succ, List.replicate_zero, List.cons_append, List.nil_append, true_and, and_true, PF.setAll, PF.gName, PF.gTup, PF.wipe, PF.isK_non, PF.isK_bl, PF.isK_int, PF.isK_str, PF.isK_tup, Bool.or_false, Bool.or_true, Bool.false_or, Bool.true_or, Bool.and_false, Bool.and_true, Bool.false_and, Bool.true_and, Int.reduceBEq, Int.reduceLT, Int.reduceLE, Int.reduceAdd, Int.reduceSub, Int.reduceNeg, decide_true, decide_false, Int.cast_ofNat_Int, beq_self_eq_true, PF.kd_tup_tup, PF.kd_tup_int, PF.kd_tup_bool, PF.kd_tup_str, PF.kd_tup_lst, PF.kd_int_tup, PF.kd_int_int, PF.kd_int_bool, PF.kd_int_str, PF.kd_int_lst, PF.kd_bool_tup, PF.kd_bool_int, PF.kd_bool_bool, PF.kd_bool_str, PF.kd_bool_lst, PF.kd_str_tup, PF.kd_str_int, PF.kd_str_bool, PF.kd_str_str, PF.kd_str_lst, PF.kd_lst_tup, PF.kd_lst_int, PF.kd_lst_bool, PF.kd_lst_str, PF.kd_lst_lst, PF.seqOf, if_true, Bool.false_eq_true, if_false, Bool.not_true, Bool.not_false, $ls,*])
section
set_option autoImplicit false
set_option maxRecDepth 100003
namespace PG
open PF
/-! ### == of lists of numbers -/
theorem tree_int {S : Sto} {n : Nat} {i : Int} : tree S n (.int i) = some (.int i) := by cases n <;> simp only [tree]
theorem tree_ints {S : Sto} {n : Nat} : ∀ L : List Int, allSome (tree S n) (L.map D.int) = some (L.map J.int)
  | [] => rfl
  | i :: L => by simp only [List.map_cons, allSome, tree_int, tree_ints L]
theorem tree_lst {S : Sto} {n k : Nat} {L : List Int} (h : lstOf k S = some (L.map .int)) : tree S (n + 1) (.ref k) = some (.lst (L.map J.int)) := by
  simp only [tree, h, tree_ints]
theorem eqvs_ints : ∀ L M : List Int, J.eqvs (L.map J.int) (M.map J.int) = (L == M)
  | [], [] => rfl
  | [], _ :: _ => rfl
  | _ :: _, [] => rfl
  | i :: L, j :: M => by
    show (J.eqv (.int i) (.int j) && J.eqvs (L.map J.int) (M.map J.int)) = _
    rw [eqvs_ints L M]
    rfl
theorem eq_ints {S : Sto} {a b : Nat} {L M : List Int} (ha : lstOf a S = some (L.map .int)) (hb : lstOf b S = some (M.map .int)) : eqF S (.ref a) (.ref b) = some (L == M) := by
  show eqT S (.ref a) (.ref b) = _
  unfold eqT
  rw [show EQD = 39 + 1 from rfl, tree_lst ha, tree_lst hb]
  show some (J.eqvs _ _) = _
  rw [eqvs_ints]
/-! ### the box -/
/-- the box at b: its list at q, its number -/
def Box (b q : Nat) (S : Sto) : Prop := b ≠ q ∧ ∃ (L : List Int) (st : Int), S[b]? = some (.lst [.ref q, .int st]) ∧ S[q]? = some (.lst (L.map .int)) ∧ L.length ≤ 63
theorem Box.keep {b q : Nat} {S S' : Sto} {W : List Nat} (h : Box b q S) (k : Keep W S S') (hb : b ∉ W) (hq : q ∉ W) : Box b q S' := by
  obtain ⟨n, L, st, h1, h2, h3⟩ := h
  exact ⟨n, L, st, k.at h1 hb, k.at h2 hq, h3⟩
theorem Box.lt {b q : Nat} {S : Sto} (h : Box b q S) : b < S.length ∧ q < S.length := by
  obtain ⟨n, L, st, h1, h2, h3⟩ := h
  exact ⟨lt_of_get h1, lt_of_get h2⟩
theorem take_spec {b q : Nat} {S : Sto} {m : Int} (hB : Box b q S) (h0 : 0 < m) (h1 : m < 1073741824) :
    wp (f__law_take [.ref b, .int m] S) fun d S' => ∃ r : Int, d = .int r ∧ 0 ≤ r ∧ r < m ∧ Box b q S' ∧ Keep [b, q] S S' := by
  obtain ⟨ne, L, st, hb, hq, hL⟩ := hB
  have hq1 : lstOf q (S ++ [.lst []]) = some (L.map .int) := lstOf_app hq
  have hz : lstOf S.length (S ++ [.lst []]) = some (([] : List Int).map .int) := by rw [lstOf_len]; rfl
  have e1 : eqF (S ++ [.lst []]) (.ref q) (.ref S.length) = some (L == []) := eq_ints hq1 hz
  have hb0 : (S ++ [.lst []])[b]? = some (.lst [.ref q, .int st]) := get_app hb
  have hq0 : (S ++ [.lst []])[q]? = some (.lst (L.map .int)) := get_app hq
  have k0 : Keep [b, q] S (S ++ [.lst []]) := .app
  have lb := lt_of_get hb0
  have lq := lt_of_get hq0
  unfold f__law_take b__law_take
  simp_arith [lstOf_lst hb, at0, e1]
  generalize S ++ [.lst []] = S0 at *
  cases L with
  | nil =>
    have hm : ∀ x : Int, 0 ≤ x % m ∧ x % m < m := fun x => ⟨Int.emod_nonneg _ (by omega), Int.emod_lt_of_pos _ h0⟩
    simp_arith [show (([] : List Int) == []) = true from rfl, lstOf_lst hb0, at_lit 1 1 rfl, w_mulR 48271 (by decide), w_mod (show (0 : Int) < 2147483647 by decide), wrOf_lst hb0, ixN_lit 1 1 rfl (show 1 < 2 by decide), lstOf_lst (get_set lb), w_fdiv (show (0 : Int) < 7 ∧ (7 : Int) < 1073741824 by decide), w_mod h0]
    exact ⟨(hm _).1, (hm _).2, ⟨ne, [], _, get_set lb, get_ne hq0 ne, by decide⟩, k0.trans (.set (by simp))⟩
  | cons i L =>
    have hm : ∀ x : Int, 0 ≤ x % m ∧ x % m < m := fun x => ⟨Int.emod_nonneg _ (by omega), Int.emod_lt_of_pos _ h0⟩
    have hq1 : (S0.set q (.lst ((i / m :: L).map .int)))[q]? = some (.lst ((i / m :: L).map .int)) := get_set lq
    have hb1 : (S0.set q (.lst ((i / m :: L).map .int)))[b]? = some (.lst [.ref q, .int st]) := get_ne hb0 (Ne.symm ne)
    have hq1 : (S0.set q (.lst ((i / m :: L).map .int)))[q]? = some (.lst ((i / m :: L).map .int)) := get_set lq
    have hb1 : (S0.set q (.lst ((i / m :: L).map .int)))[b]? = some (.lst [.ref q, .int st]) := get_ne hb0 (Ne.symm ne)
    simp_arith [show ((i :: L : List Int) == []) = false from rfl, lstOf_lst hb0, lstOf_lst hq0, at0, w_fdiv ⟨h0, h1⟩, wrOf_lst hq0, ixN_lit 0 0 rfl (show 0 < L.length + 1 by omega), List.length_map]
    have k1 : Keep [b, q] S (S0.set q (.lst ((i / m :: L).map .int))) := k0.trans (.set (by simp))
    rw [List.map_cons] at hq1 hb1 k1
    have lq1 := lt_of_get hq1
    generalize S0.set q (.lst (D.int (i / m) :: L.map .int)) = S1 at *
    rw [List.length_cons] at hL
    simp_arith [lstOf_lst hb1, lstOf_lst hq1, wrOf_lst hq1, at0, isL_lst hq1, w_mod h0, List.eraseIdx_cons_zero]
    have fin : ∀ S2, Box b q S2 → Keep [b, q] S S2 → 0 ≤ i % m ∧ i % m < m ∧ Box b q S2 ∧ Keep [b, q] S S2 := fun S2 h k => ⟨(hm _).1, (hm _).2, h, k⟩
    have f1 := fin S1 ⟨ne, i / m :: L, st, hb1, hq1, by rw [List.length_cons]; omega⟩ k1
    have f2 := fin (S1.set q (.lst (L.map .int))) ⟨ne, L, st, get_ne hb1 (Ne.symm ne), get_set lq1, by omega⟩ (k1.trans (.set (by simp)))
    split
    · exact f2
    · split
      · exact f2
      · exact f1
end PG
end
section
set_option autoImplicit false
set_option maxRecDepth 100003
namespace PG
open PF
inductive Op3 where
  | add | take | less
def Op3.s : Op3 → List Nat
  | .add => z_add
  | .take => z_take
  | .less => z_less
inductive Row where
  | put (d k : Int) | copy (d a : Int) | op (o : Op3) (d a b : Int) | call (d a : Int) | say (a : Int) | ife (a r : Int) | go (r : Int) | fin
def Row.D : Row → D
  | .put d k => .tup [.str z_put, .int d, .int k]
  | .copy d a => .tup [.str z_copy, .int d, .int a]
  | .op o d a b => .tup [.str o.s, .int d, .int a, .int b]
  | .call d a => .tup [.str z_call, .int d, .int a]
  | .say a => .tup [.str z_say, .int a]
  | .ife a r => .tup [.str z_if, .int a, .int r]
  | .go r => .tup [.str z_go, .int r]
  | .fin => .tup [.str z_end]
def In0 (x n : Int) : Prop := 0 ≤ x ∧ x < n
def Row.ok (names many : Int) : Row → Prop
  | .put d k => In0 d names ∧ In0 k 1000
  | .copy d a => In0 d names ∧ In0 a names
  | .op _ d a b => In0 d names ∧ In0 a names ∧ In0 b names
  | .call d a => In0 d names ∧ In0 a names
  | .say a => In0 a names
  | .ife a r => In0 a names ∧ In0 r many
  | .go r => In0 r many
  | .fin => True
theorem take_in {b q : Nat} {S : Sto} {m : Int} {P : D → Sto → Prop} (hB : Box b q S) (h : 0 < m ∧ m < 1073741824) (k : ∀ r S', In0 r m → Box b q S' → Keep [b, q] S S' → P (.int r) S') : wp (f__law_take [.ref b, .int m] S) P :=
  wp_mono (take_spec hB h.1 h.2) fun d S' ⟨r, e, r0, r1, hB', kk⟩ => e ▸ k r S' ⟨r0, r1⟩ hB' kk
theorem notBQ {b q n : Nat} {S : Sto} (hB : Box b q S) (h : S.length ≤ n) : n ∉ [b, q] := by
  have := hB.lt
  simp
  omega
/-- [x, y, ..] stands and a number is drawn, then [..][r] -/
theorem ix_new {b q : Nat} {S S' : Sto} {ds : List D} {r : Int} {P : D → Sto → Prop} (hB : Box b q S) (k : Keep [b, q] (S ++ [.lst ds]) S') (h : on (at? ds r) fun d => P d S') : wp (gIx (.ref S.length) (.int r) S') P := by
  have e : S'[S.length]? = some (.lst ds) := k.at get_last (notBQ hB (Nat.le_refl _))
  rw [v_ixL, lstOf_lst e, on_some]
  exact h
theorem Box.app {b q : Nat} {S U : Sto} (h : Box b q S) : Box b q (S ++ U) := h.keep (W := []) .app (by simp) (by simp)
theorem at2 {α : Type} {x y : α} {r : Int} {P : α → Prop} (h : In0 r 2) (hx : P x) (hy : P y) : on (at? [x, y] r) P := by
  obtain rfl | rfl : r = 0 ∨ r = 1 := by unfold In0 at h; omega
  · rw [at0]; exact ⟨_, rfl, hx⟩
  · rw [at_lit 1 1 rfl]; exact ⟨_, rfl, hy⟩
theorem at3 {α : Type} {x y z : α} {r : Int} {P : α → Prop} (h : In0 r 3) (hx : r = 0 → P x) (hy : r = 1 → P y) (hz : r = 2 → P z) : on (at? [x, y, z] r) P := by
  obtain rfl | rfl | rfl : r = 0 ∨ r = 1 ∨ r = 2 := by unfold In0 at h; omega
  · rw [at0]; exact ⟨_, rfl, hx rfl⟩
  · rw [at_lit 1 1 rfl]; exact ⟨_, rfl, hy rfl⟩
  · rw [at_lit 2 2 rfl]; exact ⟨_, rfl, hz rfl⟩
theorem row_spec {b q : Nat} {S : Sto} {names many at_ : Int} (hB : Box b q S) (hn : 0 < names ∧ names < 1000) (hm : 0 < many ∧ many < 1000) (ha : In0 at_ many) :
    wp (f__law_row [.ref b, .int names, .int many, .int at_] S) fun d S' => ∃ row : Row, d = row.D ∧ row.ok names many ∧ Box b q S' ∧ Keep [b, q] S S' := by
  have hn' : 0 < names ∧ names < 1073741824 := ⟨hn.1, by omega⟩
  have hm' : 0 < many ∧ many < 1073741824 := ⟨hm.1, by omega⟩
  unfold f__law_row b__law_row
  simp_arith []
  refine take_in hB (by decide) fun way S1 i1 B1 k1 => ?_
  simp_arith []
  refine take_in B1 hn' fun nm S2 i2 B2 k2 => ?_
  refine take_in B2 hn' fun one S3 i3 B3 k3 => ?_
  refine take_in B3 hn' fun other S4 i4 B4 k4 => ?_
  have K4 := ((k1.trans k2).trans k3).trans k4
  simp_arith []
  split
  · -- put
    refine take_in B4 (by decide) fun x S5 i5 B5 k5 => take_in B5 (by decide) fun y S6 i6 B6 k6 => ?_
    refine take_in B6.app (by decide) fun z S7 i7 B7 k7 => ?_
    refine ix_new B6 k7 (at2 i7 ?_ ?_)
    · exact ⟨.put nm x, rfl, ⟨i2, i5⟩, B7, (((K4.trans k5).trans k6).trans .app).trans k7⟩
    · exact ⟨.put nm y, rfl, ⟨i2, i6.1, by have := i6.2; omega⟩, B7, (((K4.trans k5).trans k6).trans .app).trans k7⟩
  · simp_arith []
    split
    · exact ⟨.copy nm one, rfl, ⟨i2, i3⟩, B4, K4⟩
    · simp_arith []
      split
      · rename_i c1 c2 c3
        have c1 : ¬ way < 2 := by simpa using c1
        have c2 : ¬ way < 4 := by simpa using c2
        have c3 : way < 7 := by simpa using c3
        simp_arith [lstOf_len, lstOf_0]
        refine at3 ⟨by omega, by omega⟩ (fun _ => ?_) (fun _ => ?_) (fun _ => ?_)
        · exact ⟨.op .add nm one other, rfl, ⟨i2, i3, i4⟩, B4.app, K4.trans .app⟩
        · exact ⟨.op .take nm one other, rfl, ⟨i2, i3, i4⟩, B4.app, K4.trans .app⟩
        · exact ⟨.op .less nm one other, rfl, ⟨i2, i3, i4⟩, B4.app, K4.trans .app⟩
      · simp_arith []
        split
        · exact ⟨.call nm one, rfl, ⟨i2, i3⟩, B4, K4⟩
        · simp_arith []
          split
          · exact ⟨.say one, rfl, i3, B4, K4⟩
          · simp_arith []
            refine take_in B4 hm' fun goal S5 i5 B5 k5 => ?_
            have mn : ∀ x : Int, 0 ≤ x → In0 (if at_ + 1 + x < many - 1 then at_ + 1 + x else many - 1) many := fun x hx => by
              have := ha.1
              unfold In0
              split <;> omega
            simp_arith [w_mod (show (0 : Int) < 4 by decide), w_mod (show (0 : Int) < 3 by decide)]
            split
            · refine take_in B5.app (by decide) fun z S7 i7 B7 k7 => ?_
              refine ix_new B5 k7 (at2 i7 ?_ ?_)
              · exact ⟨.ife one goal, rfl, ⟨i3, i5⟩, B7, ((K4.trans k5).trans .app).trans k7⟩
              · exact ⟨.ife one _, rfl, ⟨i3, mn _ (Int.emod_nonneg _ (by decide))⟩, B7, ((K4.trans k5).trans .app).trans k7⟩
            · simp_arith [w_mod (show (0 : Int) < 4 by decide), w_mod (show (0 : Int) < 3 by decide)]
              refine take_in B5.app (by decide) fun z S7 i7 B7 k7 => ?_
              have KK := ((K4.trans k5).trans .app).trans k7
              refine ix_new B5 k7 (at3 i7 (fun _ => ?_) (fun _ => ?_) (fun _ => ?_))
              · exact ⟨.go _, rfl, mn _ (Int.emod_nonneg _ (by decide)), B7, KK⟩
              · exact ⟨.go goal, rfl, i5, B7, KK⟩
              · exact ⟨.fin, rfl, trivial, B7, KK⟩
end PG
end
section
set_option autoImplicit false
set_option maxRecDepth 100003
namespace PG
open PF
theorem rangeD_len (lo hi : Int) : (rangeD lo hi).length = (hi - lo).toNat := by unfold rangeD; simp
theorem rangeD_get {lo hi : Int} {k : Nat} {x : D} (h : (rangeD lo hi)[k]? = some x) : x = .int (lo + (k : Int)) ∧ (k : Int) < hi - lo := by
  unfold rangeD at h
  rw [List.getElem?_map] at h
  cases e : (List.range (hi - lo).toNat)[k]? with
  | none => rw [e] at h; cases h
  | some m =>
    rw [e] at h
    obtain ⟨l, e2⟩ := List.getElem?_eq_some_iff.mp e
    rw [List.getElem_range] at e2
    subst e2
    rw [List.length_range] at l
    exact ⟨(Option.some.inj h).symm, by omega⟩
theorem same_nil {ds : List D} {S : Sto} : (Iter.mk [] ds).same S = true := rfl
def progD (params names : Int) (rows : List Row) : D := .tup [.int params, .int names, .tup (rows.map Row.D)]
structure ProgOk (params names : Int) (rows : List Row) : Prop where
  pr : 0 ≤ params ∧ params ≤ names
  nm : 1 ≤ names ∧ names ≤ 8
  ln : 1 ≤ rows.length ∧ rows.length ≤ 24
  ok : ∀ r ∈ rows, r.ok names rows.length
theorem program_spec {b q : Nat} {S : Sto} {most : Int} (hB : Box b q S) (h0 : 1 ≤ most ∧ most ≤ 24) :
    wp (f__law_program [.ref b, .int most] S) fun d S' => ∃ params names rows, d = progD params names rows ∧ ProgOk params names rows ∧ (rows.length : Int) ≤ most ∧ Box b q S' ∧ Keep [b, q] S S' := by
  unfold f__law_program b__law_program
  simp_arith []
  refine take_in hB.app (by decide) fun r1 S1 i1 B1 k1 => ?_
  have K1 : Keep [b, q] S S1 := Keep.trans .app k1
  refine ix_new hB k1 ?_
  have h3 : ∀ (P : Int → Prop), P 3 → P 4 → P 8 → on (at? [D.int 3, D.int 4, D.int 8] r1) (fun d => ∃ m, d = .int m ∧ P m) := fun P p3 p4 p8 => at3 i1 (fun _ => ⟨_, rfl, p3⟩) (fun _ => ⟨_, rfl, p4⟩) (fun _ => ⟨_, rfl, p8⟩)
  obtain ⟨_, e3, m3, rfl, hm3⟩ := h3 (fun m => 1 ≤ m ∧ m ≤ 8) (by decide) (by decide) (by decide)
  rw [e3, on_some]
  refine take_in B1 ⟨by omega, by omega⟩ fun n0 S2 i2 B2 k2 => ?_
  have K2 := K1.trans k2
  have hn : 1 ≤ 1 + n0 ∧ 1 + n0 ≤ 8 := by unfold In0 at i2; omega
  simp_arith []
  generalize 1 + n0 = names at *
  refine take_in B2 ⟨by omega, by omega⟩ fun p0 S3 i3 B3 k3 => ?_
  refine take_in B3.app (by decide) fun r2 S4 i4 B4 k4 => ?_
  have K4 := ((K2.trans k3).trans .app).trans k4
  refine ix_new B3 k4 ?_
  have h5 : ∃ params, on (at? [D.int names, D.int p0] r2) (fun d => d = .int params) ∧ 0 ≤ params ∧ params ≤ names := by
    unfold In0 at i3
    obtain rfl | rfl : r2 = 0 ∨ r2 = 1 := by unfold In0 at i4; omega
    · exact ⟨names, by rw [at0]; exact ⟨_, rfl, rfl⟩, by omega, by omega⟩
    · exact ⟨p0, by rw [at_lit 1 1 rfl]; exact ⟨_, rfl, rfl⟩, by omega, by omega⟩
  obtain ⟨params, ⟨_, e5, rfl⟩, hp⟩ := h5
  rw [e5, on_some]
  refine take_in B4.app (by decide) fun r3 S5 i5 B5 k5 => ?_
  have K5 := (K4.trans .app).trans k5
  refine ix_new B4 k5 ?_
  have h6 : ∃ mm : Int, on (at? [D.int most, D.int (if 6 < most then 6 else most)] r3) (fun d => d = .int mm) ∧ 1 ≤ mm ∧ mm ≤ most := by
    obtain rfl | rfl : r3 = 0 ∨ r3 = 1 := by unfold In0 at i5; omega
    · exact ⟨most, by rw [at0]; exact ⟨_, rfl, rfl⟩, by omega, by omega⟩
    · exact ⟨if 6 < most then 6 else most, by rw [at_lit 1 1 rfl]; exact ⟨_, rfl, rfl⟩, by split <;> omega, by split <;> omega⟩
  obtain ⟨mm, ⟨_, e6, rfl⟩, hmm⟩ := h6
  rw [e6, on_some]
  refine take_in B5 ⟨by omega, by omega⟩ fun m0 S6 i6 B6 k6 => ?_
  have K6 := K5.trans k6
  have hm : 1 ≤ 1 + m0 ∧ 1 + m0 ≤ most := by unfold In0 at i6; omega
  simp_arith []
  generalize 1 + m0 = many at *
  refine ⟨by omega, ?_⟩
  have hl : (rangeD 0 many).length = many.toNat := by rw [rangeD_len]; omega
  refine wp_mono (wp_loop (it := ⟨[], rangeD 0 many⟩) (fun k acc S' => ∃ rows : List Row, acc = rows.map Row.D ∧ rows.length = k ∧ (∀ r ∈ rows, r.ok names many) ∧ Box b q S' ∧ Keep [b, q] S S') (fun _ _ _ _ => rfl) ?_ ⟨[], rfl, rfl, fun _ h => (nomatch h), B6, K6⟩) ?_
  · rintro k x acc S7 hx ⟨rows, rfl, hk, hr, B7, K7⟩
    obtain ⟨rfl, hlt⟩ := rangeD_get hx
    refine ⟨_, rfl, ?_⟩
    simp_arith []
    refine wp_mono (row_spec B7 (by omega) (by omega) ⟨by omega, by omega⟩) ?_
    rintro _ S8 ⟨row, rfl, ok, B8, k8⟩
    refine ⟨rows ++ [row], by simp, by simp [hk], fun r h => ?_, B8, K7.trans k8⟩
    rcases List.mem_append.mp h with z | z
    · exact hr r z
    · have : r = row := by simpa using z
      rw [this]
      exact ok
  · rintro ys S7 ⟨rows, rfl, hk, hr, B7, K7⟩
    have hk : rows.length = many.toNat := by rw [hk]; exact hl
    have hk2 : (rows.length : Int) = many := by omega
    refine ⟨by rw [List.length_map]; unfold LIM; omega, ?_⟩
    simp_arith [lstOf_len, lstOf_0]
    exact ⟨params, names, rows, rfl, ⟨hp, hn, by omega, fun r h => by rw [hk2]; exact hr r h⟩, by omega, B7.app, K7.trans .app⟩
end PG
end
section
set_option autoImplicit false
set_option maxRecDepth 100003
namespace PF
section
variable {S : Sto} {ρ : Env} {P : D → Sto → Prop}
theorem w_dict {ps : List (E × E)} : wp (eDict ps ρ S) P = wp (evPairs ps ρ S) fun q S => P (.ref S.length) (S ++ [.dic (putAll [] q)]) := by
  unfold eDict alloc
  simp only [wp_bind, wp_ok]
theorem w_evnil {P : List (D × D) → Sto → Prop} : wp (evPairs [] ρ S) P = P [] S := wp_ok
theorem w_evcons {P : List (D × D) → Sto → Prop} {k v : E} {r : List (E × E)} : wp (evPairs ((k, v) :: r) ρ S) P = wp (k ρ S) fun x S => wp (v ρ S) fun y S => keyOk x = true ∧ wp (evPairs r ρ S) fun q S => P ((x, y) :: q) S := by
  simp only [evPairs, wp_bind]
  congr
  funext x S
  congr
  funext y S
  by_cases h : keyOk x = true
  · simp only [h, if_true, true_and, wp_bind, wp_ok]
  · simp only [h, if_false, false_and, wp_bad, Bool.false_eq_true]
theorem w_cnil {P : List D → Sto → Prop} {it : Iter} {g : G} {t : T} {e : E} : wp (compLoop it g t e ρ [] S) P = (it.same S = true ∧ P [] S) := by
  unfold compLoop
  by_cases h : it.same S = true
  · simp only [h, if_true, true_and, wp_ok]
  · simp only [h, if_false, false_and, wp_bad, Bool.false_eq_true]
theorem w_ccons {P : List D → Sto → Prop} {it : Iter} {g : G} {t : T} {e : E} {x : D} {xs : List D} : wp (compLoop it g t e ρ (x :: xs) S) P = (it.same S = true ∧ on (g x ρ) fun ρ1 => wp (t ρ1 S) fun b S => if b = true then wp (e ρ1 S) fun y S => wp (compLoop it g t e ρ xs S) fun ys S => P (y :: ys) S else wp (compLoop it g t e ρ xs S) P) := by
  rw [compLoop]
  by_cases h : it.same S = true
  · simp only [h, if_true, true_and]
    cases e1 : g x ρ with
    | none => simp only [wp_bad, on_none]
    | some ρ1 =>
      simp only [wp_bind, on_some]
      congr
      funext b S
      split
      · simp only [wp_bind, wp_ok]
      · rfl
  · simp only [h, if_false, false_and, wp_bad, Bool.false_eq_true]
theorem dicOf_len {xs : List MO} : dicOf S.length (S ++ xs) = dicOf 0 xs := by
  unfold dicOf
  rw [List.getElem?_append_right (Nat.le_refl _), Nat.sub_self]
theorem dicOf_0 {kvs : List (D × D)} {xs : List MO} : dicOf 0 (.dic kvs :: xs) = some kvs := rfl
end
end PF
namespace PG
open PF
theorem begun_spec {n : Nat} {S : Sto} {L : List Int} (h : lstOf n S = some (L.map .int)) (hL : L.length ≤ 63) :
    wp (f__law_begun [.ref n] S) fun d S' => ∃ b q, d = .ref b ∧ Box b q S' ∧ Keep [] S S' ∧ S.length ≤ b ∧ S.length ≤ q := by
  unfold f__law_begun b__law_begun
  simp_arith [h, chkOf]
  refine wp_for (it := ⟨[(n, L.map D.int)], L.map D.int⟩) (fun k ρ S' => S' = S ∧ ∃ st c, ρ = [some (.ref n), some (.int st), c]) ?_ ?_ ⟨rfl, 0, none, rfl⟩ ?_
  · rintro k ρ S' ⟨rfl, _⟩
    simp [Iter.same, h]
  · rintro k x ρ S' hx ⟨rfl, st, c, rfl⟩
    rw [List.getElem?_map] at hx
    cases e : L[k]? with
    | none => rw [e] at hx; cases hx
    | some i =>
      rw [e] at hx
      cases hx
      refine ⟨_, rfl, ?_⟩
      simp_arith [w_mulR 48271 (by decide), w_mulR 69621 (by decide), w_mod (show (0 : Int) < 2147483647 by decide)]
      exact ⟨_, _, rfl⟩
  · rintro ρ S' ⟨rfl, st, c, rfl⟩
    have hb : ∀ b : Bool, -(2 ^ 64) < b2i b ∧ b2i b < 2 ^ 64 := fun b => by cases b <;> decide
    simp_arith [h, w_mul (.inr (hb _))]
    have h2 : lstOf n (S' ++ [.lst (L.map .int)]) = some (L.map .int) := by
      unfold lstOf at h ⊢
      have hl : n < S'.length := by
        cases e : S'[n]? with
        | none => rw [e] at h; cases h
        | some o => exact lt_of_get e
      rw [List.getElem?_append_left hl]
      exact h
    simp_arith [h2, w_mul (.inr (hb _))]
    refine ⟨_, S'.length, rfl, ⟨?_, L, st * b2i (decide (2 < ((L.map D.int).length : Int))), ?_, get_app get_last, hL⟩, .trans .app .app, ?_, Nat.le_refl _⟩
    · rw [List.length_append]; simp
    · exact get_last
    · rw [List.length_append]; simp
/-- a number within -/
theorem num_eq {S : Sto} {P : D → Sto → Prop} {i lo hi : Int} (h1 : lo ≤ i) (h2 : i ≤ hi) : wp (f_is_number [.int i, .int lo, .int hi] S) P = P (.bl true) S := by
  unfold f_is_number b_is_number
  simp_arith [h1, h2]
theorem sh_put : dget t_SHAPES (.str z_put) = some (.str z_dn) := by decide +kernel
theorem sh_copy : dget t_SHAPES (.str z_copy) = some (.str z_da) := by decide +kernel
theorem sh_add : dget t_SHAPES (.str z_add) = some (.str z_daa) := by decide +kernel
theorem sh_take : dget t_SHAPES (.str z_take) = some (.str z_daa) := by decide +kernel
theorem sh_less : dget t_SHAPES (.str z_less) = some (.str z_daa) := by decide +kernel
theorem sh_call : dget t_SHAPES (.str z_call) = some (.str z_da) := by decide +kernel
theorem sh_say : dget t_SHAPES (.str z_say) = some (.str z_a) := by decide +kernel
theorem sh_if : dget t_SHAPES (.str z_if) = some (.str z_ar) := by decide +kernel
theorem sh_go : dget t_SHAPES (.str z_go) = some (.str z_r) := by decide +kernel
theorem sh_end : dget t_SHAPES (.str z_end) = some (.str z_empty) := by decide +kernel
theorem v_lenSs {S : Sto} {P : D → Sto → Prop} {s : List Nat} (h : s.length ≤ 1000) : wp (fLen [.str s] S) P = P (.int s.length) S := by
  rw [v_lenS]
  have : s.length ≤ LIM := by unfold LIM; omega
  simp only [this, true_and]
theorem most_d {d a r : Int} : dget (putAll [] [(.str z_d, .int d), (.str z_a, .int a), (.str z_n, .int 999), (.str z_r, .int r)]) (.str z_d) = some (.int d) := rfl
theorem most_a {d a r : Int} : dget (putAll [] [(.str z_d, .int d), (.str z_a, .int a), (.str z_n, .int 999), (.str z_r, .int r)]) (.str z_a) = some (.int a) := rfl
theorem most_n {d a r : Int} : dget (putAll [] [(.str z_d, .int d), (.str z_a, .int a), (.str z_n, .int 999), (.str z_r, .int r)]) (.str z_n) = some (.int 999) := rfl
theorem most_r {d a r : Int} : dget (putAll [] [(.str z_d, .int d), (.str z_a, .int a), (.str z_n, .int 999), (.str z_r, .int r)]) (.str z_r) = some (.int r) := rfl
theorem v_ixSs {S : Sto} {P : D → Sto → Prop} {s : List Nat} {i : Int} (h : s.length ≤ 1000) : wp (gIx (.str s) (.int i) S) P = on (at? s i) fun c => P (.str [c]) S := v_ixS (by unfold LIM; omega)
theorem at_1 {α : Type} {xs : List α} : at? xs 1 = xs[1]? := at_lit 1 1 rfl
theorem at_2 {α : Type} {xs : List α} : at? xs 2 = xs[2]? := at_lit 2 2 rfl
theorem at_3 {α : Type} {xs : List α} : at? xs 3 = xs[3]? := at_lit 3 3 rfl
theorem range0 : rangeD 0 0 = [] := rfl
theorem range1 : rangeD 0 1 = [.int 0] := rfl
theorem range2 : rangeD 0 2 = [.int 0, .int 1] := rfl
theorem range3 : rangeD 0 3 = [.int 0, .int 1, .int 2] := rfl
theorem eq_nils {S : Sto} : eqF ((S ++ [MO.lst []]) ++ [MO.lst []]) (.ref S.length) (.ref (S ++ [MO.lst []]).length) = some true :=
  eq_ints (L := []) (M := []) (lstOf_app get_last) (by rw [lstOf_len]; rfl)
theorem is_row_spec {S : Sto} {names many : Int} {row : Row} (h : row.ok names many) : wp (f_is_row [row.D, .int names, .int many] S) fun d S' => d = .bl true ∧ Keep [] S S' := by
  unfold f_is_row b_is_row
  have r62 : ∀ n : Nat, n ≤ 3 → -(2 ^ 62) ≤ (n : Int) ∧ (n : Int) < 2 ^ 62 := fun n h => by omega
  have fin : ∀ U : Sto, D.bl true = .bl true ∧ Keep [] S (((S ++ U) ++ [MO.lst []]) ++ [MO.lst []]) := fun U => ⟨rfl, .trans (.trans .app .app) .app⟩
  cases row with
  | put d k =>
    obtain ⟨⟨a1, a2⟩, b1, b2⟩ := h
    (simp_arith [Row.D, at0, sh_put, sh_copy, sh_call, sh_say, sh_if, sh_go, sh_end, Option.getD_some, reduceCtorEq, v_lenSs (show z_dn.length ≤ 1000 by decide), v_lenSs (show z_da.length ≤ 1000 by decide), v_lenSs (show z_a.length ≤ 1000 by decide), v_lenSs (show z_ar.length ≤ 1000 by decide), v_lenSs (show z_r.length ≤ 1000 by decide), v_lenSs (show z_empty.length ≤ 1000 by decide), w_dict, w_evnil, w_evcons, keyOk, range0, range1, range2, range3])
    refine ⟨by decide, ?_⟩
    (simp_arith [w_ccons, w_cnil, same_nil, at0, at_1, at_2, at_3, v_ixSs (show z_dn.length ≤ 1000 by decide), v_ixSs (show z_da.length ≤ 1000 by decide), v_ixSs (show z_daa.length ≤ 1000 by decide), v_ixSs (show z_a.length ≤ 1000 by decide), v_ixSs (show z_ar.length ≤ 1000 by decide), v_ixSs (show z_r.length ≤ 1000 by decide), v_dx (show keyOk (.str z_d) = true from rfl), v_dx (show keyOk (.str z_a) = true from rfl), v_dx (show keyOk (.str z_n) = true from rfl), v_dx (show keyOk (.str z_r) = true from rfl), dicOf_len, dicOf_0, most_d, most_a, most_n, most_r, Nat.zero_le, eq_nils, num_eq a1 (show d ≤ names - 1 by omega), num_eq b1 (show k ≤ 999 by omega)])
    exact (fin _).2
  | copy d a =>
    obtain ⟨⟨a1, a2⟩, b1, b2⟩ := h
    (simp_arith [Row.D, at0, sh_put, sh_copy, sh_call, sh_say, sh_if, sh_go, sh_end, Option.getD_some, reduceCtorEq, v_lenSs (show z_dn.length ≤ 1000 by decide), v_lenSs (show z_da.length ≤ 1000 by decide), v_lenSs (show z_a.length ≤ 1000 by decide), v_lenSs (show z_ar.length ≤ 1000 by decide), v_lenSs (show z_r.length ≤ 1000 by decide), v_lenSs (show z_empty.length ≤ 1000 by decide), w_dict, w_evnil, w_evcons, keyOk, range0, range1, range2, range3])
    refine ⟨by decide, ?_⟩
    (simp_arith [w_ccons, w_cnil, same_nil, at0, at_1, at_2, at_3, v_ixSs (show z_dn.length ≤ 1000 by decide), v_ixSs (show z_da.length ≤ 1000 by decide), v_ixSs (show z_daa.length ≤ 1000 by decide), v_ixSs (show z_a.length ≤ 1000 by decide), v_ixSs (show z_ar.length ≤ 1000 by decide), v_ixSs (show z_r.length ≤ 1000 by decide), v_dx (show keyOk (.str z_d) = true from rfl), v_dx (show keyOk (.str z_a) = true from rfl), v_dx (show keyOk (.str z_n) = true from rfl), v_dx (show keyOk (.str z_r) = true from rfl), dicOf_len, dicOf_0, most_d, most_a, most_n, most_r, Nat.zero_le, eq_nils, num_eq a1 (show d ≤ names - 1 by omega), num_eq b1 (show a ≤ names - 1 by omega)])
    exact (fin _).2
  | op o d a b =>
    obtain ⟨⟨a1, a2⟩, ⟨b1, b2⟩, c1, c2⟩ := h
    have e : dget t_SHAPES (.str o.s) = some (.str z_daa) := by cases o <;> decide +kernel
    (simp_arith [Row.D, at0, e, Option.getD_some, reduceCtorEq, v_lenSs (show z_daa.length ≤ 1000 by decide), w_dict, w_evnil, w_evcons, keyOk, range0, range1, range2, range3])
    refine ⟨by decide, ?_⟩
    (simp_arith [w_ccons, w_cnil, same_nil, at0, at_1, at_2, at_3, v_ixSs (show z_dn.length ≤ 1000 by decide), v_ixSs (show z_da.length ≤ 1000 by decide), v_ixSs (show z_daa.length ≤ 1000 by decide), v_ixSs (show z_a.length ≤ 1000 by decide), v_ixSs (show z_ar.length ≤ 1000 by decide), v_ixSs (show z_r.length ≤ 1000 by decide), v_dx (show keyOk (.str z_d) = true from rfl), v_dx (show keyOk (.str z_a) = true from rfl), v_dx (show keyOk (.str z_n) = true from rfl), v_dx (show keyOk (.str z_r) = true from rfl), dicOf_len, dicOf_0, most_d, most_a, most_n, most_r, Nat.zero_le, eq_nils, num_eq a1 (show d ≤ names - 1 by omega), num_eq b1 (show a ≤ names - 1 by omega), num_eq c1 (show b ≤ names - 1 by omega)])
    exact (fin _).2
  | call d a =>
    obtain ⟨⟨a1, a2⟩, b1, b2⟩ := h
    (simp_arith [Row.D, at0, sh_put, sh_copy, sh_call, sh_say, sh_if, sh_go, sh_end, Option.getD_some, reduceCtorEq, v_lenSs (show z_dn.length ≤ 1000 by decide), v_lenSs (show z_da.length ≤ 1000 by decide), v_lenSs (show z_a.length ≤ 1000 by decide), v_lenSs (show z_ar.length ≤ 1000 by decide), v_lenSs (show z_r.length ≤ 1000 by decide), v_lenSs (show z_empty.length ≤ 1000 by decide), w_dict, w_evnil, w_evcons, keyOk, range0, range1, range2, range3])
    refine ⟨by decide, ?_⟩
    (simp_arith [w_ccons, w_cnil, same_nil, at0, at_1, at_2, at_3, v_ixSs (show z_dn.length ≤ 1000 by decide), v_ixSs (show z_da.length ≤ 1000 by decide), v_ixSs (show z_daa.length ≤ 1000 by decide), v_ixSs (show z_a.length ≤ 1000 by decide), v_ixSs (show z_ar.length ≤ 1000 by decide), v_ixSs (show z_r.length ≤ 1000 by decide), v_dx (show keyOk (.str z_d) = true from rfl), v_dx (show keyOk (.str z_a) = true from rfl), v_dx (show keyOk (.str z_n) = true from rfl), v_dx (show keyOk (.str z_r) = true from rfl), dicOf_len, dicOf_0, most_d, most_a, most_n, most_r, Nat.zero_le, eq_nils, num_eq a1 (show d ≤ names - 1 by omega), num_eq b1 (show a ≤ names - 1 by omega)])
    exact (fin _).2
  | say a =>
    obtain ⟨a1, a2⟩ := h
    (simp_arith [Row.D, at0, sh_put, sh_copy, sh_call, sh_say, sh_if, sh_go, sh_end, Option.getD_some, reduceCtorEq, v_lenSs (show z_dn.length ≤ 1000 by decide), v_lenSs (show z_da.length ≤ 1000 by decide), v_lenSs (show z_a.length ≤ 1000 by decide), v_lenSs (show z_ar.length ≤ 1000 by decide), v_lenSs (show z_r.length ≤ 1000 by decide), v_lenSs (show z_empty.length ≤ 1000 by decide), w_dict, w_evnil, w_evcons, keyOk, range0, range1, range2, range3])
    refine ⟨by decide, ?_⟩
    (simp_arith [w_ccons, w_cnil, same_nil, at0, at_1, at_2, at_3, v_ixSs (show z_dn.length ≤ 1000 by decide), v_ixSs (show z_da.length ≤ 1000 by decide), v_ixSs (show z_daa.length ≤ 1000 by decide), v_ixSs (show z_a.length ≤ 1000 by decide), v_ixSs (show z_ar.length ≤ 1000 by decide), v_ixSs (show z_r.length ≤ 1000 by decide), v_dx (show keyOk (.str z_d) = true from rfl), v_dx (show keyOk (.str z_a) = true from rfl), v_dx (show keyOk (.str z_n) = true from rfl), v_dx (show keyOk (.str z_r) = true from rfl), dicOf_len, dicOf_0, most_d, most_a, most_n, most_r, Nat.zero_le, eq_nils, num_eq a1 (show a ≤ names - 1 by omega)])
    exact (fin _).2
  | ife a r =>
    obtain ⟨⟨a1, a2⟩, b1, b2⟩ := h
    (simp_arith [Row.D, at0, sh_put, sh_copy, sh_call, sh_say, sh_if, sh_go, sh_end, Option.getD_some, reduceCtorEq, v_lenSs (show z_dn.length ≤ 1000 by decide), v_lenSs (show z_da.length ≤ 1000 by decide), v_lenSs (show z_a.length ≤ 1000 by decide), v_lenSs (show z_ar.length ≤ 1000 by decide), v_lenSs (show z_r.length ≤ 1000 by decide), v_lenSs (show z_empty.length ≤ 1000 by decide), w_dict, w_evnil, w_evcons, keyOk, range0, range1, range2, range3])
    refine ⟨by decide, ?_⟩
    (simp_arith [w_ccons, w_cnil, same_nil, at0, at_1, at_2, at_3, v_ixSs (show z_dn.length ≤ 1000 by decide), v_ixSs (show z_da.length ≤ 1000 by decide), v_ixSs (show z_daa.length ≤ 1000 by decide), v_ixSs (show z_a.length ≤ 1000 by decide), v_ixSs (show z_ar.length ≤ 1000 by decide), v_ixSs (show z_r.length ≤ 1000 by decide), v_dx (show keyOk (.str z_d) = true from rfl), v_dx (show keyOk (.str z_a) = true from rfl), v_dx (show keyOk (.str z_n) = true from rfl), v_dx (show keyOk (.str z_r) = true from rfl), dicOf_len, dicOf_0, most_d, most_a, most_n, most_r, Nat.zero_le, eq_nils, num_eq a1 (show a ≤ names - 1 by omega), num_eq b1 (show r ≤ many - 1 by omega)])
    exact (fin _).2
  | go r =>
    obtain ⟨b1, b2⟩ := h
    (simp_arith [Row.D, at0, sh_put, sh_copy, sh_call, sh_say, sh_if, sh_go, sh_end, Option.getD_some, reduceCtorEq, v_lenSs (show z_dn.length ≤ 1000 by decide), v_lenSs (show z_da.length ≤ 1000 by decide), v_lenSs (show z_a.length ≤ 1000 by decide), v_lenSs (show z_ar.length ≤ 1000 by decide), v_lenSs (show z_r.length ≤ 1000 by decide), v_lenSs (show z_empty.length ≤ 1000 by decide), w_dict, w_evnil, w_evcons, keyOk, range0, range1, range2, range3])
    refine ⟨by decide, ?_⟩
    (simp_arith [w_ccons, w_cnil, same_nil, at0, at_1, at_2, at_3, v_ixSs (show z_dn.length ≤ 1000 by decide), v_ixSs (show z_da.length ≤ 1000 by decide), v_ixSs (show z_daa.length ≤ 1000 by decide), v_ixSs (show z_a.length ≤ 1000 by decide), v_ixSs (show z_ar.length ≤ 1000 by decide), v_ixSs (show z_r.length ≤ 1000 by decide), v_dx (show keyOk (.str z_d) = true from rfl), v_dx (show keyOk (.str z_a) = true from rfl), v_dx (show keyOk (.str z_n) = true from rfl), v_dx (show keyOk (.str z_r) = true from rfl), dicOf_len, dicOf_0, most_d, most_a, most_n, most_r, Nat.zero_le, eq_nils, num_eq b1 (show r ≤ many - 1 by omega)])
    exact (fin _).2
  | fin =>
    (simp_arith [Row.D, at0, sh_put, sh_copy, sh_call, sh_say, sh_if, sh_go, sh_end, Option.getD_some, reduceCtorEq, v_lenSs (show z_dn.length ≤ 1000 by decide), v_lenSs (show z_da.length ≤ 1000 by decide), v_lenSs (show z_a.length ≤ 1000 by decide), v_lenSs (show z_ar.length ≤ 1000 by decide), v_lenSs (show z_r.length ≤ 1000 by decide), v_lenSs (show z_empty.length ≤ 1000 by decide), w_dict, w_evnil, w_evcons, keyOk, range0, range1, range2, range3])
    refine ⟨by decide, ?_⟩
    (simp_arith [w_ccons, w_cnil, same_nil, at0, at_1, at_2, at_3, v_ixSs (show z_dn.length ≤ 1000 by decide), v_ixSs (show z_da.length ≤ 1000 by decide), v_ixSs (show z_daa.length ≤ 1000 by decide), v_ixSs (show z_a.length ≤ 1000 by decide), v_ixSs (show z_ar.length ≤ 1000 by decide), v_ixSs (show z_r.length ≤ 1000 by decide), v_dx (show keyOk (.str z_d) = true from rfl), v_dx (show keyOk (.str z_a) = true from rfl), v_dx (show keyOk (.str z_n) = true from rfl), v_dx (show keyOk (.str z_r) = true from rfl), dicOf_len, dicOf_0, most_d, most_a, most_n, most_r, Nat.zero_le, eq_nils])
    exact (fin _).2
end PG
namespace PG
open PF
theorem enumD_len : ∀ (j : Nat) (ds : List D), (enumD j ds).length = ds.length
  | _, [] => rfl
  | j, d :: ds => by unfold enumD; rw [List.length_cons, List.length_cons, enumD_len (j + 1) ds]
theorem enumD_get : ∀ {j k : Nat} {ds : List D} {x : D}, (enumD j ds)[k]? = some x → ∃ d, ds[k]? = some d ∧ x = .tup [.int ((j + k : Nat) : Int), d]
  | j, k, [], x, h => by cases h
  | j, 0, d :: ds, x, h => by unfold enumD at h; cases h; exact ⟨d, rfl, rfl⟩
  | j, k + 1, d :: ds, x, h => by
    unfold enumD at h
    rw [List.getElem?_cons_succ] at h
    obtain ⟨d', h1, h2⟩ := enumD_get h
    refine ⟨d', by rw [List.getElem?_cons_succ]; exact h1, ?_⟩
    rw [h2, show j + 1 + k = j + (k + 1) by omega]
theorem need_program_spec {S : Sto} {params names : Int} {rows : List Row} (h : ProgOk params names rows) : wp (f_need_program [progD params names rows] S) fun d S' => d = .non ∧ Keep [] S S' := by
  obtain ⟨⟨p1, p2⟩, ⟨n1, n2⟩, ⟨l1, l2⟩, ok⟩ := h
  have z0 : (((rows.map Row.D).length : Int) == 0) = false := by rw [List.length_map, beq_eq_false_iff_ne]; omega
  unfold f_need_program b_need_program progD
  simp_arith [at_1, num_eq n1 n2, num_eq p1 p2, z0, seqZ, chkOf]
  refine wp_for (it := ⟨[], enumD 0 (rows.map Row.D)⟩) (fun k ρ S' => Keep [] S S' ∧ ∃ c1 c2, ρ = [some (progD params names rows), some (.int params), some (.int names), some (.tup (rows.map Row.D)), c1, c2]) (fun _ _ _ _ => rfl) ?_ ⟨.refl, none, none, rfl⟩ ?_
  · rintro k x ρ S1 hx ⟨k1, c1, c2, rfl⟩
    obtain ⟨d, e, rfl⟩ := enumD_get hx
    rw [List.getElem?_map] at e
    cases e2 : rows[k]? with
    | none => rw [e2] at e; cases e
    | some row =>
      rw [e2] at e
      cases e
      have hk : k < rows.length := (List.getElem?_eq_some_iff.mp e2).1
      have c24 : ¬ (24 : Int) ≤ (k : Int) := by omega
      have hm : (if (24 : Int) < ((rows.map Row.D).length : Int) then (24 : Int) else ((rows.map Row.D).length : Int)) = (rows.length : Int) := by rw [List.length_map, if_neg (by omega)]
      refine ⟨_, rfl, ?_⟩
      simp_arith [c24, hm]
      refine wp_mono (is_row_spec (ok row (List.mem_of_getElem? e2))) ?_
      rintro _ S2 ⟨rfl, k2⟩
      simp_arith []
      exact ⟨k1.trans k2, _, _, rfl⟩
  · rintro ρ S1 ⟨k1, _⟩
    exact k1
theorem need_given_spec {S : Sto} {params names : Int} {rows : List Row} {gs : List Int} (hl : (gs.length : Int) = params) (hg : ∀ g ∈ gs, In0 g 1000) : wp (f_need_given [progD params names rows, .tup (gs.map .int)] S) fun d S' => d = .non ∧ Keep [] S S' := by
  have z : (((gs.map D.int).length : Int) == params) = true := by rw [List.length_map, hl]; exact beq_self_eq_true _
  unfold f_need_given b_need_given progD
  simp_arith [at0, z, chkOf]
  refine wp_mono (wp_loop (it := ⟨[], gs.map D.int⟩) (fun k acc S' => acc = [] ∧ S' = S) (fun _ _ _ _ => rfl) ?_ ⟨rfl, rfl⟩) ?_
  · rintro k x acc S1 hx ⟨rfl, rfl⟩
    rw [List.getElem?_map] at hx
    cases e : gs[k]? with
    | none => rw [e] at hx; cases hx
    | some g =>
      rw [e] at hx
      cases hx
      obtain ⟨g1, g2⟩ := hg g (List.mem_of_getElem? e)
      refine ⟨_, rfl, ?_⟩
      simp_arith [num_eq g1 (show g ≤ 999 by omega)]
  · rintro ys S1 ⟨rfl, rfl⟩
    simp_arith [eq_nils]
    exact ⟨by decide, .trans .app .app⟩
theorem need_fuel_spec {S : Sto} {fuel : Int} (h : 0 ≤ fuel ∧ fuel ≤ 1000) : wp (f_need_fuel [.int fuel] S) fun d S' => d = .non ∧ S' = S := by
  unfold f_need_fuel b_need_fuel
  simp_arith [num_eq h.1 h.2]
end PG
end
section
set_option autoImplicit false
set_option maxRecDepth 100003
namespace PF
section
variable {S : Sto} {ρ : Env} {P : D → Sto → Prop}
theorem w_slice {a : E} {l u : O} : wp (eSlice a l u ρ S) P = wp (a ρ S) fun x S => wp (l ρ S) fun i S => wp (u ρ S) fun j S => wp (gSlice x i j S) P := by
  unfold eSlice
  simp only [wp_bind]
theorem w_onone {P : Option Int → Sto → Prop} : wp (oNone ρ S) P = P none S := wp_ok
theorem w_osome {P : Option Int → Sto → Prop} {a : E} : wp (oSome a ρ S) P = wp (a ρ S) fun x S => ∃ i, x = .int i ∧ P (some i) S := by
  unfold oSome
  rw [wp_bind]
  congr
  funext x S
  cases x <;> simp [wp_ok, wp_bad]
theorem w_gslT {ds : List D} {lo hi : Option Int} : wp (gSlice (.tup ds) lo hi S) P = P (.tup (cut ds lo hi)) S := wp_ok
theorem cut2 {x y : D} : cut [x, y] (some 2) none = [] := rfl
theorem cut3 {x y z : D} : cut [x, y, z] (some 2) none = [z] := rfl
theorem cut4 {x y z w : D} : cut [x, y, z, w] (some 2) none = [z, w] := rfl
theorem cut1 {x : D} : cut [x] (some 2) none = [] := rfl
end
end PF
namespace PG
open PF
structure Mc where
  at_ : Int
  held : List Int
  said : List Int
  done : Int
def rd (h : List Int) (i : Int) : Int := h.getD i.toNat 0
def Op3.v : Op3 → Int → Int → Int
  | .add, x, y => (x + y) % 1000
  | .take, x, y => (x - y) % 1000
  | .less, x, y => if x < y then 1 else 0
def Row.step (m : Mc) : Row → Mc
  | .put d k => ⟨m.at_ + 1, m.held.set d.toNat k, m.said, m.done + 1⟩
  | .copy d a => ⟨m.at_ + 1, m.held.set d.toNat (rd m.held a), m.said, m.done + 1⟩
  | .op o d a b => ⟨m.at_ + 1, m.held.set d.toNat (o.v (rd m.held a) (rd m.held b)), m.said, m.done + 1⟩
  | .call d a => ⟨m.at_ + 1, m.held.set d.toNat ((rd m.held a * rd m.held a * 7 + rd m.held a + 3) % 1000), m.said, m.done + 1⟩
  | .say a => ⟨m.at_ + 1, m.held, m.said ++ [rd m.held a], m.done + 1⟩
  | .ife a r => ⟨if rd m.held a = 0 then m.at_ + 1 else r, m.held, m.said, m.done + 1⟩
  | .go r => ⟨r, m.held, m.said, m.done + 1⟩
  | .fin => ⟨m.at_ + 1, m.held, m.said, m.done + 1⟩
def Row.isFin : Row → Bool
  | .fin => true
  | _ => false
def over (rows : List Row) (a : Int) : Bool := match rows[a.toNat]? with
  | none => true
  | some r => r.isFin
/-- at most n turns more -/
def mrun (rows : List Row) : Nat → Mc → Mc
  | 0, m => m
  | n + 1, m => match rows[m.at_.toNat]? with
    | none => m
    | some r => if r.isFin then m else mrun rows n (r.step m)
/-- the machine is well: names held, numbers small -/
structure McOk (names : Int) (rows : List Row) (m : Mc) : Prop where
  len : (m.held.length : Int) = names
  lo : ∀ v ∈ m.held, In0 v 1000
  at0 : 0 ≤ m.at_
  sd : (m.said.length : Int) ≤ m.done
theorem rd_in {h : List Int} {i : Int} (hl : ∀ v ∈ h, In0 v 1000) : In0 (rd h i) 1000 := by
  unfold rd
  rw [List.getD_eq_getElem?_getD]
  cases e : h[i.toNat]? with
  | none => exact ⟨by decide, by decide⟩
  | some v => exact hl v (List.mem_of_getElem? e)
theorem set_in {h : List Int} {i : Nat} {v : Int} (hl : ∀ v ∈ h, In0 v 1000) (hv : In0 v 1000) : ∀ x ∈ h.set i v, In0 x 1000 := fun x hx => by
  rcases List.mem_or_eq_of_mem_set hx with z | z
  · exact hl x z
  · rw [z]; exact hv
theorem mod_in {x : Int} : In0 (x % 1000) 1000 := ⟨Int.emod_nonneg _ (by decide), Int.emod_lt_of_pos _ (by decide)⟩
theorem Op3.v_in {o : Op3} {x y : Int} : In0 (o.v x y) 1000 := by
  cases o with
  | add => exact mod_in
  | take => exact mod_in
  | less =>
    show In0 (if x < y then 1 else 0) 1000
    split
    · exact ⟨by decide, by decide⟩
    · exact ⟨by decide, by decide⟩
theorem step_ok {names : Int} {rows : List Row} {m : Mc} {r : Row} (h : McOk names rows m) (hr : r.ok names rows.length) : McOk names rows (r.step m) := by
  obtain ⟨h1, h2, h3, h4⟩ := h
  cases r with
  | put d k => exact ⟨by simp [Row.step, h1], set_in h2 hr.2, by show 0 ≤ m.at_ + 1; omega, by show (m.said.length : Int) ≤ m.done + 1; omega⟩
  | copy d a => exact ⟨by simp [Row.step, h1], set_in h2 (rd_in h2), by show 0 ≤ m.at_ + 1; omega, by show (m.said.length : Int) ≤ m.done + 1; omega⟩
  | op o d a b => exact ⟨by simp [Row.step, h1], set_in h2 Op3.v_in, by show 0 ≤ m.at_ + 1; omega, by show (m.said.length : Int) ≤ m.done + 1; omega⟩
  | call d a => exact ⟨by simp [Row.step, h1], set_in h2 mod_in, by show 0 ≤ m.at_ + 1; omega, by show (m.said.length : Int) ≤ m.done + 1; omega⟩
  | say a => exact ⟨h1, h2, by show 0 ≤ m.at_ + 1; omega, by show ((m.said ++ [rd m.held a]).length : Int) ≤ m.done + 1; simp; omega⟩
  | ife a r => exact ⟨h1, h2, by show 0 ≤ (if rd m.held a = 0 then m.at_ + 1 else r); have := hr.2.1; split <;> omega, by show (m.said.length : Int) ≤ m.done + 1; omega⟩
  | go r => exact ⟨h1, h2, hr.1, by show (m.said.length : Int) ≤ m.done + 1; omega⟩
  | fin => exact ⟨h1, h2, by show 0 ≤ m.at_ + 1; omega, by show (m.said.length : Int) ≤ m.done + 1; omega⟩
theorem at_held {h : List Int} {a n : Int} (hl : (h.length : Int) = n) (ha : In0 a n) : at? (h.map D.int) a = some (.int (rd h a)) := by
  obtain ⟨k, rfl⟩ := Int.eq_ofNat_of_zero_le ha.1
  have hk : k < h.length := by have := ha.2; omega
  rw [at_nat, List.getElem?_map]
  unfold rd
  simp [hk, List.getD_eq_getElem?_getD]
theorem ixN_held {h : List Int} {a n : Int} (hl : (h.length : Int) = n) (ha : In0 a n) : ixN (h.map D.int).length a = some a.toNat := by
  obtain ⟨k, rfl⟩ := Int.eq_ofNat_of_zero_le ha.1
  have hk : k < h.length := by have := ha.2; omega
  unfold ixN
  simp [hk]
theorem at_rows {rows : List Row} {a : Int} (h : 0 ≤ a) {r : Row} (e : rows[a.toNat]? = some r) : at? (rows.map Row.D) a = some r.D := by
  obtain ⟨k, rfl⟩ := Int.eq_ofNat_of_zero_le h
  have e : rows[k]? = some r := e
  rw [at_nat, List.getElem?_map, e]
  rfl
/-! the program's run -/
def oneD (rows : List Row) (m : Mc) (sd : Nat) : MO := .ins 0 [(0, .tup (rows.map Row.D)), (1, .int m.at_), (2, .ref sd), (3, .int m.done)]
theorem over_eq {S : Sto} {P : D → Sto → Prop} {o sd : Nat} {rows : List Row} {m : Mc} (h : S[o]? = some (oneD rows m sd)) (ha : 0 ≤ m.at_) : wp (f_Run_is_over [.ref o] S) P = P (.bl (over rows m.at_)) S := by
  unfold f_Run_is_over b_Run_is_over
  have g0 : ∀ fs : List (Nat × D), fget ((0, D.tup (rows.map Row.D)) :: fs) 0 = some (.tup (rows.map Row.D)) := fun _ => rfl
  have g1 : ∀ (x : D) (fs : List (Nat × D)), fget ((0, x) :: (1, D.int m.at_) :: fs) 1 = some (.int m.at_) := fun _ _ => rfl
  simp_arith [insOf_ins h, g0, g1, List.length_map]
  unfold over
  cases e : rows[m.at_.toNat]? with
  | none =>
    have hl : (rows.length : Int) ≤ m.at_ := by have := List.getElem?_eq_none_iff.mp e; omega
    simp_arith [hl]
  | some r =>
    have hl : ¬ (rows.length : Int) ≤ m.at_ := by have := (List.getElem?_eq_some_iff.mp e).1; omega
    simp_arith [hl, at_rows ha e]
    cases r with
    | op o _ _ _ => cases o <;> (simp_arith [Row.D, at0, Row.isFin, Op3.s] <;> rfl)
    | _ => simp_arith [Row.D, at0, Row.isFin] <;> rfl
theorem cons_beq_nil {α : Type} [BEq α] {x : α} {xs : List α} : (x :: xs == []) = false := rfl
theorem nil_beq_cons {α : Type} [BEq α] {x : α} {xs : List α} : ([] == x :: xs) = false := rfl
theorem tree_strlit {S : Sto} {s : List Nat} : tree S EQD (.str s) = if s.all (fun c => decide (c < 1114112)) = true then some (.str s) else none := rfl
theorem makes_eq {S : Sto} {P : D → Sto → Prop} {r : Row} : wp (f_makes [r.D] S) P = P (.bl (match r with
    | .say _ => false | .ife _ _ => false | .go _ => false | .fin => false | _ => true)) S := by
  unfold f_makes b_makes
  cases r with
  | op o _ _ _ => cases o <;> (simp_arith [Row.D, at0, Op3.s]; (simp only [v_in, v_notIn, inB, D.scal, inTree, tree_strlit, allSome, List.all_cons, List.all_nil, List.any_cons, List.any_nil, J.eqv, List.cons_beq_cons, cons_beq_nil, nil_beq_cons, Nat.reduceBEq, Nat.reduceLT, decide_true, Bool.and_true, Bool.and_false, Bool.true_and, Bool.false_and, Bool.or_false, Bool.or_true, Bool.false_or, Bool.true_or, Bool.and_self, if_true, on_some, BEq.rfl, Bool.not_true, Bool.not_false, beq_self_eq_true]))
  | _ => simp_arith [Row.D, at0]; (simp only [v_in, v_notIn, inB, D.scal, inTree, tree_strlit, allSome, List.all_cons, List.all_nil, List.any_cons, List.any_nil, J.eqv, List.cons_beq_cons, cons_beq_nil, nil_beq_cons, Nat.reduceBEq, Nat.reduceLT, decide_true, Bool.and_true, Bool.and_false, Bool.true_and, Bool.false_and, Bool.or_false, Bool.or_true, Bool.false_or, Bool.true_or, Bool.and_self, if_true, on_some, BEq.rfl, Bool.not_true, Bool.not_false, beq_self_eq_true])
end PG
end
section
set_option autoImplicit false
set_option maxRecDepth 100003
namespace PG
open PF
theorem fget0 {a : D} {fs : List (Nat × D)} : fget ((0, a) :: fs) 0 = some a := rfl
theorem fget1 {a b : D} {fs : List (Nat × D)} : fget ((0, a) :: (1, b) :: fs) 1 = some b := rfl
theorem fget2 {a b c : D} {fs : List (Nat × D)} : fget ((0, a) :: (1, b) :: (2, c) :: fs) 2 = some c := rfl
theorem fget3 {a b c d : D} {fs : List (Nat × D)} : fget ((0, a) :: (1, b) :: (2, c) :: (3, d) :: fs) 3 = some d := rfl
theorem fput1 {a b v : D} {fs : List (Nat × D)} : fput ((0, a) :: (1, b) :: fs) 1 v = (0, a) :: (1, v) :: fs := rfl
theorem fput3 {a b c d v : D} {fs : List (Nat × D)} : fput ((0, a) :: (1, b) :: (2, c) :: (3, d) :: fs) 3 v = (0, a) :: (1, b) :: (2, c) :: (3, v) :: fs := rfl
/-- what the row hands to go -/
def rsome (h : List Int) : Row → List D
  | .say a => [.int (rd h a)]
  | .ife a _ => [.int (rd h a)]
  | _ => []
theorem go_spec {S : Sto} {o sd t : Nat} {rows : List Row} {m : Mc} {r : Row} (hO : S[o]? = some (oneD rows m sd)) (hS : S[sd]? = some (.lst (m.said.map .int))) (ne : o ≠ sd) (hT : S[t]? = some (.lst (rsome m.held r))) (nt : t ≠ o) (ha : 0 ≤ m.at_) (e : rows[m.at_.toNat]? = some r) (hl : m.said.length < 10000) :
    wp (f_Run_go [.ref o, .ref t] S) fun d S' => d = .non ∧ S'[o]? = some (oneD rows (r.step m) sd) ∧ S'[sd]? = some (.lst ((r.step m).said.map .int)) ∧ Keep [o, sd] S S' := by
  have lo := lt_of_get hO
  have ls := lt_of_get hS
  have o1 : ∀ x, insOf 0 o (S.set o (.ins 0 x)) = some x := fun x => insOf_ins (get_set lo)
  have o2 : ∀ x y, insOf 0 o ((S.set o x).set o (.ins 0 y)) = some y := fun x y => insOf_ins (get_set (by simpa using lo))
  have t2 : ∀ x y, lstOf t ((S.set o x).set o y) = some (rsome m.held r) := fun x y => lstOf_lst (get_ne (get_ne hT (Ne.symm nt)) (Ne.symm nt))
  have s2 : ∀ x y, wrOf sd ((S.set o x).set o y) = some (m.said.map .int) := fun x y => wrOf_lst (get_ne (get_ne hS ne) ne)
  have l2 : ∀ x y, isL (.ref sd) ((S.set o x).set o y) = true := fun x y => isL_lst (get_ne (get_ne hS ne) ne)
  have kk : ∀ x y, Keep [o, sd] S ((S.set o x).set o y) := fun x y => .trans (.set (by simp)) (.set (by simp))
  have L : m.said.length < LIM := by unfold LIM; omega
  have A : ∀ x y, ((S.set o x).set o y)[o]? = some y := fun x y => get_set (by simpa using lo)
  have B : ∀ x y, ((S.set o x).set o y)[sd]? = some (.lst (m.said.map .int)) := fun x y => get_ne (get_ne hS ne) ne
  have C : ∀ x y v, (((S.set o x).set o y).set sd v)[o]? = some y := fun x y v => get_ne (A x y) (Ne.symm ne)
  have C2 : ∀ x y v, (((S.set o x).set o y).set sd v)[sd]? = some v := fun x y v => get_set (by simpa using ls)
  have F : ∀ x y v, (((S.set o x).set o y).set o v)[o]? = some v := fun x y v => get_set (by simpa using lo)
  have F2 : ∀ x y v, (((S.set o x).set o y).set o v)[sd]? = some (.lst (m.said.map .int)) := fun x y v => get_ne (B x y) ne
  have kC : ∀ x y v, Keep [o, sd] S (((S.set o x).set o y).set sd v) := fun x y v => (kk x y).trans (.set (by simp))
  have kF : ∀ x y v, Keep [o, sd] S (((S.set o x).set o y).set o v) := fun x y v => (kk x y).trans (.set (by simp))
  unfold f_Run_go b_Run_go
  cases r with
  | say a =>
    simp_arith [insOf_ins hO, fget0, fget1, fget2, fget3, fput1, fput3, o1, o2, at_rows ha e, Row.D, Op3.s, at0, at_1, at_2, t2, s2, l2, rsome, cons_beq_nil, nil_beq_cons, List.cons_beq_cons, Nat.reduceBEq, List.length_map, L, Nat.reduceLT]
    exact ⟨C _ _ _, by rw [C2]; simp [Row.step], kC _ _ _⟩
  | ife a r =>
    simp_arith [insOf_ins hO, fget0, fget1, fget2, fget3, fput1, fput3, o1, o2, at_rows ha e, Row.D, Op3.s, at0, at_1, at_2, t2, s2, l2, rsome, cons_beq_nil, nil_beq_cons, List.cons_beq_cons, Nat.reduceBEq, List.length_map, L, Nat.reduceLT]
    by_cases c : rd m.held a = 0
    · simp_arith [c]
      exact ⟨by rw [A]; simp [oneD, Row.step, c], B _ _, kk _ _⟩
    · have c' : (rd m.held a == 0) = false := by simpa using c
      simp_arith [c', insOf_ins (A _ _), fput1]
      exact ⟨by rw [F]; simp [oneD, Row.step, c], F2 _ _ _, kF _ _ _⟩
  | go r =>
    simp_arith [insOf_ins hO, fget0, fget1, fget2, fget3, fput1, fput3, o1, o2, at_rows ha e, Row.D, Op3.s, at0, at_1, at_2, t2, s2, l2, rsome, cons_beq_nil, nil_beq_cons, List.cons_beq_cons, Nat.reduceBEq, List.length_map, L, Nat.reduceLT]
    simp_arith [insOf_ins (A _ _), fput1]
    exact ⟨F _ _ _, F2 _ _ _, kF _ _ _⟩
  | op p d a b =>
    cases p <;> (simp_arith [insOf_ins hO, fget0, fget1, fget2, fget3, fput1, fput3, o1, o2, at_rows ha e, Row.D, Op3.s, at0, at_1, at_2, t2, s2, l2, rsome, cons_beq_nil, nil_beq_cons, List.cons_beq_cons, Nat.reduceBEq, List.length_map, L, Nat.reduceLT]; exact ⟨A _ _, B _ _, kk _ _⟩)
  | _ =>
    simp_arith [insOf_ins hO, fget0, fget1, fget2, fget3, fput1, fput3, o1, o2, at_rows ha e, Row.D, Op3.s, at0, at_1, at_2, t2, s2, l2, rsome, cons_beq_nil, nil_beq_cons, List.cons_beq_cons, Nat.reduceBEq, List.length_map, L, Nat.reduceLT]
    exact ⟨A _ _, B _ _, kk _ _⟩
end PG
end
section
set_option autoImplicit false
set_option maxRecDepth 100003
namespace PF
section
variable {S : Sto} {P : D → Sto → Prop}
theorem w_addL {m n : Nat} : wp (gAdd (.ref m) (.ref n) S) P = on (wrOf m S) fun a => on (wrOf n S) fun b => a.length + b.length ≤ LIM ∧ P (.ref S.length) (S ++ [.lst (a ++ b)]) := by
  unfold gAdd
  cases h : wrOf m S with
  | none => simp only [h, on_none, wp_bad]
  | some a =>
    cases h2 : wrOf n S with
    | none => simp only [h, h2, on_none, on_some, wp_bad]
    | some b =>
      by_cases c : a.length + b.length ≤ LIM
      · simp only [h, h2, on_some, c, if_true, true_and, alloc, wp_ok]
      · simp only [h, h2, on_some, c, if_false, false_and, wp_bad]
theorem w_mulL {m : Nat} {k : Int} : wp (gMul (.ref m) (.int k) S) P = on (wrOf m S) fun a => (-(2 ^ 62) < k ∧ k < 2 ^ 62 ∧ a.length * k.toNat ≤ LIM) ∧ P (.ref S.length) (S ++ [.lst (rep a k.toNat)]) := by
  unfold gMul
  cases h : wrOf m S with
  | none => simp only [h, on_none, wp_bad]
  | some a =>
    rw [on_some]
    simp only [h]
    split
    · rename_i c
      simp only [c, true_and, alloc, wp_ok]
    · rename_i c
      simp only [c, false_and, wp_bad]
theorem rep_one {α : Type} {x : α} : ∀ k : Nat, rep [x] k = List.replicate k x
  | 0 => rfl
  | k + 1 => by
    have h := rep_one (x := x) k
    unfold rep at h ⊢
    rw [List.replicate_succ, List.flatten_cons, h]
    rfl
end
end PF
namespace PG
open PF
def tellD (sd : Nat) (rows : List Row) (m : Mc) : D := .tup [.ref sd, .tup [.str (if over rows m.at_ then z_end else z_long)], .int m.done]
def mc0 (params names : Int) (gs : List Int) : Mc := ⟨0, gs ++ List.replicate (names - params).toNat 0, [], 0⟩
theorem init_spec {S : Sto} {o : Nat} {rows : List Row} {h0 : List Int} (h : S[o]? = some (.ins 0 [])) : wp (f_Run___init__ [.ref o, .tup (rows.map Row.D)] S) fun d S' => d = .non ∧ ∃ sd, S'[o]? = some (oneD rows ⟨0, h0, [], 0⟩ sd) ∧ S'[sd]? = some (.lst []) ∧ o ≠ sd ∧ S.length ≤ sd ∧ Keep [o] S S' := by
  have lo := lt_of_get h
  unfold f_Run___init__ b_Run___init__
  simp_arith [insOf_ins h, fput]
  have k1 : Keep [o] S (S.set o (.ins 0 [(0, .tup (rows.map Row.D))])) := .set (by simp)
  have h1 : (S.set o (.ins 0 [(0, .tup (rows.map Row.D))]))[o]? = some (.ins 0 [(0, .tup (rows.map Row.D))]) := get_set lo
  have z1 : (S.set o (.ins 0 [(0, .tup (rows.map Row.D))])).length = S.length := by simp
  generalize S.set o (.ins 0 [(0, .tup (rows.map Row.D))]) = S1 at *
  simp_arith [insOf_ins h1, fput, show ¬ (0 = 1) by decide]
  have k2 : Keep [o] S (S1.set o (.ins 0 [(0, .tup (rows.map Row.D)), (1, .int 0)])) := k1.trans (.set (by simp))
  have h2 : (S1.set o (.ins 0 [(0, .tup (rows.map Row.D)), (1, .int 0)]))[o]? = some (.ins 0 [(0, .tup (rows.map Row.D)), (1, .int 0)]) := get_set (by omega)
  have z2 : (S1.set o (.ins 0 [(0, .tup (rows.map Row.D)), (1, .int 0)])).length = S.length := by simp [z1]
  generalize S1.set o (.ins 0 [(0, .tup (rows.map Row.D)), (1, .int 0)]) = S2 at *
  have h3 : (S2 ++ [.lst []])[o]? = some (.ins 0 [(0, .tup (rows.map Row.D)), (1, .int 0)]) := get_app h2
  have q3 : (S2 ++ [MO.lst []])[S.length]? = some (.lst []) := by rw [← z2]; exact get_last
  have k3 : Keep [o] S (S2 ++ [.lst []]) := k2.trans .app
  have l3 : o < (S2 ++ [MO.lst []]).length := lt_of_get h3
  rw [z2]
  generalize S2 ++ [MO.lst []] = S3 at *
  simp_arith [insOf_ins h3, fput, show ¬ (0 = 1) by decide, show ¬ (0 = 2) by decide, show ¬ (1 = 2) by decide]
  have ne : o ≠ S.length := by omega
  have h4 : ∀ x, (S3.set o x)[o]? = some x := fun x => get_set l3
  have q4 : ∀ x, (S3.set o x)[S.length]? = some (.lst []) := fun x => get_ne q3 ne
  simp_arith [insOf_ins (h4 _), fput, show ¬ (0 = 1) by decide, show ¬ (0 = 2) by decide, show ¬ (1 = 2) by decide, show ¬ (0 = 3) by decide, show ¬ (1 = 3) by decide, show ¬ (2 = 3) by decide]
  exact ⟨S.length, get_set (by simpa using l3), get_ne (q4 _) ne, ne, Nat.le_refl _, (k3.trans (.set (by simp))).trans (.set (by simp))⟩
theorem mrun_over {rows : List Row} {m : Mc} (h : over rows m.at_ = true) : ∀ n, mrun rows n m = m
  | 0 => rfl
  | n + 1 => by
    unfold over at h
    unfold mrun
    cases e : rows[m.at_.toNat]? with
    | none => rfl
    | some r =>
      rw [e] at h
      simp only at h
      simp only [h, if_true]
theorem mrun_step {rows : List Row} {m : Mc} {r : Row} (e : rows[m.at_.toNat]? = some r) (h : r.isFin = false) (n : Nat) : mrun rows (n + 1) m = mrun rows n (r.step m) := by
  rw [mrun]
  simp only [e, h, Bool.false_eq_true, if_false]
theorem not_over {rows : List Row} {a : Int} (h : over rows a = false) : ∃ r, rows[a.toNat]? = some r ∧ r.isFin = false := by
  unfold over at h
  cases e : rows[a.toNat]? with
  | none => rw [e] at h; cases h
  | some r => rw [e] at h; exact ⟨r, rfl, h⟩
theorem told_eq {S : Sto} {P : D → Sto → Prop} {o sd : Nat} {rows : List Row} {m : Mc} (h : S[o]? = some (oneD rows m sd)) (ha : 0 ≤ m.at_) : wp (f_Run_told [.ref o] S) P = P (tellD sd rows m) S := by
  unfold f_Run_told b_Run_told
  simp_arith [insOf_ins h, fget0, fget1, fget2, fget3, over_eq h ha]
  cases e : over rows m.at_ <;> simp_arith [tellD, e]
/-- the values that told_by and the new value take -/
def mkV (h : List Int) : Row → Int
  | .put _ k => k
  | .copy _ a => rd h a
  | .op o _ a b => o.v (rd h a) (rd h b)
  | .call _ a => (rd h a * rd h a * 7 + rd h a + 3) % 1000
  | _ => 0
end PG
end
section
set_option autoImplicit false
set_option maxRecDepth 100003
namespace PG
open PF
def isMk : Row → Bool
  | .say _ => false
  | .ife _ _ => false
  | .go _ => false
  | .fin => false
  | _ => true
def stMake : St := sIf (tE (eCall f_makes (aCons (eVar 5) (aNil)))) (sSub (eVar 3) (e2 gIx (eVar 5) (eC (.int 1))) (eCall f_told_by (aCons (eVar 5) (aCons (eIf (tE (e2 gNe (e2 gIx (eVar 5) (eC (.int 0))) (eC (.str z_put)))) (eComp (iSeq (eSlice (eVar 5) (oSome (eC (.int 2))) (oNone))) [6] (PF.gName 6) (tYes) (e2 gIx (eVar 3) (eVar 6))) (eLst (aNil))) (aNil))))) (sNext)
def stGo : St := sExpr (eMeth 0 f_Run_go (eVar 4) (aCons (eIf (tE (e2 gIn (e2 gIx (eVar 5) (eC (.int 0))) (eTup (aCons (eC (.str z_say)) (aCons (eC (.str z_if)) (aNil)))))) (eLst (aCons (e2 gIx (eVar 3) (e2 gIx (eVar 5) (eC (.int 1)))) (aNil))) (eLst (aNil))) (aNil)))
theorem mk_keep {S U : Sto} {hr : Nat} {x : MO} : Keep [hr] S ((S ++ U).set hr x) := .trans .app (.set (by simp))
theorem make_spec {S : Sto} {hr : Nat} {rows : List Row} {m : Mc} {r : Row} {names : Int} {p g f o c : Option D} (ok : McOk names rows m) (hr_ : r.ok names rows.length) (hH : S[hr]? = some (.lst (m.held.map .int))) :
    wp (stMake [p, g, f, some (.ref hr), o, some r.D, c] S) fun z S' => z = (.nx, [p, g, f, some (.ref hr), o, some r.D, c]) ∧ S'[hr]? = some (.lst ((r.step m).held.map .int)) ∧ Keep [hr] S S' := by
  have lh := lt_of_get hH
  have w1 : ∀ U, wrOf hr (S ++ U) = some (m.held.map .int) := fun U => wrOf_app hH
  have l0 := lstOf_lst hH
  have b1 : ∀ U x, ((S ++ U).set hr x)[hr]? = some x := fun U x => get_set (by rw [List.length_append]; omega)
  have last : ∀ (V : Sto) (ds : List D), lstOf V.length (V ++ [.lst ds]) = some ds := fun V ds => by rw [lstOf_len]; rfl
  have z1 : ∀ n : Nat, n ≤ 3 → n ≤ LIM := fun n h => by unfold LIM; omega
  have sq : ∀ x : Int, In0 x 1000 → (-(2 ^ 64) < x ∧ x < 2 ^ 64) := fun x h => by have := h.1; have := h.2; omega
  unfold stMake
  cases r with
  | put d k =>
    simp_arith [makes_eq]
    simp_arith [f_told_by, b_told_by, Row.D, at0, at_1, at_2, w1, ixN_held ok.len hr_.1, b1, last]
    exact ⟨by simp [Row.step], mk_keep⟩
  | copy d a =>
    simp_arith [makes_eq]
    simp_arith [f_told_by, b_told_by, Row.D, at0, at_1, at_2, w1, ixN_held ok.len hr_.1, b1, last, cons_beq_nil, nil_beq_cons, List.cons_beq_cons, Nat.reduceBEq, w_slice, w_onone, w_osome, w_gslT, cut3, chkOf, w_ccons, w_cnil, same_nil, l0, at_held ok.len hr_.2, z1 1 (by decide)]
    exact ⟨by simp [Row.step], mk_keep⟩
  | call d a =>
    have hv := rd_in (i := a) ok.lo
    simp_arith [makes_eq]
    simp_arith [f_told_by, b_told_by, f_called, b_called, Row.D, at0, at_1, at_2, w1, ixN_held ok.len hr_.1, b1, last, cons_beq_nil, nil_beq_cons, List.cons_beq_cons, Nat.reduceBEq, w_slice, w_onone, w_osome, w_gslT, cut3, chkOf, w_ccons, w_cnil, same_nil, l0, at_held ok.len hr_.2, z1 1 (by decide), w_mul (.inl (sq _ hv)), w_mulR 7 (by decide), w_mod (show (0 : Int) < 1000 by decide)]
    exact ⟨by simp [Row.step], mk_keep⟩
  | op q d a b =>
    simp_arith [makes_eq]
    cases q <;>
    simp_arith [f_told_by, b_told_by, f_reckoned, b_reckoned, Row.D, Op3.s, at0, at_1, at_2, w1, ixN_held ok.len hr_.1, b1, last, cons_beq_nil, nil_beq_cons, List.cons_beq_cons, Nat.reduceBEq, w_slice, w_onone, w_osome, w_gslT, cut4, chkOf, w_ccons, w_cnil, same_nil, l0, at_held ok.len hr_.2.1, at_held ok.len hr_.2.2, z1 2 (by decide), w_mod (show (0 : Int) < 1000 by decide)]
    · exact ⟨by simp [Row.step, Op3.v], mk_keep⟩
    · exact ⟨by simp [Row.step, Op3.v], mk_keep⟩
    · refine ⟨?_, mk_keep⟩
      by_cases c : rd m.held a < rd m.held b
      · simp [Row.step, Op3.v, b2i, c]
      · simp [Row.step, Op3.v, b2i, c]
  | _ =>
    simp_arith [makes_eq]
    exact ⟨hH, .refl⟩
theorem stgo_spec {S : Sto} {hr o sd : Nat} {rows : List Row} {m : Mc} {r : Row} {names : Int} {p g f c : Option D} (ok : McOk names rows m) (hr_ : r.ok names rows.length) (hH : S[hr]? = some (.lst ((r.step m).held.map .int)))
    (hO : S[o]? = some (oneD rows m sd)) (hS : S[sd]? = some (.lst (m.said.map .int))) (ne : o ≠ sd) (e : rows[m.at_.toNat]? = some r) (hl : m.said.length < 10000) :
    wp (stGo [p, g, f, some (.ref hr), some (.ref o), some r.D, c] S) fun z S' => z = (.nx, [p, g, f, some (.ref hr), some (.ref o), some r.D, c]) ∧ S'[o]? = some (oneD rows (r.step m) sd) ∧ S'[sd]? = some (.lst ((r.step m).said.map .int)) ∧ Keep [o, sd] S S' := by
  have lo := lt_of_get hO
  have go : ∀ ds : List D, ds = rsome m.held r → wp (f_Run_go [.ref o, .ref S.length] (S ++ [.lst ds])) fun d S' => d = .non ∧ S'[o]? = some (oneD rows (r.step m) sd) ∧ S'[sd]? = some (.lst ((r.step m).said.map .int)) ∧ Keep [o, sd] (S ++ [.lst ds]) S' := fun ds hd => by
    subst hd
    exact go_spec (get_app hO) (get_app hS) ne get_last (by omega) ok.at0 e hl
  have fin : ∀ ds : List D, ds = rsome m.held r → wp (f_Run_go [.ref o, .ref S.length] (S ++ [.lst ds])) fun x S' => S'[o]? = some (oneD rows (r.step m) sd) ∧ S'[sd]? = some (.lst ((r.step m).said.map .int)) ∧ Keep [o, sd] S S' := fun ds hd =>
    wp_mono (go ds hd) fun d S' ⟨_, h1, h2, h3⟩ => ⟨h1, h2, .trans .app h3⟩
  have l0 := lstOf_lst hH
  unfold stGo
  cases r with
  | say a =>
    have l1 : lstOf hr S = some (m.held.map .int) := l0
    simp_arith [insOf_ins hO, Row.D, at0, at_1]
    (simp only [v_in, v_notIn, inB, D.scal, inTree, tree_strlit, allSome, List.all_cons, List.all_nil, List.any_cons, List.any_nil, J.eqv, List.cons_beq_cons, cons_beq_nil, nil_beq_cons, Nat.reduceBEq, Nat.reduceLT, decide_true, Bool.and_true, Bool.and_false, Bool.true_and, Bool.false_and, Bool.or_false, Bool.or_true, Bool.false_or, Bool.true_or, Bool.and_self, if_true, on_some, BEq.rfl, Bool.not_true, Bool.not_false, beq_self_eq_true])
    simp_arith [l1, at_held ok.len hr_]
    exact fin _ rfl
  | ife a r =>
    have l1 : lstOf hr S = some (m.held.map .int) := l0
    simp_arith [insOf_ins hO, Row.D, at0, at_1]
    (simp only [v_in, v_notIn, inB, D.scal, inTree, tree_strlit, allSome, List.all_cons, List.all_nil, List.any_cons, List.any_nil, J.eqv, List.cons_beq_cons, cons_beq_nil, nil_beq_cons, Nat.reduceBEq, Nat.reduceLT, decide_true, Bool.and_true, Bool.and_false, Bool.true_and, Bool.false_and, Bool.or_false, Bool.or_true, Bool.false_or, Bool.true_or, Bool.and_self, if_true, on_some, BEq.rfl, Bool.not_true, Bool.not_false, beq_self_eq_true])
    simp_arith [l1, at_held ok.len hr_.1]
    exact fin _ rfl
  | op q d a b =>
    cases q <;> (simp_arith [insOf_ins hO, Row.D, Op3.s, at0, at_1]; (simp only [v_in, v_notIn, inB, D.scal, inTree, tree_strlit, allSome, List.all_cons, List.all_nil, List.any_cons, List.any_nil, J.eqv, List.cons_beq_cons, cons_beq_nil, nil_beq_cons, Nat.reduceBEq, Nat.reduceLT, decide_true, Bool.and_true, Bool.and_false, Bool.true_and, Bool.false_and, Bool.or_false, Bool.or_true, Bool.false_or, Bool.true_or, Bool.and_self, if_true, on_some, BEq.rfl, Bool.not_true, Bool.not_false, beq_self_eq_true]); simp_arith []; exact fin _ rfl)
  | _ =>
    simp_arith [insOf_ins hO, Row.D, at0, at_1]
    (simp only [v_in, v_notIn, inB, D.scal, inTree, tree_strlit, allSome, List.all_cons, List.all_nil, List.any_cons, List.any_nil, J.eqv, List.cons_beq_cons, cons_beq_nil, nil_beq_cons, Nat.reduceBEq, Nat.reduceLT, decide_true, Bool.and_true, Bool.and_false, Bool.true_and, Bool.false_and, Bool.or_false, Bool.or_true, Bool.false_or, Bool.true_or, Bool.and_self, if_true, on_some, BEq.rfl, Bool.not_true, Bool.not_false, beq_self_eq_true])
    simp_arith []
    exact fin _ rfl
end PG
end
section
set_option autoImplicit false
set_option maxRecDepth 100003
namespace PG
open PF
theorem mc0_ok {params names : Int} {rows : List Row} {gs : List Int} (h : ProgOk params names rows) (hl : (gs.length : Int) = params) (hg : ∀ g ∈ gs, In0 g 1000) : McOk names rows (mc0 params names gs) := by
  refine ⟨?_, fun v hv => ?_, Int.le_refl 0, Int.le_refl 0⟩
  · have h1 := h.pr
    show ((gs ++ List.replicate (names - params).toNat (0 : Int)).length : Int) = names
    rw [List.length_append, List.length_replicate]
    omega
  · rcases List.mem_append.mp hv with z | z
    · exact hg v z
    · have := List.eq_of_mem_replicate z
      subst this
      exact ⟨by decide, by decide⟩
theorem mrun_ok {names : Int} {rows : List Row} (hr : ∀ r ∈ rows, r.ok names rows.length) : ∀ (n : Nat) {m : Mc}, McOk names rows m → McOk names rows (mrun rows n m)
  | 0, m, h => h
  | n + 1, m, h => by
    unfold mrun
    cases e : rows[m.at_.toNat]? with
    | none => exact h
    | some r =>
      dsimp only
      split
      · exact h
      · exact mrun_ok hr n (step_ok h (hr r (List.mem_of_getElem? e)))
theorem step_done {m : Mc} {r : Row} : (r.step m).done = m.done + 1 := by cases r <;> rfl
theorem stMake_eq : sIf (tE (eCall f_makes (aCons (eVar 5) (aNil)))) (sSub (eVar 3) (e2 gIx (eVar 5) (eC (.int 1))) (eCall f_told_by (aCons (eVar 5) (aCons (eIf (tE (e2 gNe (e2 gIx (eVar 5) (eC (.int 0))) (eC (.str z_put)))) (eComp (iSeq (eSlice (eVar 5) (oSome (eC (.int 2))) (oNone))) [6] (PF.gName 6) (tYes) (e2 gIx (eVar 3) (eVar 6))) (eLst (aNil))) (aNil))))) (sNext) = stMake := rfl
theorem stGo_eq : sExpr (eMeth 0 f_Run_go (eVar 4) (aCons (eIf (tE (e2 gIn (e2 gIx (eVar 5) (eC (.int 0))) (eTup (aCons (eC (.str z_say)) (aCons (eC (.str z_if)) (aNil)))))) (eLst (aCons (e2 gIx (eVar 3) (e2 gIx (eVar 5) (eC (.int 1)))) (aNil))) (eLst (aNil))) (aNil))) = stGo := rfl
theorem run_spec {S : Sto} {params names fuel : Int} {rows : List Row} {gs : List Int} (h : ProgOk params names rows) (hl : (gs.length : Int) = params) (hg : ∀ g ∈ gs, In0 g 1000) (hf : 0 ≤ fuel ∧ fuel ≤ 1000) :
    wp (f_run [progD params names rows, .tup (gs.map .int), .int fuel] S) fun d S' => ∃ sd, d = tellD sd rows (mrun rows fuel.toNat (mc0 params names gs)) ∧ S'[sd]? = some (.lst ((mrun rows fuel.toNat (mc0 params names gs)).said.map .int)) ∧ S.length ≤ sd ∧ Keep [] S S' := by
  have hp := h.pr
  have hn := h.nm
  have hm0 := mc0_ok h hl hg
  unfold f_run b_run
  rw [stMake_eq, stGo_eq]
  simp_arith []
  refine wp_mono (need_program_spec h) ?_
  rintro _ S1 ⟨rfl, k1⟩
  refine wp_mono (need_given_spec hl hg) ?_
  rintro _ S2 ⟨rfl, k2⟩
  refine wp_mono (need_fuel_spec hf) ?_
  rintro _ S3 ⟨rfl, rfl⟩
  have w0 : wrOf S3.length ((S3 ++ [.lst (gs.map .int)]) ++ [.lst [.int 0]]) = some (gs.map .int) := wrOf_app get_last
  have w1 : wrOf (S3 ++ [MO.lst (gs.map .int)]).length ((S3 ++ [.lst (gs.map .int)]) ++ [.lst [.int 0]]) = some [.int 0] := wrOf_lst get_last
  have w2 : ∀ x, wrOf S3.length (((S3 ++ [.lst (gs.map .int)]) ++ [.lst [.int 0]]) ++ [x]) = some (gs.map .int) := fun x => wrOf_app (get_app get_last)
  have hfit : -(2 ^ 62) < names - params ∧ names - params < 2 ^ 62 ∧ 1 * (names - params).toNat ≤ LIM := by unfold LIM; omega
  have eh : gs.map D.int ++ rep [D.int 0] (names - params).toNat = (mc0 params names gs).held.map .int := by
    rw [rep_one]
    simp [mc0]
  have hfit2 : (gs.map D.int).length + (rep [D.int 0] (names - params).toNat).length ≤ LIM := by
    rw [rep_one, List.length_map, List.length_replicate]
    unfold LIM
    omega
  unfold progD
  simp_arith [at0, at_1, at_2, w_mulL, w1, hfit]
  have w3 : wrOf ((S3 ++ [MO.lst (gs.map .int)]) ++ [MO.lst [D.int 0]]).length (((S3 ++ [.lst (gs.map .int)]) ++ [.lst [.int 0]]) ++ [.lst (rep [D.int 0] (names - params).toNat)]) = some (rep [D.int 0] (names - params).toNat) := wrOf_lst get_last
  simp_arith [w_addL, w2, w3, hfit2, eh]
  have k3 : Keep [] S ((((S3 ++ [.lst (gs.map .int)]) ++ [.lst [.int 0]]) ++ [.lst (rep [D.int 0] (names - params).toNat)]) ++ [.lst ((mc0 params names gs).held.map .int)]) := (k1.trans k2).trans (.trans (.trans (.trans .app .app) .app) .app)
  have hlen : S.length ≤ (((S3 ++ [MO.lst (gs.map .int)]) ++ [MO.lst [D.int 0]]) ++ [MO.lst (rep [D.int 0] (names - params).toNat)]).length := by
    have := k1.len
    have := k2.len
    simp
    omega
  have hH : ((((S3 ++ [MO.lst (gs.map .int)]) ++ [MO.lst [D.int 0]]) ++ [MO.lst (rep [D.int 0] (names - params).toNat)]) ++ [MO.lst ((mc0 params names gs).held.map .int)])[(((S3 ++ [MO.lst (gs.map .int)]) ++ [MO.lst [D.int 0]]) ++ [MO.lst (rep [D.int 0] (names - params).toNat)]).length]? = some (.lst ((mc0 params names gs).held.map .int)) := get_last
  generalize hr_e : (((S3 ++ [MO.lst (gs.map .int)]) ++ [MO.lst [D.int 0]]) ++ [MO.lst (rep [D.int 0] (names - params).toNat)]).length = hr at *
  generalize ((((S3 ++ [MO.lst (gs.map .int)]) ++ [MO.lst [D.int 0]]) ++ [MO.lst (rep [D.int 0] (names - params).toNat)]) ++ [MO.lst ((mc0 params names gs).held.map .int)]) = S4 at *
  have hr4 := lt_of_get hH
  refine wp_mono (init_spec (h0 := (mc0 params names gs).held) get_last) ?_
  rintro _ S5 ⟨rfl, sd, hO, hS, ne, hsd, k5⟩
  have hH5 : S5[hr]? = some (.lst ((mc0 params names gs).held.map .int)) := k5.at (get_app hH) (by simp; omega)
  have K5 : Keep [] S S5 := by
    refine k3.trans (Keep.new (W := [S4.length]) ?_ (by simp))
    exact Keep.trans .app k5
  have lsd : S4.length + 1 ≤ sd := by simpa using hsd
  simp_arith []
  generalize ho : S4.length = o at *
  refine wp_while (fun n ρ S' => ∃ (m : Mc) (c1 c2 : Option D), ρ = [some (progD params names rows), some (.tup (gs.map .int)), some (.int fuel), some (.ref hr), some (.ref o), c1, c2] ∧ McOk names rows m ∧ 0 ≤ m.done ∧ m.done ≤ fuel ∧ n = (fuel - m.done).toNat ∧ mrun rows n m = mrun rows fuel.toNat (mc0 params names gs) ∧
    S'[hr]? = some (.lst (m.held.map .int)) ∧ S'[o]? = some (oneD rows m sd) ∧ S'[sd]? = some (.lst (m.said.map .int)) ∧ Keep [] S S') fuel.toNat (by unfold TURNS; omega) ?_ ⟨mc0 params names gs, none, none, rfl, hm0, Int.le_refl 0, hf.1, by show _ = (fuel - 0).toNat; omega, rfl, hH5, hO, hS, K5⟩
  rintro n ρ S6 ⟨m, c1, c2, rfl, ok, d0, d1, en, em, gH, gO, gS, K6⟩
  have done : ∀ S7 : Sto, S7 = S6 → mrun rows fuel.toNat (mc0 params names gs) = m → wp (f_Run_told [.ref o] S7) fun d S' => ∃ sd, d = tellD sd rows (mrun rows fuel.toNat (mc0 params names gs)) ∧ S'[sd]? = some (.lst ((mrun rows fuel.toNat (mc0 params names gs)).said.map .int)) ∧ S.length ≤ sd ∧ Keep [] S S' := by
    rintro S7 rfl e
    rw [told_eq gO ok.at0, e]
    exact ⟨sd, rfl, gS, by omega, K6⟩
  have e01 : insOf 0 o S6 = some [(0, .tup (rows.map Row.D)), (1, .int m.at_), (2, .ref sd), (3, .int m.done)] := insOf_ins gO
  simp_arith [e01, over_eq gO ok.at0]
  cases ov : over rows m.at_ with
  | true =>
    simp_arith [e01]
    exact done S6 rfl (by rw [← em, mrun_over ov])
  | false =>
    obtain ⟨r, er, fr⟩ := not_over ov
    simp_arith [e01, fget3]
    by_cases c : m.done < fuel
    · simp_arith [c, e01, fget0, fget1, at_rows ok.at0 er]
      have hrk := h.ok r (List.mem_of_getElem? er)
      refine wp_mono (make_spec ok hrk gH) ?_
      rintro _ S8 ⟨rfl, g8, k8⟩
      simp_arith []
      have nho : hr ≠ o := by omega
      have nhs : hr ≠ sd := by omega
      have gO8 : S8[o]? = some (oneD rows m sd) := k8.at gO (by simp; exact Ne.symm nho)
      have gS8 : S8[sd]? = some (.lst (m.said.map .int)) := k8.at gS (by simp; exact Ne.symm nhs)
      have hsl : m.said.length < 10000 := by have := ok.sd; omega
      refine wp_mono (stgo_spec ok hrk g8 gO8 gS8 ne er hsl) ?_
      rintro _ S9 ⟨rfl, gO9, gS9, k9⟩
      obtain ⟨n', rfl⟩ : ∃ n', n = n' + 1 := ⟨n - 1, by omega⟩
      have sd1 := step_done (m := m) (r := r)
      refine ⟨n', by omega, r.step m, some r.D, c2, rfl, step_ok ok hrk, by omega, by omega, by omega, ?_, k9.at g8 (by simp; exact ⟨nho, nhs⟩), gO9, gS9, ?_⟩
      · rw [← em, mrun_step er fr]
      · exact K6.past (W := [hr, o, sd]) ((k8.mono (by intro i _ h; simp at h ⊢; omega)).trans (k9.mono (by intro i _ h; simp at h ⊢; omega))) (by intro i h; simp at h; omega)
    · simp_arith [c, e01]
      have en0 : n = 0 := by omega
      subst en0
      exact done S6 rfl em.symm
end PG
end
section
set_option autoImplicit false
set_option maxRecDepth 100003
namespace PF
section
variable {S : Sto} {ρ : Env} {P : D → Sto → Prop}
theorem v_get {o k v : E} : wp (eGet o k v ρ S) P = wp (o ρ S) fun x S => ∃ n, x = .ref n ∧ on (dicOf n S) fun _ => wp (k ρ S) fun y S1 => wp (v ρ S1) fun z S2 => on (dicOf n S2) fun kvs => keyOk y = true ∧ P ((dget kvs y).getD z) S2 := by
  unfold eGet
  rw [wp_bind]
  congr
  funext x S
  cases x with
  | ref n =>
    have key : ∀ y z S2, wp (match dicOf n S2 with | some kvs => if keyOk y = true then .ok ((dget kvs y).getD z) S2 else .bad | none => .bad) P = on (dicOf n S2) fun kvs => keyOk y = true ∧ P ((dget kvs y).getD z) S2 := fun y z S2 => by
      cases h : dicOf n S2 with
      | none => simp only [on_none, wp_bad]
      | some kvs =>
        by_cases c : keyOk y = true
        · simp only [on_some, c, if_true, true_and, wp_ok]
        · simp only [on_some, c, if_false, false_and, wp_bad, Bool.false_eq_true]
    refine propext ⟨fun h => ⟨n, rfl, ?_⟩, fun ⟨m, e, h⟩ => ?_⟩
    · cases e : dicOf n S with
      | none => simp [e, wp_bad] at h
      | some fs =>
        simp only [e, wp_bind] at h
        rw [on_some]
        exact (congrArg (wp (k ρ S)) (funext fun y => funext fun S1 => congrArg (wp (v ρ S1)) (funext fun z => funext fun S2 => key y z S2))).mp h
    · cases e
      cases e : dicOf n S with
      | none => rw [e, on_none] at h; exact h.elim
      | some fs =>
        rw [e, on_some] at h
        simp only [e, wp_bind]
        exact (congrArg (wp (k ρ S)) (funext fun y => funext fun S1 => congrArg (wp (v ρ S1)) (funext fun z => funext fun S2 => key y z S2))).mpr h
  | _ => simp [wp_bad]
theorem w_fdict {n : Nat} {ds : List D} {ps : List (D × D)} (h : wrOf n S = some ds) (h2 : pairs? ds = some ps) (hl : ps.length ≤ 1000) : wp (fDict [.ref n] S) P = P (.ref S.length) (S ++ [.dic (putAll [] ps)]) := by
  unfold fDict
  simp only [h, h2, if_pos hl, alloc, wp_ok]
theorem w_mupd {n m : Nat} {kvs ps : List (D × D)} (h : dicOf n S = some kvs) (h2 : dicOf m S = some ps) (ne : n ≠ m) (hl : kvs.length + ps.length ≤ 1000) : wp (mUpdate (.ref n) (.ref m) S) P = P .non (S.set n (.dic (putAll kvs ps))) := by
  unfold mUpdate
  simp only [h, h2, ne, hl, ne_eq, not_false_eq_true, and_self, if_true, wp_ok]
/-! dicts from 0 on -/
def enumK : Nat → List Int → List (D × D)
  | _, [] => []
  | j, v :: vs => (.int (j : Int), .int v) :: enumK (j + 1) vs
theorem enumK_cons {j : Nat} {v : Int} {vs : List Int} : enumK j (v :: vs) = (.int (j : Int), .int v) :: enumK (j + 1) vs := rfl
theorem putAll_cons {kvs r : List (D × D)} {k v : D} : putAll kvs ((k, v) :: r) = putAll (dput kvs k v) r := rfl
theorem enumK_len : ∀ (j : Nat) (h : List Int), (enumK j h).length = h.length
  | _, [] => rfl
  | j, v :: vs => by unfold enumK; rw [List.length_cons, List.length_cons, enumK_len (j + 1) vs]
theorem enumK_app : ∀ (j : Nat) (h g : List Int), enumK j (h ++ g) = enumK j h ++ enumK (j + h.length) g
  | j, [], g => by simp [enumK]
  | j, v :: vs, g => by
    rw [List.cons_append]
    unfold enumK
    rw [enumK_app (j + 1) vs g, List.length_cons, show j + 1 + vs.length = j + (vs.length + 1) by omega]
    cases g <;> simp [enumK]
theorem enumK_any : ∀ (j : Nat) (h : List Int) (a : Nat), ((enumK j h).any fun p => decide (p.1 = .int (a : Int))) = decide (j ≤ a ∧ a < j + h.length)
  | j, [], a => by simp [enumK]
  | j, v :: vs, a => by
    unfold enumK
    rw [List.any_cons, enumK_any (j + 1) vs a, List.length_cons]
    by_cases c : j = a
    · subst c; simp
    · have e : ¬ (D.int (j : Int) = D.int (a : Int)) := fun z => c (by injection z; omega)
      simp only [e, decide_false, Bool.false_or]
      congr 1
      exact propext ⟨fun h => by omega, fun h => by omega⟩
theorem enumK_map : ∀ (j : Nat) (h : List Int) (k : Nat) (v : Int), (enumK j h).map (fun p => if p.1 = .int ((j + k : Nat) : Int) then (p.1, D.int v) else p) = enumK j (h.set k v)
  | j, [], k, v => by simp [enumK]
  | j, w :: ws, 0, v => by
    have rest : ∀ (i : Nat) (l : List Int), j < i → (enumK i l).map (fun p => if p.1 = D.int ((j : Nat) : Int) then (p.1, D.int v) else p) = enumK i l := by
      intro i l
      induction l generalizing i with
      | nil => intro _; rfl
      | cons x xs ih =>
        intro hi
        unfold enumK
        rw [List.map_cons, ih (i + 1) (by omega)]
        have e : ¬ (D.int (i : Int) = D.int (j : Int)) := fun z => by injection z; omega
        simp [e]
    unfold enumK
    rw [List.map_cons, Nat.add_zero, rest (j + 1) ws (by omega)]
    simp [enumK]
  | j, w :: ws, k + 1, v => by
    have ih := enumK_map (j + 1) ws k v
    unfold enumK
    rw [List.map_cons, show j + (k + 1) = j + 1 + k by omega, ih]
    have e : ¬ (D.int (j : Int) = D.int ((j + 1 + k : Nat) : Int)) := fun z => by injection z; omega
    simp only [e, if_false, List.set_cons_succ]
    try rfl
theorem enumK_get : ∀ (j : Nat) (h : List Int) (k : Nat), dget (enumK j h) (.int ((j + k : Nat) : Int)) = (h[k]?).map D.int
  | j, [], k => by simp [enumK, dget]
  | j, w :: ws, 0 => by simp [enumK, dget]
  | j, w :: ws, k + 1 => by
    have ih := enumK_get (j + 1) ws k
    unfold dget at ih ⊢
    unfold enumK
    rw [List.find?_cons]
    have e : ¬ (D.int (j : Int) = D.int ((j + (k + 1) : Nat) : Int)) := fun z => by injection z; omega
    simp only [e, decide_false]
    rw [show j + (k + 1) = j + 1 + k by omega, ih]
    simp
theorem dput_in {h : List Int} {k : Nat} {v : Int} (hk : k < h.length) : dput (enumK 0 h) (.int (k : Int)) (.int v) = enumK 0 (h.set k v) := by
  unfold dput
  rw [enumK_any, if_pos (by simp; omega)]
  have := enumK_map 0 h k v
  rw [Nat.zero_add] at this
  exact this
theorem dput_new {h : List Int} {v : Int} : dput (enumK 0 h) (.int (h.length : Int)) (.int v) = enumK 0 (h ++ [v]) := by
  unfold dput
  rw [enumK_any, if_neg (by simp), enumK_app]
  simp [enumK]
theorem putAll_new : ∀ (vs h : List Int), putAll (enumK 0 h) (enumK h.length vs) = enumK 0 (h ++ vs)
  | [], h => by simp [enumK, putAll]
  | v :: vs, h => by
    rw [enumK_cons, putAll_cons, dput_new]
    have ih := putAll_new vs (h ++ [v])
    rw [List.length_append, List.length_singleton] at ih
    rw [ih, List.append_assoc]
    rfl
theorem putAll_over : ∀ (gs pre rest : List Int), gs.length ≤ rest.length → putAll (enumK 0 (pre ++ rest)) (enumK pre.length gs) = enumK 0 (pre ++ gs ++ rest.drop gs.length)
  | [], pre, rest, _ => by simp [enumK, putAll]
  | g :: gs, pre, rest, hl => by
    cases rest with
    | nil => simp at hl
    | cons r rest =>
      rw [enumK_cons, putAll_cons, dput_in (by simp)]
      have e : (pre ++ r :: rest).set pre.length g = (pre ++ [g]) ++ rest := by simp
      have ih := putAll_over gs (pre ++ [g]) rest (by simpa using hl)
      rw [List.length_append, List.length_singleton] at ih
      rw [e, ih]
      simp
theorem pairs_enumK : ∀ (j : Nat) (h : List Int), pairs? ((enumK j h).map fun p => D.tup [p.1, p.2]) = some (enumK j h)
  | _, [] => rfl
  | j, v :: vs => by
    have ih := pairs_enumK (j + 1) vs
    unfold enumK
    rw [List.map_cons]
    unfold pairs?
    rw [ih]
    rfl
end
end PF
namespace PG
open PF
theorem dget_held {h : List Int} {a n : Int} (hl : (h.length : Int) = n) (ha : In0 a n) : dget (enumK 0 h) (.int a) = some (.int (rd h a)) := by
  obtain ⟨k, rfl⟩ := Int.eq_ofNat_of_zero_le ha.1
  have hk : k < h.length := by have := ha.2; omega
  have := enumK_get 0 h k
  rw [Nat.zero_add] at this
  rw [this]
  unfold rd
  simp [hk, List.getD_eq_getElem?_getD]
theorem dput_held {h : List Int} {a n v : Int} (hl : (h.length : Int) = n) (ha : In0 a n) : dput (enumK 0 h) (.int a) (.int v) = enumK 0 (h.set a.toNat v) := by
  obtain ⟨k, rfl⟩ := Int.eq_ofNat_of_zero_le ha.1
  have hk : k < h.length := by have := ha.2; omega
  exact dput_in hk
end PG
end
section
set_option autoImplicit false
set_option maxRecDepth 100003
namespace PG
open PF
theorem atm2 {x y : D} : at? [x, y] (-1) = some y := rfl
theorem atm3 {x y z : D} : at? [x, y, z] (-1) = some z := rfl
theorem simstart {names params : Int} {gs : List Int} (hn : 0 ≤ names ∧ names ≤ 8) (hp : 0 ≤ params ∧ params ≤ names) (hl : (gs.length : Int) = params) :
    putAll (enumK 0 (List.replicate names.toNat 0)) (enumK 0 gs) = enumK 0 (mc0 params names gs).held := by
  have := putAll_over gs [] (List.replicate names.toNat 0) (by rw [List.length_replicate]; omega)
  rw [List.nil_append, List.nil_append] at this
  rw [List.length_nil] at this
  rw [this, List.drop_replicate, show names.toNat - gs.length = (names - params).toNat by omega]
  rfl
theorem w_pow2 {S : Sto} {P : D → Sto → Prop} {i : Int} (h : In0 i 1000) : wp (gPow (.int i) (.int 2) S) P = P (.int (i * i)) S := by
  unfold gPow
  have c : (0 : Int) ≤ 2 ∧ (2 : Int) ≤ 1000000 ∧ i.natAbs < 2 ^ 64 := ⟨by decide, by decide, by have := h.1; have := h.2; omega⟩
  simp only [if_pos c, wp_ok]
  rw [show (2 : Int).toNat = 2 from rfl, show i ^ 2 = i * i from by rw [Int.pow_succ, Int.pow_succ, Int.pow_zero, Int.one_mul]]
theorem b2iF : b2i false = 0 := rfl
theorem b2iT : b2i true = 1 := rfl
theorem zeros_loop {names : Int} {S : Sto} {ρ0 : Env} {i : Nat} (f : E) (hf : ∀ (k : Nat) (S : Sto) (P : D → Sto → Prop), (k : Int) < names → wp (f (ρ0.set i (some (.int (k : Int)))) S) P = P (.tup [.int (k : Int), .int 0]) S) :
    wp (compLoop ⟨[], rangeD 0 names⟩ (PF.gName i) tYes f ρ0 (rangeD 0 names) S) fun ys S' => S' = S ∧ ys = (enumK 0 (List.replicate names.toNat 0)).map fun p => D.tup [p.1, p.2] := by
  refine wp_mono (wp_loop (it := ⟨[], rangeD 0 names⟩) (fun k acc S' => S' = S ∧ acc = (enumK 0 (List.replicate k 0)).map fun p => D.tup [p.1, p.2]) (fun _ _ _ _ => rfl) ?_ ⟨rfl, rfl⟩) ?_
  · rintro k x acc S1 hx ⟨rfl, rfl⟩
    obtain ⟨rfl, hlt⟩ := rangeD_get hx
    refine ⟨_, rfl, ?_⟩
    rw [w_tyes, if_pos rfl, show (0 : Int) + (k : Int) = k by omega, hf k _ _ (by omega)]
    refine ⟨rfl, ?_⟩
    rw [List.replicate_succ', enumK_app, List.map_append, List.length_replicate, Nat.zero_add]
    rfl
  · rintro ys S1 ⟨rfl, rfl⟩
    refine ⟨rfl, ?_⟩
    have e : (Iter.mk [] (rangeD 0 names)).all.length = names.toNat := by
      show (rangeD 0 names).length = _
      rw [rangeD_len]
      omega
    rw [e]
theorem given_loop {gs : List Int} {S : Sto} {ρ0 : Env} {i : Nat} (f : E) (hf : ∀ (k : Nat) (g : Int) (S : Sto) (P : D → Sto → Prop), gs[k]? = some g → wp (f (ρ0.set i (some (.int (k : Int)))) S) P = P (.tup [.int (k : Int), .int g]) S) :
    wp (compLoop ⟨[], rangeD 0 gs.length⟩ (PF.gName i) tYes f ρ0 (rangeD 0 gs.length) S) fun ys S' => S' = S ∧ ys = (enumK 0 gs).map fun p => D.tup [p.1, p.2] := by
  refine wp_mono (wp_loop (it := ⟨[], rangeD 0 gs.length⟩) (fun k acc S' => S' = S ∧ acc = (enumK 0 (gs.take k)).map fun p => D.tup [p.1, p.2]) (fun _ _ _ _ => rfl) ?_ ⟨rfl, rfl⟩) ?_
  · rintro k x acc S1 hx ⟨rfl, rfl⟩
    obtain ⟨rfl, hlt⟩ := rangeD_get hx
    have hk : k < gs.length := by omega
    refine ⟨_, rfl, ?_⟩
    rw [w_tyes, if_pos rfl, show (0 : Int) + (k : Int) = k by omega, hf k gs[k] _ _ (by simp [hk])]
    refine ⟨rfl, ?_⟩
    have e : (gs.take k).length = k := by rw [List.length_take]; omega
    rw [List.take_add_one, enumK_app, List.map_append, e, Nat.zero_add]
    simp [hk, enumK]
  · rintro ys S1 ⟨rfl, rfl⟩
    refine ⟨rfl, ?_⟩
    have e : (Iter.mk [] (rangeD 0 gs.length)).all.length = gs.length := by
      show (rangeD 0 gs.length).length = _
      rw [rangeD_len]
      omega
    rw [e, List.take_length]
theorem lrun_spec {S : Sto} {params names fuel : Int} {rows : List Row} {gs : List Int} (h : ProgOk params names rows) (hl : (gs.length : Int) = params) (hg : ∀ g ∈ gs, In0 g 1000) (hf : 0 ≤ fuel ∧ fuel ≤ 1000) :
    wp (f__law_run [progD params names rows, .tup (gs.map .int), .int fuel] S) fun d S' => ∃ sd, d = tellD sd rows (mrun rows fuel.toNat (mc0 params names gs)) ∧ S'[sd]? = some (.lst ((mrun rows fuel.toNat (mc0 params names gs)).said.map .int)) ∧ S.length ≤ sd ∧ Keep [] S S' := by
  have hp := h.pr
  have hn := h.nm
  have hm0 := mc0_ok h hl hg
  unfold f__law_run b__law_run progD
  simp_arith [at_1, List.length_map]
  refine ⟨by omega, ?_⟩
  refine wp_mono (zeros_loop _ (fun k S P hk => by simp_arith [])) ?_
  rintro _ S1 ⟨rfl, rfl⟩
  have w1 : wrOf S1.length (S1 ++ [.lst ((enumK 0 (List.replicate names.toNat 0)).map fun p => D.tup [p.1, p.2])]) = some ((enumK 0 (List.replicate names.toNat 0)).map fun p => D.tup [p.1, p.2]) := wrOf_lst get_last
  refine ⟨by rw [List.length_map, enumK_len, List.length_replicate]; unfold LIM; omega, ?_⟩
  rw [w_fdict w1 (pairs_enumK _ _) (by rw [enumK_len, List.length_replicate]; omega)]
  have e0 : putAll [] (enumK 0 (List.replicate names.toNat 0)) = enumK 0 (List.replicate names.toNat 0) := putAll_new (List.replicate names.toNat 0) []
  rw [e0]
  have gD : ((S1 ++ [MO.lst ((enumK 0 (List.replicate names.toNat 0)).map fun p => D.tup [p.1, p.2])]) ++ [MO.dic (enumK 0 (List.replicate names.toNat 0))])[(S1 ++ [MO.lst ((enumK 0 (List.replicate names.toNat 0)).map fun p => D.tup [p.1, p.2])]).length]? = some (.dic (enumK 0 (List.replicate names.toNat 0))) := get_last
  have k1 : Keep [] S1 ((S1 ++ [MO.lst ((enumK 0 (List.replicate names.toNat 0)).map fun p => D.tup [p.1, p.2])]) ++ [MO.dic (enumK 0 (List.replicate names.toNat 0))]) := .trans .app .app
  have hdl : S1.length ≤ (S1 ++ [MO.lst ((enumK 0 (List.replicate names.toNat 0)).map fun p => D.tup [p.1, p.2])]).length := by simp
  generalize (S1 ++ [MO.lst ((enumK 0 (List.replicate names.toNat 0)).map fun p => D.tup [p.1, p.2])]).length = hd at *
  generalize ((S1 ++ [MO.lst ((enumK 0 (List.replicate names.toNat 0)).map fun p => D.tup [p.1, p.2])]) ++ [MO.dic (enumK 0 (List.replicate names.toNat 0))]) = S2 at *
  simp_arith [dicOf_dic gD]
  refine ⟨by omega, ?_⟩
  refine wp_mono (given_loop _ (fun k g S P hk => by simp_arith [at_nat, List.getElem?_map, hk, Option.map_some])) ?_
  rintro _ S3 ⟨rfl, rfl⟩
  have w3 : wrOf S3.length (S3 ++ [.lst ((enumK 0 gs).map fun p => D.tup [p.1, p.2])]) = some ((enumK 0 gs).map fun p => D.tup [p.1, p.2]) := wrOf_lst get_last
  refine ⟨by rw [List.length_map, enumK_len]; unfold LIM; omega, ?_⟩
  rw [w_fdict w3 (pairs_enumK _ _) (by rw [enumK_len]; omega)]
  have e1 : putAll [] (enumK 0 gs) = enumK 0 gs := putAll_new gs []
  rw [e1]
  have dl := lt_of_get gD
  have d1 : dicOf hd ((S3 ++ [MO.lst ((enumK 0 gs).map fun p => D.tup [p.1, p.2])]) ++ [MO.dic (enumK 0 gs)]) = some (enumK 0 (List.replicate names.toNat 0)) := dicOf_dic (get_app (get_app gD))
  have d2 : dicOf (S3 ++ [MO.lst ((enumK 0 gs).map fun p => D.tup [p.1, p.2])]).length ((S3 ++ [MO.lst ((enumK 0 gs).map fun p => D.tup [p.1, p.2])]) ++ [MO.dic (enumK 0 gs)]) = some (enumK 0 gs) := dicOf_dic get_last
  rw [w_mupd d1 d2 (by simp; omega) (by rw [enumK_len, enumK_len, List.length_replicate]; omega), simstart ⟨by omega, by omega⟩ hp hl]
  have k2a : Keep [] S1 ((S3 ++ [MO.lst ((enumK 0 gs).map fun p => D.tup [p.1, p.2])]) ++ [MO.dic (enumK 0 gs)]) := k1.trans (.trans .app .app)
  have l4 : hd < ((S3 ++ [MO.lst ((enumK 0 gs).map fun p => D.tup [p.1, p.2])]) ++ [MO.dic (enumK 0 gs)]).length := by simp; omega
  clear d1 d2 w3
  generalize ((S3 ++ [MO.lst ((enumK 0 gs).map fun p => D.tup [p.1, p.2])]) ++ [MO.dic (enumK 0 gs)]) = S3' at *
  have gD2 : (S3'.set hd (.dic (enumK 0 (mc0 params names gs).held)))[hd]? = some (.dic (enumK 0 (mc0 params names gs).held)) := get_set l4
  have k2 : Keep [] S1 (S3'.set hd (.dic (enumK 0 (mc0 params names gs).held))) := k2a.past (W := [hd]) (Keep.set (by simp)) (by intro i hi; simp at hi; omega)
  generalize S3'.set hd (.dic (enumK 0 (mc0 params names gs).held)) = S4 at *
  simp_arith []
  have gD5 : (S4 ++ [MO.lst []])[hd]? = some (.dic (enumK 0 (mc0 params names gs).held)) := get_app gD2
  have gS5 : (S4 ++ [MO.lst []])[S4.length]? = some (.lst ((mc0 params names gs).said.map .int)) := get_last
  have k5 : Keep [] S1 (S4 ++ [MO.lst []]) := k2.trans .app
  have nhs : hd ≠ S4.length := by have := lt_of_get gD2; omega
  have sdl : S1.length ≤ S4.length := k2.len
  generalize S4 ++ [MO.lst []] = S5 at *
  generalize S4.length = sd at *
  refine wp_while (fun n ρ S' => ∃ (m : Mc) (c7 c8 : Option D), ρ = [some (progD params names rows), some (.tup (gs.map .int)), some (.int fuel), some (.ref hd), some (.ref sd), some (.int m.at_), some (.int m.done), c7, c8, none, none, none] ∧ McOk names rows m ∧ 0 ≤ m.done ∧ m.done ≤ fuel ∧ n = (fuel - m.done).toNat ∧ mrun rows n m = mrun rows fuel.toNat (mc0 params names gs) ∧
    S'[hd]? = some (.dic (enumK 0 m.held)) ∧ S'[sd]? = some (.lst (m.said.map .int)) ∧ Keep [] S1 S') fuel.toNat (by unfold TURNS; omega) ?_ ⟨mc0 params names gs, none, none, rfl, hm0, Int.le_refl 0, hf.1, by show _ = (fuel - 0).toNat; omega, rfl, gD5, gS5, k5⟩
  rintro n ρ S6 ⟨m, c7, c8, rfl, ok, dn0, dn1, en, em, gH, gS, K6⟩
  have fin : ∀ (b : Bool) (w : List Nat), over rows m.at_ = b → (if b then z_end else z_long) = w → mrun rows fuel.toNat (mc0 params names gs) = m → ∃ sd', D.tup [.ref sd, .tup [.str w], .int m.done] = tellD sd' rows (mrun rows fuel.toNat (mc0 params names gs)) ∧ S6[sd']? = some (.lst ((mrun rows fuel.toNat (mc0 params names gs)).said.map .int)) ∧ S1.length ≤ sd' ∧ Keep [] S1 S6 := by
    rintro b w ov ew e
    rw [e]
    refine ⟨sd, ?_, gS, sdl, K6⟩
    unfold tellD
    rw [ov, ew]
  unfold progD
  simp_arith [at_2, List.length_map]
  cases ov : over rows m.at_ with
  | true =>
    have z := fin true z_end ov rfl (by rw [← em, mrun_over ov])
    unfold over at ov
    cases e : rows[m.at_.toNat]? with
    | none =>
      have hle : ¬ m.at_ < (rows.length : Int) := by have := List.getElem?_eq_none_iff.mp e; have := ok.at0; omega
      simp_arith [hle]
      exact z
    | some r =>
      rw [e] at ov
      have hlt : m.at_ < (rows.length : Int) := by have := (List.getElem?_eq_some_iff.mp e).1; have := ok.at0; omega
      cases r with
      | fin =>
        simp_arith [hlt, at_rows ok.at0 e, Row.D, at0]
        exact z
      | _ => cases ov
  | false =>
    obtain ⟨r, er, fr⟩ := not_over ov
    have hlt : m.at_ < (rows.length : Int) := by have := (List.getElem?_eq_some_iff.mp er).1; have := ok.at0; omega
    have hrk := h.ok r (List.mem_of_getElem? er)
    have nz : ∀ (P : Prop) , True := fun _ => trivial
    by_cases c : m.done = fuel
    · have z := fin false z_long ov rfl (by rw [← em, show n = 0 by omega]; rfl)
      have c' : (m.done == fuel) = true := by simpa using c
      simp_arith [hlt, at_rows ok.at0 er, c']
      cases r with
      | fin => cases fr
      | op q _ _ _ => cases q <;> (simp_arith [Row.D, Op3.s, at0, cons_beq_nil, nil_beq_cons, List.cons_beq_cons, Nat.reduceBEq]; exact z)
      | _ => simp_arith [Row.D, at0, cons_beq_nil, nil_beq_cons, List.cons_beq_cons, Nat.reduceBEq]; exact z
    · have c' : (m.done == fuel) = false := by simpa using c
      obtain ⟨n', rfl⟩ : ∃ n', n = n' + 1 := ⟨n - 1, by omega⟩
      have sd1 := step_done (m := m) (r := r)
      have lh := lt_of_get gH
      have fin2 : ∀ (m1 : Mc) (S7 : Sto) (c7 c8 : Option D), r.step m = m1 → S7[hd]? = some (.dic (enumK 0 m1.held)) → S7[sd]? = some (.lst (m1.said.map .int)) → Keep [hd, sd] S6 S7 → ∃ m', m' < n' + 1 ∧ ∃ (m2 : Mc) (e7 e8 : Option D), [some (D.tup [D.int params, D.int names, D.tup (rows.map Row.D)]), some (D.tup (gs.map D.int)), some (D.int fuel), some (D.ref hd), some (D.ref sd), some (D.int m1.at_), some (D.int (m.done + 1)), c7, c8, none, none, none] = [some (D.tup [D.int params, D.int names, D.tup (rows.map Row.D)]), some (D.tup (gs.map D.int)), some (D.int fuel), some (D.ref hd), some (D.ref sd), some (D.int m2.at_), some (D.int m2.done), e7, e8, none, none, none] ∧ McOk names rows m2 ∧ 0 ≤ m2.done ∧ m2.done ≤ fuel ∧ m' = (fuel - m2.done).toNat ∧ mrun rows m' m2 = mrun rows fuel.toNat (mc0 params names gs) ∧ S7[hd]? = some (.dic (enumK 0 m2.held)) ∧ S7[sd]? = some (.lst (m2.said.map .int)) ∧ Keep [] S1 S7 := by
        rintro m1 S7 e7 e8 rfl q1 q2 q3
        refine ⟨n', by omega, r.step m, e7, e8, by rw [sd1], step_ok ok hrk, by omega, by omega, by omega, by rw [← em, mrun_step er fr], q1, q2, K6.past (W := [hd, sd]) q3 (by intro i hi; simp at hi; omega)⟩
      have kmk : ∀ U x, Keep [hd, sd] S6 ((S6 ++ U).set hd x) := fun U x => .trans .app (.set (by simp))
      have hset : ∀ (U : Sto) (v : MO), ((S6 ++ U).set hd v)[hd]? = some v := fun U v => get_set (by rw [List.length_append]; omega)
      have sset : ∀ (U : Sto) (v : MO), ((S6 ++ U).set hd v)[sd]? = some (.lst (m.said.map .int)) := fun U v => get_ne (get_app gS) nhs
      have dapp : ∀ U : Sto, dicOf hd (S6 ++ U) = some (enumK 0 m.held) := fun U => dicOf_dic (get_app gH)
      have last : ∀ (V : Sto) (ds : List D), lstOf V.length (V ++ [.lst ds]) = some ds := fun V ds => by rw [lstOf_len]; rfl
      have ll : (enumK 0 m.held).length < LIM := by rw [enumK_len]; have := ok.len; unfold LIM; omega
      have z1 : ∀ n : Nat, n ≤ 3 → n ≤ LIM := fun n h => by unfold LIM; omega
      have dapp2 : ∀ U V : Sto, dicOf hd ((S6 ++ U) ++ V) = some (enumK 0 m.held) := fun U V => dicOf_dic (get_app (get_app gH))
      have last2 : ∀ (ds : List D) (U : Sto), lstOf S6.length ((S6 ++ [.lst ds]) ++ U) = some ds := fun ds U => lstOf_app get_last
      have wapp : ∀ U : Sto, wrOf sd (S6 ++ U) = some (m.said.map .int) := fun U => wrOf_app gS
      have LS : m.said.length < LIM := by have := ok.sd; unfold LIM; omega
      have lapp : ∀ U : Sto, isL (.ref sd) (S6 ++ U) = true := fun U => isL_lst (get_app gS)
      have kmk2 : ∀ (U V : Sto) x, Keep [hd, sd] S6 (((S6 ++ U) ++ V).set hd x) := fun U V x => .trans (.trans .app .app) (.set (by simp))
      have hset2 : ∀ (U V : Sto) (v : MO), (((S6 ++ U) ++ V).set hd v)[hd]? = some v := fun U V v => get_set (by rw [List.length_append, List.length_append]; omega)
      have sset2 : ∀ (U V : Sto) (v : MO), (((S6 ++ U) ++ V).set hd v)[sd]? = some (.lst (m.said.map .int)) := fun U V v => get_ne (get_app (get_app gS)) nhs
      have kS : ∀ U x, Keep [hd, sd] S6 ((S6 ++ U).set sd x) := fun U x => .trans .app (.set (by simp))
      have hS : ∀ (U : Sto) (v : MO), ((S6 ++ U).set sd v)[hd]? = some (.dic (enumK 0 m.held)) := fun U v => get_ne (get_app gH) (Ne.symm nhs)
      have sS : ∀ (U : Sto) (v : MO), ((S6 ++ U).set sd v)[sd]? = some v := fun U v => get_set (by have := lt_of_get gS; rw [List.length_append]; omega)
      have kI : ∀ i : Int, keyOk (.int i) = true := fun _ => rfl
      simp_arith [hlt, at_rows ok.at0 er, c']
      cases r with
      | put d k =>
        simp_arith [Row.D, at0, at_1, at_2, cons_beq_nil, nil_beq_cons, List.cons_beq_cons, Nat.reduceBEq, w_slice, w_onone, w_osome, w_gslT, cut3, chkOf, w_ccons, w_cnil, same_nil, v_get, dicOf_dic gH, keyOk, v_setDct (kI _), dapp, ll, dput_held ok.len hrk.1]
        exact ⟨z1 1 (by decide), fin2 _ _ _ _ rfl (hset _ _) (sset _ _) (kmk _ _)⟩
      | copy d a =>
        simp_arith [Row.D, at0, at_1, at_2, cons_beq_nil, nil_beq_cons, List.cons_beq_cons, Nat.reduceBEq, w_slice, w_onone, w_osome, w_gslT, cut3, chkOf, w_ccons, w_cnil, same_nil, v_get, dicOf_dic gH, keyOk, v_setDct (kI _), dapp, ll, last, dget_held ok.len hrk.2, Option.getD_some, dput_held ok.len hrk.1]
        exact ⟨z1 1 (by decide), fin2 _ _ _ _ rfl (hset _ _) (sset _ _) (kmk _ _)⟩
      | call d a =>
        have hv := rd_in (i := a) ok.lo
        have h7 : ∀ x : Int, (7 * (x * x) + x + 3) % 1000 = (x * x * 7 + x + 3) % 1000 := fun x => by rw [Int.mul_comm 7]
        simp_arith [Row.D, at0, at_1, at_2, cons_beq_nil, nil_beq_cons, List.cons_beq_cons, Nat.reduceBEq, w_slice, w_onone, w_osome, w_gslT, cut1, cut2, cut3, cut4, chkOf, w_ccons, w_cnil, same_nil, v_get, dicOf_dic gH, keyOk, v_setDct (kI _), v_dx (kI _), dapp, ll, last, Option.getD_some, dget_held ok.len hrk.2, w_pow2 hv, w_mul (.inl (show -(2 ^ 64) < (7 : Int) ∧ (7 : Int) < 2 ^ 64 by decide)), w_mod (show (0 : Int) < 1000 by decide), h7, dput_held ok.len hrk.1]
        exact ⟨z1 1 (by decide), fin2 _ _ _ _ rfl (hset _ _) (sset _ _) (kmk _ _)⟩
      | op q d a b =>
        cases q with
        | less =>
          have hb : b2i (decide (rd m.held a < rd m.held b)) = Op3.less.v (rd m.held a) (rd m.held b) := by
            unfold Op3.v b2i
            by_cases c : rd m.held a < rd m.held b <;> simp [c]
          simp_arith [Row.D, at0, at_1, at_2, cons_beq_nil, nil_beq_cons, List.cons_beq_cons, Nat.reduceBEq, w_slice, w_onone, w_osome, w_gslT, cut1, cut2, cut3, cut4, chkOf, w_ccons, w_cnil, same_nil, v_get, dicOf_dic gH, keyOk, v_setDct (kI _), v_dx (kI _), dapp, ll, last, Option.getD_some, Op3.s, dget_held ok.len hrk.2.1, dget_held ok.len hrk.2.2, hb, dput_held ok.len hrk.1]
          exact ⟨z1 2 (by decide), fin2 _ _ _ _ rfl (hset _ _) (sset _ _) (kmk _ _)⟩
        | add =>
          simp_arith [Row.D, at0, at_1, at_2, cons_beq_nil, nil_beq_cons, List.cons_beq_cons, Nat.reduceBEq, w_slice, w_onone, w_osome, w_gslT, cut1, cut2, cut3, cut4, chkOf, w_ccons, w_cnil, same_nil, v_get, dicOf_dic gH, keyOk, v_setDct (kI _), v_dx (kI _), dapp, ll, last, Option.getD_some, Op3.s, dget_held ok.len hrk.2.1, dget_held ok.len hrk.2.2]
          refine ⟨z1 2 (by decide), ?_⟩
          (simp only [v_in, v_notIn, inB, D.scal, inTree, tree_strlit, allSome, List.all_cons, List.all_nil, List.any_cons, List.any_nil, J.eqv, List.cons_beq_cons, cons_beq_nil, nil_beq_cons, Nat.reduceBEq, Nat.reduceLT, decide_true, Bool.and_true, Bool.and_false, Bool.true_and, Bool.false_and, Bool.or_false, Bool.or_true, Bool.false_or, Bool.true_or, Bool.and_self, if_true, on_some, BEq.rfl, Bool.not_true, Bool.not_false, beq_self_eq_true])
          have ha : ∀ x y : Int, (x + y * 1) % 1000 = Op3.add.v x y := fun x y => by rw [Int.mul_one]; rfl
          simp_arith [at0, at_1, at_2, keyOk, v_setDct (kI _), v_dx (kI _), dapp, dapp2, ll, last, last2, b2iF, b2iT, Option.getD_some, atm2, atm3, wapp, LS, w_mulR 1 (by decide), w_mod (show (0 : Int) < 1000 by decide), ha, dput_held ok.len hrk.1]
          exact fin2 _ _ _ _ rfl (hset2 _ _ _) (sset2 _ _ _) (kmk2 _ _ _)
        | take =>
          simp_arith [Row.D, at0, at_1, at_2, cons_beq_nil, nil_beq_cons, List.cons_beq_cons, Nat.reduceBEq, w_slice, w_onone, w_osome, w_gslT, cut1, cut2, cut3, cut4, chkOf, w_ccons, w_cnil, same_nil, v_get, dicOf_dic gH, keyOk, v_setDct (kI _), v_dx (kI _), dapp, ll, last, Option.getD_some, Op3.s, dget_held ok.len hrk.2.1, dget_held ok.len hrk.2.2]
          refine ⟨z1 2 (by decide), ?_⟩
          (simp only [v_in, v_notIn, inB, D.scal, inTree, tree_strlit, allSome, List.all_cons, List.all_nil, List.any_cons, List.any_nil, J.eqv, List.cons_beq_cons, cons_beq_nil, nil_beq_cons, Nat.reduceBEq, Nat.reduceLT, decide_true, Bool.and_true, Bool.and_false, Bool.true_and, Bool.false_and, Bool.or_false, Bool.or_true, Bool.false_or, Bool.true_or, Bool.and_self, if_true, on_some, BEq.rfl, Bool.not_true, Bool.not_false, beq_self_eq_true])
          have ha : ∀ x y : Int, (x + y * -1) % 1000 = Op3.take.v x y := fun x y => by rw [Int.mul_neg, Int.mul_one]; rfl
          simp_arith [at0, at_1, at_2, keyOk, v_setDct (kI _), v_dx (kI _), dapp, dapp2, ll, last, last2, b2iF, b2iT, Option.getD_some, atm2, atm3, wapp, LS, w_mulR (-1) (by decide), w_mod (show (0 : Int) < 1000 by decide), ha, dput_held ok.len hrk.1]
          exact fin2 _ _ _ _ rfl (hset2 _ _ _) (sset2 _ _ _) (kmk2 _ _ _)
      | say a =>
        simp_arith [Row.D, at0, at_1, at_2, cons_beq_nil, nil_beq_cons, List.cons_beq_cons, Nat.reduceBEq, w_slice, w_onone, w_osome, w_gslT, cut1, cut2, cut3, cut4, chkOf, w_ccons, w_cnil, same_nil, v_get, dicOf_dic gH, keyOk, v_setDct (kI _), v_dx (kI _), dapp, ll, last, Option.getD_some, dget_held ok.len hrk]
        refine ⟨by unfold LIM; omega, ?_⟩
        (simp only [v_in, v_notIn, inB, D.scal, inTree, tree_strlit, allSome, List.all_cons, List.all_nil, List.any_cons, List.any_nil, J.eqv, List.cons_beq_cons, cons_beq_nil, nil_beq_cons, Nat.reduceBEq, Nat.reduceLT, decide_true, Bool.and_true, Bool.and_false, Bool.true_and, Bool.false_and, Bool.or_false, Bool.or_true, Bool.false_or, Bool.true_or, Bool.and_self, if_true, on_some, BEq.rfl, Bool.not_true, Bool.not_false, beq_self_eq_true])
        simp_arith [at0, at_1, at_2, keyOk, v_setDct (kI _), v_dx (kI _), dapp, dapp2, ll, last, last2, b2iF, b2iT, Option.getD_some, atm2, atm3, wapp, LS, dget_held ok.len hrk, lapp, List.length_map]
        exact fin2 (Row.step m (.say a)) _ _ _ rfl (hS _ _) (by rw [sS]; simp [Row.step]) (kS _ _)
      | go r =>
        simp_arith [Row.D, at0, at_1, at_2, cons_beq_nil, nil_beq_cons, List.cons_beq_cons, Nat.reduceBEq, w_slice, w_onone, w_osome, w_gslT, cut1, cut2, cut3, cut4, chkOf, w_ccons, w_cnil, same_nil, v_get, dicOf_dic gH, keyOk, v_setDct (kI _), v_dx (kI _), dapp, ll, last, Option.getD_some, atm2, atm3]
        refine ⟨by unfold LIM; omega, ?_⟩
        (simp only [v_in, v_notIn, inB, D.scal, inTree, tree_strlit, allSome, List.all_cons, List.all_nil, List.any_cons, List.any_nil, J.eqv, List.cons_beq_cons, cons_beq_nil, nil_beq_cons, Nat.reduceBEq, Nat.reduceLT, decide_true, Bool.and_true, Bool.and_false, Bool.true_and, Bool.false_and, Bool.or_false, Bool.or_true, Bool.false_or, Bool.true_or, Bool.and_self, if_true, on_some, BEq.rfl, Bool.not_true, Bool.not_false, beq_self_eq_true])
        simp_arith [at0, at_1, at_2, keyOk, v_setDct (kI _), v_dx (kI _), dapp, dapp2, ll, last, last2, b2iF, b2iT, Option.getD_some, atm2, atm3, wapp, LS]
        exact fin2 (Row.step m (.go r)) _ _ _ rfl (get_app gH) (get_app gS) .app
      | ife a r =>
        simp_arith [Row.D, at0, at_1, at_2, cons_beq_nil, nil_beq_cons, List.cons_beq_cons, Nat.reduceBEq, w_slice, w_onone, w_osome, w_gslT, cut1, cut2, cut3, cut4, chkOf, w_ccons, w_cnil, same_nil, v_get, dicOf_dic gH, keyOk, v_setDct (kI _), v_dx (kI _), dapp, ll, last, Option.getD_some, dget_held ok.len hrk.1, atm2, atm3]
        refine ⟨z1 1 (by decide), ?_⟩
        (simp only [v_in, v_notIn, inB, D.scal, inTree, tree_strlit, allSome, List.all_cons, List.all_nil, List.any_cons, List.any_nil, J.eqv, List.cons_beq_cons, cons_beq_nil, nil_beq_cons, Nat.reduceBEq, Nat.reduceLT, decide_true, Bool.and_true, Bool.and_false, Bool.true_and, Bool.false_and, Bool.or_false, Bool.or_true, Bool.false_or, Bool.true_or, Bool.and_self, if_true, on_some, BEq.rfl, Bool.not_true, Bool.not_false, beq_self_eq_true])
        simp_arith [at0, at_1, at_2, keyOk, v_setDct (kI _), v_dx (kI _), dapp, dapp2, ll, last, last2, b2iF, b2iT, Option.getD_some, atm2, atm3, wapp, LS, dget_held ok.len hrk.1]
        by_cases c : rd m.held a = 0
        · have cb : (rd m.held a == 0) = true := by simpa using c
          simp_arith [cb]
          exact fin2 ⟨m.at_ + 1, m.held, m.said, m.done + 1⟩ _ _ _ (by simp [Row.step, c]) (get_app gH) (get_app gS) .app
        · have cb : (rd m.held a == 0) = false := by simpa using c
          simp_arith [cb]
          exact fin2 ⟨r, m.held, m.said, m.done + 1⟩ _ _ _ (by simp [Row.step, c]) (get_app gH) (get_app gS) .app
      | fin => cases fr
end PG
end
section
set_option autoImplicit false
set_option maxRecDepth 100003
namespace PG
open PF
def Ev (k : Nat) (x y : D) (S : Sto) : Prop := wp (f__law_alike k [x, y] S) fun d S' => d = .bl true ∧ S' = S
theorem al_int {k : Nat} {S : Sto} {i : Int} : Ev (k + 1) (.int i) (.int i) S := by
  unfold Ev f__law_alike b__law_alike
  simp_arith [reduceCtorEq]
theorem al_str {k : Nat} {S : Sto} {i : List Nat} : Ev (k + 1) (.str i) (.str i) S := by
  unfold Ev f__law_alike b__law_alike
  simp_arith [reduceCtorEq]
theorem al_bl {k : Nat} {S : Sto} {i : Bool} : Ev (k + 1) (.bl i) (.bl i) S := by
  unfold Ev f__law_alike b__law_alike
  simp_arith [reduceCtorEq]
theorem al_non {k : Nat} {S : Sto} : Ev (k + 1) .non .non S := by
  unfold Ev f__law_alike b__law_alike
  simp_arith []
theorem al_loop {k : Nat} {x y : D} {xs ys : List D} {S : Sto} {c : Option D} (hl : xs.length = ys.length) (hn : ys.length < 2 ^ 62) (hx : ∀ (i : Nat) (P : D → Sto → Prop), wp (gIx x (.int (i : Int)) S) P = on xs[i]? fun d => P d S) (hy : ∀ (i : Nat) (P : D → Sto → Prop), wp (gIx y (.int (i : Int)) S) P = on ys[i]? fun d => P d S)
    (h : ∀ (i : Nat) (a b : D), xs[i]? = some a → ys[i]? = some b → Ev k a b S) :
    wp (forLoop ⟨[], rangeD 0 ys.length⟩ (PF.gName 2) (sIf (PF.tNot (tE (eCall (f__law_alike k) (aCons (e2 gIx (eVar 0) (eVar 2)) (aCons (e2 gIx (eVar 1) (eVar 2)) (aNil)))))) (sRet (eC (.bl false))) (sNext)) (rangeD 0 ys.length) [some x, some y, c] S) fun r S' => r.1 = .nx ∧ S' = S ∧ ∃ c', r.2 = [some x, some y, c'] := by
  refine wp_for (it := ⟨[], rangeD 0 ys.length⟩) (fun k ρ S' => S' = S ∧ ∃ c, ρ = [some x, some y, c]) (fun _ _ _ _ => rfl) ?_ ⟨rfl, c, rfl⟩ ?_
  · rintro i z ρ S1 hz ⟨rfl, c, rfl⟩
    obtain ⟨rfl, hlt⟩ := rangeD_get hz
    have hi : i < ys.length := by omega
    refine ⟨_, rfl, ?_⟩
    have e : (0 : Int) + (i : Int) = i := by omega
    simp_arith [e, hx, hy]
    have ex : xs[i]? = some xs[i] := by simp [hl, hi]
    have ey : ys[i]? = some ys[i] := by simp [hi]
    rw [ex, ey, on_some, on_some]
    refine wp_mono (h i _ _ ex ey) ?_
    rintro _ S2 ⟨rfl, rfl⟩
    simp_arith []
    exact ⟨_, rfl⟩
  · rintro ρ S1 ⟨rfl, c, rfl⟩
    exact ⟨rfl, rfl, c, rfl⟩
theorem al_tup {k : Nat} {S : Sto} {xs ys : List D} (hl : xs.length = ys.length) (hn : ys.length < 2 ^ 62) (h : ∀ (i : Nat) (a b : D), xs[i]? = some a → ys[i]? = some b → Ev k a b S) : Ev (k + 1) (.tup xs) (.tup ys) S := by
  unfold Ev f__law_alike b__law_alike
  have e : (((xs.length : Nat) : Int) == (ys.length : Int)) = true := by rw [hl]; exact beq_self_eq_true _
  simp_arith [reduceCtorEq, e]
  refine ⟨by omega, ?_⟩
  refine wp_mono (al_loop hl hn (fun i P => by rw [v_ixT, at_nat]) (fun i P => by rw [v_ixT, at_nat]) h) ?_
  rintro ⟨f, ρ⟩ S1 ⟨rfl, rfl, c, rfl⟩
  simp_arith []
theorem al_lst {k : Nat} {S : Sto} {n m : Nat} {xs ys : List D} (h1 : lstOf n S = some xs) (h2 : lstOf m S = some ys) (hl : xs.length = ys.length) (hn : ys.length < 2 ^ 62) (h : ∀ (i : Nat) (a b : D), xs[i]? = some a → ys[i]? = some b → Ev k a b S) : Ev (k + 1) (.ref n) (.ref m) S := by
  unfold Ev f__law_alike b__law_alike
  have e : (((xs.length : Nat) : Int) == (ys.length : Int)) = true := by rw [hl]; exact beq_self_eq_true _
  simp_arith [reduceCtorEq, isK_ref h1, isK_ref h2, h1, h2, e]
  refine ⟨by omega, ?_⟩
  refine wp_mono (al_loop hl hn (fun i P => by rw [v_ixL, h1, on_some, at_nat]) (fun i P => by rw [v_ixL, h2, on_some, at_nat]) h) ?_
  rintro ⟨f, ρ⟩ S1 ⟨rfl, rfl, c, rfl⟩
  simp_arith []
theorem al_ints {k : Nat} {S : Sto} {n m : Nat} {is : List Int} (h1 : lstOf n S = some (is.map .int)) (h2 : lstOf m S = some (is.map .int)) (hn : is.length < 2 ^ 62) : Ev (k + 2) (.ref n) (.ref m) S :=
  al_lst h1 h2 rfl (by simpa using hn) fun i a b ha hb => by
    rw [ha] at hb
    cases hb
    rw [List.getElem?_map] at ha
    cases e : is[i]? with
    | none => rw [e] at ha; cases ha
    | some v => rw [e] at ha; cases ha; exact al_int
/-- tuples, item by item -/
theorem al_nil {k : Nat} {S : Sto} : ∀ (i : Nat) (a b : D), ([] : List D)[i]? = some a → ([] : List D)[i]? = some b → Ev k a b S := fun i a b h => by simp at h
theorem al_cons {k : Nat} {S : Sto} {x y : D} {xs ys : List D} (h : Ev k x y S) (t : ∀ (i : Nat) (a b : D), xs[i]? = some a → ys[i]? = some b → Ev k a b S) : ∀ (i : Nat) (a b : D), (x :: xs)[i]? = some a → (y :: ys)[i]? = some b → Ev k a b S
  | 0, a, b, ha, hb => by cases ha; cases hb; exact h
  | i + 1, a, b, ha, hb => t i a b (by simpa using ha) (by simpa using hb)
end PG
end
section
set_option autoImplicit false
set_option maxRecDepth 100003
namespace PG
open PF
/-- both runs tell the same -/
theorem tell_alike {S : Sto} {s1 s2 : Nat} {rows : List Row} {m : Mc} (h1 : S[s1]? = some (.lst (m.said.map .int))) (h2 : S[s2]? = some (.lst (m.said.map .int))) (hn : m.said.length < 2 ^ 62) : Ev 12 (tellD s1 rows m) (tellD s2 rows m) S := by
  unfold tellD
  refine al_tup rfl (show 3 < 2 ^ 62 by decide) (al_cons (al_ints (lstOf_lst h1) (lstOf_lst h2) hn) (al_cons ?_ (al_cons al_int al_nil)))
  exact al_tup rfl (show 1 < 2 ^ 62 by decide) (al_cons al_str al_nil)
theorem mrun_done {rows : List Row} : ∀ (n : Nat) (m : Mc), (mrun rows n m).done ≤ m.done + n
  | 0, m => by show m.done ≤ m.done + 0; omega
  | n + 1, m => by
    unfold mrun
    cases rows[m.at_.toNat]? with
    | none => show m.done ≤ _; omega
    | some r =>
      dsimp only
      split
      · omega
      · have := mrun_done (rows := rows) n (r.step m)
        rw [step_done] at this
        omega
/-- the numbers given -/
theorem given_spec {b q : Nat} {S : Sto} {n : Int} {ρ : Env} (hB : Box b q S) (hn : 0 ≤ n) (h1 : ρ[1]? = some (some (.ref b))) (h9 : 9 < ρ.length) :
    wp (compLoop ⟨[], rangeD 0 n⟩ (PF.gName 9) tYes (e2 gIx (eLst (aCons (eCall f__law_take (aCons (eVar 1) (aCons (eC (.int 1000)) (aNil)))) (aCons (eCall f__law_take (aCons (eVar 1) (aCons (eC (.int 3)) (aNil)))) (aNil)))) (eCall f__law_take (aCons (eVar 1) (aCons (eC (.int 2)) (aNil))))) ρ (rangeD 0 n) S) fun ys S' => ∃ gs : List Int, ys = gs.map .int ∧ (gs.length : Int) = n ∧ (∀ g ∈ gs, In0 g 1000) ∧ Box b q S' ∧ Keep [b, q] S S' := by
  refine wp_mono (wp_loop (it := ⟨[], rangeD 0 n⟩) (fun k acc S' => ∃ gs : List Int, acc = gs.map D.int ∧ gs.length = k ∧ (∀ g ∈ gs, In0 g 1000) ∧ Box b q S' ∧ Keep [b, q] S S') (fun _ _ _ _ => rfl) ?_ ⟨[], rfl, rfl, fun _ h => (nomatch h), hB, .refl⟩) ?_
  · rintro k x acc S1 hx ⟨gs, rfl, hk, hg, B1, K1⟩
    refine ⟨_, rfl, ?_⟩
    have e1 : (ρ.set 9 (some x))[1]? = some (some (.ref b)) := by rw [List.getElem?_set_ne (by decide)]; exact h1
    simp_arith [e1]
    refine take_in B1 (by decide) fun x S2 i2 B2 k2 => take_in B2 (by decide) fun y S3 i3 B3 k3 => ?_
    refine take_in B3.app (by decide) fun z S4 i4 B4 k4 => ?_
    have K4 := ((K1.trans k2).trans k3).trans (Keep.trans .app k4)
    refine ix_new B3 k4 (at2 i4 ?_ ?_)
    · refine ⟨gs ++ [x], by simp, by simp [hk], fun g h => ?_, B4, K4⟩
      rcases List.mem_append.mp h with h | h
      · exact hg g h
      · have : g = x := by simpa using h
        rw [this]; exact i2
    · refine ⟨gs ++ [y], by simp, by simp [hk], fun g h => ?_, B4, K4⟩
      rcases List.mem_append.mp h with h | h
      · exact hg g h
      · have : g = y := by simpa using h
        rw [this]; exact ⟨i3.1, by have := i3.2; omega⟩
  · rintro ys S1 ⟨gs, rfl, hk, hg, B1, K1⟩
    refine ⟨gs, rfl, ?_, hg, B1, K1⟩
    have e : (Iter.mk [] (rangeD 0 n)).all.length = n.toNat := by
      show (rangeD 0 n).length = _
      rw [rangeD_len]
      omega
    omega
theorem law_wp (ns : List Int) (hl : ns.length ≤ 63) : wp (f_law [.ref 0] [.rol (ns.map D.int)]) fun d _ => d = .bl true := by
  have h0 : lstOf 0 [MO.rol (ns.map D.int)] = some (ns.map .int) := rfl
  unfold f_law b_law
  simp_arith []
  refine wp_mono (begun_spec h0 hl) ?_
  rintro _ S1 ⟨b, q, rfl, B1, -, -, -⟩
  simp_arith []
  refine ⟨by decide, ?_⟩
  refine wp_for (it := ⟨[], rangeD 0 6⟩) (fun k ρ S' => (∃ c2 c3 c4 c5 c6 c7 c8, ρ = [some (.ref 0), some (.ref b), c2, c3, c4, c5, c6, c7, c8, none]) ∧ Box b q S') (fun _ _ _ _ => rfl) ?_ ⟨⟨none, none, none, none, none, none, none, rfl⟩, B1⟩ ?_
  · rintro k x ρ S2 hx ⟨⟨c2, c3, c4, c5, c6, c7, c8, rfl⟩, B2⟩
    refine ⟨_, rfl, ?_⟩
    simp_arith []
    refine wp_mono (program_spec B2 (by decide)) ?_
    rintro _ S3 ⟨params, names, rows, rfl, P, -, B3, k3⟩
    unfold progD
    simp_arith [at0]
    have hp := P.pr
    have hn := P.nm
    refine ⟨by omega, ?_⟩
    refine wp_mono (given_spec B3 hp.1 rfl (show 9 < 10 by decide)) ?_
    rintro _ S4 ⟨gs, rfl, hgl, hg, B4, k4⟩
    refine ⟨by rw [List.length_map]; unfold LIM; omega, ?_⟩
    simp_arith [lstOf_len, lstOf_0]
    have B5 : Box b q (S4 ++ [.lst (gs.map .int)]) := B4.app
    generalize S4 ++ [MO.lst (gs.map .int)] = S5 at *
    refine take_in B5 (by decide) fun f1 S6 i6 B6 k6 => ?_
    refine take_in B6 (by decide) fun f0 S7 i7 B7 k7 => ?_
    refine take_in B7.app (by decide) fun r S8 i8 B8 k8 => ?_
    have hf2 : ∃ f2 : Int, on (at? [D.int 1000, D.int 1000, D.int f0] r) (fun d => d = .int f2) ∧ 0 ≤ f2 ∧ f2 ≤ 1000 := by
      unfold In0 at i7
      obtain rfl | rfl | rfl : r = 0 ∨ r = 1 ∨ r = 2 := by unfold In0 at i8; omega
      · exact ⟨1000, by rw [at0]; exact ⟨_, rfl, rfl⟩, by decide, by decide⟩
      · exact ⟨1000, by rw [at_lit 1 1 rfl]; exact ⟨_, rfl, rfl⟩, by decide, by decide⟩
      · exact ⟨f0, by rw [at_lit 2 2 rfl]; exact ⟨_, rfl, rfl⟩, by omega, by omega⟩
    obtain ⟨f2, ⟨_, e2, rfl⟩, hf2⟩ := hf2
    refine ix_new B7 k8 ?_
    rw [e2, on_some]
    have hf1 : 0 ≤ f1 ∧ f1 ≤ 1000 := by unfold In0 at i6; omega
    simp_arith [lstOf_len, lstOf_0, chkOf]
    have gF : (S8 ++ [MO.lst [.int f1, .int f2]])[S8.length]? = some (.lst [.int f1, .int f2]) := get_last
    have B9 : Box b q (S8 ++ [.lst [.int f1, .int f2]]) := B8.app
    generalize S8.length = fl at *
    generalize S8 ++ [MO.lst [.int f1, .int f2]] = S9 at *
    refine wp_for (it := ⟨[(fl, [.int f1, .int f2])], [.int f1, .int f2]⟩) (fun k ρ S' => (∃ c2 c5 c6 c7 c8, ρ = [some (.ref 0), some (.ref b), c2, some (progD params names rows), some (.tup (gs.map .int)), c5, c6, c7, c8, none]) ∧ Box b q S' ∧ S'[fl]? = some (.lst [.int f1, .int f2])) ?_ ?_ ⟨⟨_, _, _, _, _, rfl⟩, B9, gF⟩ ?_
    · rintro k ρ S' ⟨-, -, g⟩
      simp [Iter.same, lstOf_lst g]
    · rintro k x ρ S10 hx ⟨⟨c2, c5, c6, c7, c8, rfl⟩, B10, g10⟩
      have hfu : ∃ fuel : Int, x = .int fuel ∧ 0 ≤ fuel ∧ fuel ≤ 1000 := by
        match k, hx with
        | 0, hx => cases hx; exact ⟨f1, rfl, hf1⟩
        | 1, hx => cases hx; exact ⟨f2, rfl, hf2⟩
        | k + 2, hx => simp at hx
      obtain ⟨fuel, rfl, hfu⟩ := hfu
      refine ⟨_, rfl, ?_⟩
      simp_arith []
      refine wp_mono (lrun_spec P hgl hg hfu) ?_
      rintro _ S11 ⟨s1, rfl, g1, l1, k11⟩
      simp_arith []
      refine ⟨by decide, ?_⟩
      have B11 : Box b q S11 := B10.keep k11 (by simp) (by simp)
      have g11 : S11[fl]? = some (.lst [.int f1, .int f2]) := k11.at g10 (by simp)
      have hm := mrun_ok (names := names) P.ok fuel.toNat (mc0_ok P hgl hg)
      have hsl : (mrun rows fuel.toNat (mc0 params names gs)).said.length ≤ 2000 := by
        have h1 := hm.sd
        have h2 := mrun_done (rows := rows) fuel.toNat (mc0 params names gs)
        have h3 : (mc0 params names gs).done = 0 := rfl
        omega
      refine wp_for (it := ⟨[], rangeD 0 2⟩) (fun k ρ S' => (∃ c2 c7 c8, ρ = [some (.ref 0), some (.ref b), c2, some (progD params names rows), some (.tup (gs.map .int)), some (.int fuel), some (tellD s1 rows (mrun rows fuel.toNat (mc0 params names gs))), c7, c8, none]) ∧ Box b q S' ∧ S'[fl]? = some (.lst [.int f1, .int f2]) ∧ S'[s1]? = some (.lst ((mrun rows fuel.toNat (mc0 params names gs)).said.map .int))) (fun _ _ _ _ => rfl) ?_ ⟨⟨_, _, _, rfl⟩, B11, g11, g1⟩ ?_
      · rintro k x ρ S12 hx ⟨⟨c2, c7, c8, rfl⟩, B12, g12, gs12⟩
        refine ⟨_, rfl, ?_⟩
        simp_arith []
        refine wp_mono (run_spec P hgl hg hfu) ?_
        rintro _ S13 ⟨s2, rfl, g2, l2, k13⟩
        have B13 : Box b q S13 := B12.keep k13 (by simp) (by simp)
        have g13 : S13[fl]? = some (.lst [.int f1, .int f2]) := k13.at g12 (by simp)
        have gs13 := k13.at gs12 (by simp)
        have n1 : s2 ≠ fl := by have := lt_of_get g12; omega
        have n2 : s2 ≠ s1 := by have := lt_of_get gs12; omega
        have n3 : s2 ≠ b ∧ s2 ≠ q := by have := B12.lt; omega
        simp_arith []
        refine wp_mono (tell_alike g2 gs13 (by omega)) ?_
        rintro _ S14 ⟨rfl, rfl⟩
        unfold tellD
        simp_arith [at0, isL_lst g2, wrOf_lst g2, List.length_map]
        refine ⟨by unfold LIM; omega, ⟨_, _, _, rfl⟩, B13.keep (W := [s2]) (.set (by simp)) (by simp; omega) (by simp; omega), get_ne g13 n1, get_ne gs13 n2⟩
      · rintro ρ S' ⟨⟨c2, c7, c8, rfl⟩, B', g', -⟩
        exact ⟨⟨_, _, _, _, _, rfl⟩, B', g'⟩
    · rintro ρ S' ⟨⟨c2, c5, c6, c7, c8, rfl⟩, B', -⟩
      exact ⟨⟨_, _, _, _, _, _, _, rfl⟩, B'⟩
  · rintro ρ S' ⟨⟨c2, c3, c4, c5, c6, c7, c8, rfl⟩, B'⟩
    simp_arith []
end PG
namespace Gk04
open PF PG
theorem law_holds : ∀ ns : List Int, ns.length ≤ 63 → ∃ S', f_law [.ref 0] [.rol (ns.map D.int)] = .ok (.bl true) S' := fun ns h => by
  obtain ⟨d, S', e, rfl⟩ := law_wp ns h
  exact ⟨S', e⟩
end Gk04
end
section
set_option Elab.async false
set_option linter.all false
set_option maxRecDepth 100003
set_option maxHeartbeats 4000003
set_option autoImplicit false
/-! printed by gen.py: derivations of law k04 -/
namespace Gk04
open PySem L2 PF PG
def top (i : Nat) : Stmt := PySem.Challenge.pw_boxwitness_k04_runs_by_names.main.body.getD i (.Pass ⟨0, 0, 0, 0⟩)
theorem kz_put : strOf z_put = ("put" : Str) := by decide +kernel
theorem kz_copy : strOf z_copy = ("copy" : Str) := by decide +kernel
theorem kz_less : strOf z_less = ("less" : Str) := by decide +kernel
theorem kz_take : strOf z_take = ("take" : Str) := by decide +kernel
theorem kz_add : strOf z_add = ("add" : Str) := by decide +kernel
theorem kz_call : strOf z_call = ("call" : Str) := by decide +kernel
theorem kz_say : strOf z_say = ("say" : Str) := by decide +kernel
theorem kz_if : strOf z_if = ("if" : Str) := by decide +kernel
theorem kz_end : strOf z_end = ("end" : Str) := by decide +kernel
theorem kz_go : strOf z_go = ("go" : Str) := by decide +kernel
theorem kz_long : strOf z_long = ("long" : Str) := by decide +kernel
theorem kz_d : strOf z_d = ("d" : Str) := by decide +kernel
theorem kz_a : strOf z_a = ("a" : Str) := by decide +kernel
theorem kz_n : strOf z_n = ("n" : Str) := by decide +kernel
theorem kz_r : strOf z_r = ("r" : Str) := by decide +kernel
theorem kz_dn : strOf z_dn = ("dn" : Str) := by decide +kernel
theorem kz_da : strOf z_da = ("da" : Str) := by decide +kernel
theorem kz_daa : strOf z_daa = ("daa" : Str) := by decide +kernel
theorem kz_ar : strOf z_ar = ("ar" : Str) := by decide +kernel
theorem kz_empty : strOf z_empty = ("" : Str) := by decide +kernel
def nms : List Str := ["rows", "at", "said", "done"]
def nm : Nm := nmOf ["Run"] nms (by decide +kernel) (by decide +kernel)
theorem nm_go : ∀ f, nm.fld f ≠ "go" := fldOf_ne (by decide +kernel) (by decide +kernel)
theorem nm_is_over : ∀ f, nm.fld f ≠ "is_over" := fldOf_ne (by decide +kernel) (by decide +kernel)
theorem nm_told : ∀ f, nm.fld f ≠ "told" := fldOf_ne (by decide +kernel) (by decide +kernel)
theorem dbg_CALL : (("CALL" : Str) == ("__debug__" : Str)) = false := by decide +kernel
theorem dbg_COPY : (("COPY" : Str) == ("__debug__" : Str)) = false := by decide +kernel
theorem dbg_END : (("END" : Str) == ("__debug__" : Str)) = false := by decide +kernel
theorem dbg_GO : (("GO" : Str) == ("__debug__" : Str)) = false := by decide +kernel
theorem dbg_IF : (("IF" : Str) == ("__debug__" : Str)) = false := by decide +kernel
theorem dbg_LONG : (("LONG" : Str) == ("__debug__" : Str)) = false := by decide +kernel
theorem dbg_MOST_FUEL : (("MOST_FUEL" : Str) == ("__debug__" : Str)) = false := by decide +kernel
theorem dbg_MOST_NAMES : (("MOST_NAMES" : Str) == ("__debug__" : Str)) = false := by decide +kernel
theorem dbg_MOST_ROWS : (("MOST_ROWS" : Str) == ("__debug__" : Str)) = false := by decide +kernel
theorem dbg_OVER : (("OVER" : Str) == ("__debug__" : Str)) = false := by decide +kernel
theorem dbg_PUT : (("PUT" : Str) == ("__debug__" : Str)) = false := by decide +kernel
theorem dbg_RING : (("RING" : Str) == ("__debug__" : Str)) = false := by decide +kernel
theorem dbg_Run : (("Run" : Str) == ("__debug__" : Str)) = false := by decide +kernel
theorem dbg_SAY : (("SAY" : Str) == ("__debug__" : Str)) = false := by decide +kernel
theorem dbg_SHAPES : (("SHAPES" : Str) == ("__debug__" : Str)) = false := by decide +kernel
theorem dbg__law_alike : (("_law_alike" : Str) == ("__debug__" : Str)) = false := by decide +kernel
theorem dbg__law_begun : (("_law_begun" : Str) == ("__debug__" : Str)) = false := by decide +kernel
theorem dbg__law_program : (("_law_program" : Str) == ("__debug__" : Str)) = false := by decide +kernel
theorem dbg__law_row : (("_law_row" : Str) == ("__debug__" : Str)) = false := by decide +kernel
theorem dbg__law_run : (("_law_run" : Str) == ("__debug__" : Str)) = false := by decide +kernel
theorem dbg__law_take : (("_law_take" : Str) == ("__debug__" : Str)) = false := by decide +kernel
theorem dbg_called : (("called" : Str) == ("__debug__" : Str)) = false := by decide +kernel
theorem dbg_is_number : (("is_number" : Str) == ("__debug__" : Str)) = false := by decide +kernel
theorem dbg_is_row : (("is_row" : Str) == ("__debug__" : Str)) = false := by decide +kernel
theorem dbg_law : (("law" : Str) == ("__debug__" : Str)) = false := by decide +kernel
theorem dbg_makes : (("makes" : Str) == ("__debug__" : Str)) = false := by decide +kernel
theorem dbg_need_fuel : (("need_fuel" : Str) == ("__debug__" : Str)) = false := by decide +kernel
theorem dbg_need_given : (("need_given" : Str) == ("__debug__" : Str)) = false := by decide +kernel
theorem dbg_need_program : (("need_program" : Str) == ("__debug__" : Str)) = false := by decide +kernel
theorem dbg_reckoned : (("reckoned" : Str) == ("__debug__" : Str)) = false := by decide +kernel
theorem dbg_run : (("run" : Str) == ("__debug__" : Str)) = false := by decide +kernel
theorem dbg_told_by : (("told_by" : Str) == ("__debug__" : Str)) = false := by decide +kernel
structure Txt (w : World) (K : PySem.W.Frag) (mg : Str → Option Value) (C_Run : Addr) : Prop where
  m_bool : mg "bool" = none
  m_dict : mg "dict" = none
  m_enumerate : mg "enumerate" = none
  m_int : mg "int" = none
  m_isinstance : mg "isinstance" = none
  m_len : mg "len" = none
  m_list : mg "list" = none
  m_min : mg "min" = none
  m_range : mg "range" = none
  m_str : mg "str" = none
  m_tuple : mg "tuple" = none
  m_CALL : GlS mg "CALL" z_call
  m_COPY : GlS mg "COPY" z_copy
  m_END : GlS mg "END" z_end
  m_GO : GlS mg "GO" z_go
  m_IF : GlS mg "IF" z_if
  m_LONG : GlT K mg "LONG" [.str z_long]
  m_MOST_FUEL : GlI mg "MOST_FUEL" 1000
  m_MOST_NAMES : GlI mg "MOST_NAMES" 8
  m_MOST_ROWS : GlI mg "MOST_ROWS" 24
  m_OVER : GlT K mg "OVER" [.str z_end]
  m_PUT : GlS mg "PUT" z_put
  m_RING : GlI mg "RING" 1000
  m_SAY : GlS mg "SAY" z_say
  m_SHAPES : GlD K w mg "SHAPES" t_SHAPES
  k_Run : ClsOk nm K mg 0 C_Run [0, 1, 2, 3]
section
variable {P : Program} {w : World} {K : PySem.W.Frag} {mg : Str → Option Value} {base : Heap} { C_Run : Addr}
abbrev s__law_begun : Stmt := (top 33)
theorem sc__law_begun : FnScope ["_law_script", "_law_stirred", "_law_cell"] ["_law_script"] (defScope s__law_begun) := ⟨rfl, rfl, rfl, by decide +kernel, rfl, by decide +kernel, by decide +kernel⟩
theorem nd__law_begun : (["_law_script", "_law_stirred", "_law_cell"] : List Str).all ndbg = true := by decide +kernel
theorem d__law_begun (T : Txt w K mg C_Run) {f : Addr} {fd : FuncData} (F : Fun K "_law_begun" "_law_begun" s__law_begun f fd) : FnOk P w K mg base CX0 1 f fd ["_law_script"] (spF nm K mg 1 f__law_begun) :=
  fn_ok F sc__law_begun fun cdv A outer s H E hr =>
    have nds : (["_law_script", "_law_stirred", "_law_cell"] : List Str).Nodup := sc__law_begun.nd
    have nd := nd__law_begun
    pxss_cons (pxs_set nds rfl (.inl rfl) (px_int) rfl (.inr rfl))
    (pxss_cons (pxs_for PassesOwn.never rfl (pxi_seq (wv nd rfl (.inl rfl))) (pg_name nds rfl (.inl rfl) (.inr rfl)) (gok_name 2) (pxss_one (pxs_set nds rfl (.inl rfl) (px_op op_mod op2_mod (px_op op_addA op2_add (px_op op_addA op2_add (px_op op_mulA op2_mul (wv nd rfl (.inl rfl)) (px_int)) (px_op op_mulA op2_mul (px_op op_mod op2_mod (wv nd rfl (.inl rfl)) (px_int)) (px_int))) (px_int)) (px_int)) rfl (.inr rfl))) (fun _ => rfl))
    (pxss_one (pxs_ret (px_lst (pxa_cons (wd_list rfl T.m_list (pxa_cons (wv nd rfl (.inl rfl)) (pxa_nil) rfl) rfl rfl) (pxa_cons (px_op op_mulA op2_mul (wv nd rfl (.inl rfl)) (wd_int rfl T.m_int (pxa_cons (px_cmp op_gt op2_cmp (wd_len rfl T.m_len (pxa_cons (wv nd rfl (.inl rfl)) (pxa_nil) rfl) rfl rfl) (px_int) rfl) (pxa_nil) rfl) rfl rfl)) (pxa_nil) rfl) rfl) (by decide) (len_cons (len_cons (len_nil)))))))
abbrev s__law_take : Stmt := (top 34)
theorem sc__law_take : FnScope ["_law_box", "_law_many", "_law_number"] ["_law_box", "_law_many"] (defScope s__law_take) := ⟨rfl, rfl, rfl, by decide +kernel, rfl, by decide +kernel, by decide +kernel⟩
theorem nd__law_take : (["_law_box", "_law_many", "_law_number"] : List Str).all ndbg = true := by decide +kernel
theorem d__law_take (T : Txt w K mg C_Run) {f : Addr} {fd : FuncData} (F : Fun K "_law_take" "_law_take" s__law_take f fd) : FnOk P w K mg base CX0 1 f fd ["_law_box", "_law_many"] (spF nm K mg 2 f__law_take) :=
  fn_ok F sc__law_take fun cdv A outer s H E hr =>
    have nds : (["_law_box", "_law_many", "_law_number"] : List Str).Nodup := sc__law_take.nd
    have nd := nd__law_take
    pxss_cons (pxs_if (pxt_cmp (op_eqA (hu64 hr)) op2_eq (px_ix (wv nd rfl (.inl rfl)) (px_int) (fun _ _ => rfl)) (px_lst (pxa_nil) (by decide) (len_nil)) rfl) (pxss_cons (pxs_sub (wv nd rfl (.inl rfl)) (px_int) (px_op op_mod op2_mod (px_op op_mulA op2_mul (px_ix (wv nd rfl (.inl rfl)) (px_int) (fun _ _ => rfl)) (px_int)) (px_int)) (fun _ => rfl) rfl rfl rfl)
    (pxss_one (pxs_ret (px_op op_mod op2_mod (px_op op_fdiv op2_fdiv (px_ix (wv nd rfl (.inl rfl)) (px_int) (fun _ _ => rfl)) (px_int)) (wv nd rfl (.inl rfl)))))) (pxss_nil))
    (pxss_cons (pxs_set nds rfl (.inl rfl) (px_ix (px_ix (wv nd rfl (.inl rfl)) (px_int) (fun _ _ => rfl)) (px_int) (fun _ _ => rfl)) rfl (.inr rfl))
    (pxss_cons (pxs_sub (px_ix (wv nd rfl (.inl rfl)) (px_int) (fun _ _ => rfl)) (px_int) (px_op op_fdiv op2_fdiv (wv nd rfl (.inl rfl)) (wv nd rfl (.inl rfl))) (fun _ => rfl) rfl rfl rfl)
    (pxss_cons (pxs_if (pxt_w (pxw_or (pxt_cmp (op_eqA (hu64 hr)) op2_eq (px_ix (px_ix (wv nd rfl (.inl rfl)) (px_int) (fun _ _ => rfl)) (px_int) (fun _ _ => rfl)) (px_int) rfl) (pxw_or1 (pxt_cmp (op_eqA (hu64 hr)) op2_eq (px_ix (px_ix (wv nd rfl (.inl rfl)) (px_int) (fun _ _ => rfl)) (px_int) (fun _ _ => rfl)) (px_neg (px_int)) rfl)))) (pxss_one (pxs_expr (wd_pop (px_ix (wv nd rfl (.inl rfl)) (px_int) (fun _ _ => rfl)) (px_int) rfl rfl rfl rfl rfl) rfl)) (pxss_nil))
    (pxss_one (pxs_ret (px_op op_mod op2_mod (wv nd rfl (.inl rfl)) (wv nd rfl (.inl rfl))))))))
abbrev s__law_row : Stmt := (top 36)
theorem sc__law_row : FnScope ["_law_box", "_law_names", "_law_many", "_law_at", "_law_way", "_law_name", "_law_one", "_law_other", "_law_goal"] ["_law_box", "_law_names", "_law_many", "_law_at"] (defScope s__law_row) := ⟨rfl, rfl, rfl, by decide +kernel, rfl, by decide +kernel, by decide +kernel⟩
theorem nd__law_row : (["_law_box", "_law_names", "_law_many", "_law_at", "_law_way", "_law_name", "_law_one", "_law_other", "_law_goal"] : List Str).all ndbg = true := by decide +kernel
theorem d__law_row (T : Txt w K mg C_Run) (C__law_take : Cal nm P w K mg base 1 "_law_take" ["_law_box", "_law_many"] f__law_take) {f : Addr} {fd : FuncData} (F : Fun K "_law_row" "_law_row" s__law_row f fd) : FnOk P w K mg base CX0 2 f fd ["_law_box", "_law_names", "_law_many", "_law_at"] (spF nm K mg 4 f__law_row) :=
  fn_ok F sc__law_row fun cdv A outer s H E hr =>
    have nds : (["_law_box", "_law_names", "_law_many", "_law_at", "_law_way", "_law_name", "_law_one", "_law_other", "_law_goal"] : List Str).Nodup := sc__law_row.nd
    have nd := nd__law_row
    pxss_cons (pxs_set nds rfl (.inl rfl) (wd_call C__law_take (alen_cons (alen_cons (alen_nil))) (hr.mono (by decide)) rfl (pxa_cons (wv nd rfl (.inl rfl)) (pxa_cons (px_int) (pxa_nil) rfl) rfl) dbg__law_take rfl rfl) rfl (.inr rfl))
    (pxss_cons (pxs_par3 rfl nds rfl rfl rfl  (by decide) (by decide) (by decide)  rfl rfl rfl  (pxa_cons (wd_call C__law_take (alen_cons (alen_cons (alen_nil))) (hr.mono (by decide)) rfl (pxa_cons (wv nd rfl (.inl rfl)) (pxa_cons (wv nd rfl (.inl rfl)) (pxa_nil) rfl) rfl) dbg__law_take rfl rfl) (pxa_cons (wd_call C__law_take (alen_cons (alen_cons (alen_nil))) (hr.mono (by decide)) rfl (pxa_cons (wv nd rfl (.inl rfl)) (pxa_cons (wv nd rfl (.inl rfl)) (pxa_nil) rfl) rfl) dbg__law_take rfl rfl) (pxa_cons (wd_call C__law_take (alen_cons (alen_cons (alen_nil))) (hr.mono (by decide)) rfl (pxa_cons (wv nd rfl (.inl rfl)) (pxa_cons (wv nd rfl (.inl rfl)) (pxa_nil) rfl) rfl) dbg__law_take rfl rfl) (pxa_nil) rfl) rfl) rfl) rfl rfl)
    (pxss_cons (pxs_if (pxt_cmp op_lt op2_cmp (wv nd rfl (.inl rfl)) (px_int) rfl) (pxss_one (pxs_ret (px_tup (pxa_cons (px_str kz_put) (pxa_cons (wv nd rfl (.inl rfl)) (pxa_cons (px_ix (px_lst (pxa_cons (wd_call C__law_take (alen_cons (alen_cons (alen_nil))) (hr.mono (by decide)) rfl (pxa_cons (wv nd rfl (.inl rfl)) (pxa_cons (px_int) (pxa_nil) rfl) rfl) dbg__law_take rfl rfl) (pxa_cons (wd_call C__law_take (alen_cons (alen_cons (alen_nil))) (hr.mono (by decide)) rfl (pxa_cons (wv nd rfl (.inl rfl)) (pxa_cons (px_int) (pxa_nil) rfl) rfl) dbg__law_take rfl rfl) (pxa_nil) rfl) rfl) (by decide) (len_cons (len_cons (len_nil)))) (wd_call C__law_take (alen_cons (alen_cons (alen_nil))) (hr.mono (by decide)) rfl (pxa_cons (wv nd rfl (.inl rfl)) (pxa_cons (px_int) (pxa_nil) rfl) rfl) dbg__law_take rfl rfl) (fun _ _ => rfl)) (pxa_nil) rfl) rfl) rfl) (by decide) (len_cons (len_cons (len_cons (len_nil))))))) (pxss_nil))
    (pxss_cons (pxs_if (pxt_cmp op_lt op2_cmp (wv nd rfl (.inl rfl)) (px_int) rfl) (pxss_one (pxs_ret (px_tup (pxa_cons (px_str kz_copy) (pxa_cons (wv nd rfl (.inl rfl)) (pxa_cons (wv nd rfl (.inl rfl)) (pxa_nil) rfl) rfl) rfl) (by decide) (len_cons (len_cons (len_cons (len_nil))))))) (pxss_nil))
    (pxss_cons (pxs_if (pxt_cmp op_lt op2_cmp (wv nd rfl (.inl rfl)) (px_int) rfl) (pxss_one (pxs_ret (px_tup (pxa_cons (px_ix (px_lst (pxa_cons (px_str kz_add) (pxa_cons (px_str kz_take) (pxa_cons (px_str kz_less) (pxa_nil) rfl) rfl) rfl) (by decide) (len_cons (len_cons (len_cons (len_nil))))) (px_op op_sub op2_sub (wv nd rfl (.inl rfl)) (px_int)) (fun _ _ => rfl)) (pxa_cons (wv nd rfl (.inl rfl)) (pxa_cons (wv nd rfl (.inl rfl)) (pxa_cons (wv nd rfl (.inl rfl)) (pxa_nil) rfl) rfl) rfl) rfl) (by decide) (len_cons (len_cons (len_cons (len_cons (len_nil)))))))) (pxss_nil))
    (pxss_cons (pxs_if (pxt_cmp op_lt op2_cmp (wv nd rfl (.inl rfl)) (px_int) rfl) (pxss_one (pxs_ret (px_tup (pxa_cons (px_str kz_call) (pxa_cons (wv nd rfl (.inl rfl)) (pxa_cons (wv nd rfl (.inl rfl)) (pxa_nil) rfl) rfl) rfl) (by decide) (len_cons (len_cons (len_cons (len_nil))))))) (pxss_nil))
    (pxss_cons (pxs_if (pxt_cmp op_lt op2_cmp (wv nd rfl (.inl rfl)) (px_int) rfl) (pxss_one (pxs_ret (px_tup (pxa_cons (px_str kz_say) (pxa_cons (wv nd rfl (.inl rfl)) (pxa_nil) rfl) rfl) (by decide) (len_cons (len_cons (len_nil)))))) (pxss_nil))
    (pxss_cons (pxs_set nds rfl (.inl rfl) (wd_call C__law_take (alen_cons (alen_cons (alen_nil))) (hr.mono (by decide)) rfl (pxa_cons (wv nd rfl (.inl rfl)) (pxa_cons (wv nd rfl (.inl rfl)) (pxa_nil) rfl) rfl) dbg__law_take rfl rfl) rfl (.inr rfl))
    (pxss_cons (pxs_if (pxt_cmp op_lt op2_cmp (wv nd rfl (.inl rfl)) (px_int) rfl) (pxss_one (pxs_ret (px_tup (pxa_cons (px_str kz_if) (pxa_cons (wv nd rfl (.inl rfl)) (pxa_cons (px_ix (px_lst (pxa_cons (wv nd rfl (.inl rfl)) (pxa_cons (wd_min rfl rfl T.m_min (pxa_cons (px_op op_sub op2_sub (wv nd rfl (.inl rfl)) (px_int)) (pxa_cons (px_op op_addA op2_add (px_op op_addA op2_add (wv nd rfl (.inl rfl)) (px_int)) (px_op op_mod op2_mod (wv nd rfl (.inl rfl)) (px_int))) (pxa_nil) rfl) rfl) rfl rfl) (pxa_nil) rfl) rfl) (by decide) (len_cons (len_cons (len_nil)))) (wd_call C__law_take (alen_cons (alen_cons (alen_nil))) (hr.mono (by decide)) rfl (pxa_cons (wv nd rfl (.inl rfl)) (pxa_cons (px_int) (pxa_nil) rfl) rfl) dbg__law_take rfl rfl) (fun _ _ => rfl)) (pxa_nil) rfl) rfl) rfl) (by decide) (len_cons (len_cons (len_cons (len_nil))))))) (pxss_nil))
    (pxss_one (pxs_ret (px_ix (px_lst (pxa_cons (px_tup (pxa_cons (px_str kz_go) (pxa_cons (wd_min rfl rfl T.m_min (pxa_cons (px_op op_sub op2_sub (wv nd rfl (.inl rfl)) (px_int)) (pxa_cons (px_op op_addA op2_add (px_op op_addA op2_add (wv nd rfl (.inl rfl)) (px_int)) (px_op op_mod op2_mod (wv nd rfl (.inl rfl)) (px_int))) (pxa_nil) rfl) rfl) rfl rfl) (pxa_nil) rfl) rfl) (by decide) (len_cons (len_cons (len_nil)))) (pxa_cons (px_tup (pxa_cons (px_str kz_go) (pxa_cons (wv nd rfl (.inl rfl)) (pxa_nil) rfl) rfl) (by decide) (len_cons (len_cons (len_nil)))) (pxa_cons (px_tup (pxa_cons (px_str kz_end) (pxa_nil) rfl) (by decide) (len_cons (len_nil))) (pxa_nil) rfl) rfl) rfl) (by decide) (len_cons (len_cons (len_cons (len_nil))))) (wd_call C__law_take (alen_cons (alen_cons (alen_nil))) (hr.mono (by decide)) rfl (pxa_cons (wv nd rfl (.inl rfl)) (pxa_cons (px_int) (pxa_nil) rfl) rfl) dbg__law_take rfl rfl) (fun _ _ => rfl))))))))))))
abbrev s__law_program : Stmt := (top 37)
theorem sc__law_program : FnScope ["_law_box", "_law_most", "_law_names", "_law_params", "_law_many", "_law_at"] ["_law_box", "_law_most"] (defScope s__law_program) := ⟨rfl, rfl, rfl, by decide +kernel, rfl, by decide +kernel, by decide +kernel⟩
theorem nd__law_program : (["_law_box", "_law_most", "_law_names", "_law_params", "_law_many", "_law_at"] : List Str).all ndbg = true := by decide +kernel
theorem d__law_program (T : Txt w K mg C_Run) (C__law_take : Cal nm P w K mg base 1 "_law_take" ["_law_box", "_law_many"] f__law_take) (C__law_row : Cal nm P w K mg base 2 "_law_row" ["_law_box", "_law_names", "_law_many", "_law_at"] f__law_row) {f : Addr} {fd : FuncData} (F : Fun K "_law_program" "_law_program" s__law_program f fd) : FnOk P w K mg base CX0 3 f fd ["_law_box", "_law_most"] (spF nm K mg 2 f__law_program) :=
  fn_ok F sc__law_program fun cdv A outer s H E hr =>
    have nds : (["_law_box", "_law_most", "_law_names", "_law_params", "_law_many", "_law_at"] : List Str).Nodup := sc__law_program.nd
    have nd := nd__law_program
    pxss_cons (pxs_set nds rfl (.inr rfl) (px_op op_addA op2_add (px_int) (wd_call C__law_take (alen_cons (alen_cons (alen_nil))) (hr.mono (by decide)) rfl (pxa_cons (wv nd rfl (.inr (.inl rfl))) (pxa_cons (px_ix (px_lst (pxa_cons (px_int) (pxa_cons (px_int) (pxa_cons (px_int) (pxa_nil) rfl) rfl) rfl) (by decide) (len_cons (len_cons (len_cons (len_nil))))) (wd_call C__law_take (alen_cons (alen_cons (alen_nil))) (hr.mono (by decide)) rfl (pxa_cons (wv nd rfl (.inr (.inl rfl))) (pxa_cons (px_int) (pxa_nil) rfl) rfl) dbg__law_take rfl rfl) (fun _ _ => rfl)) (pxa_nil) rfl) rfl) dbg__law_take rfl rfl)) rfl (.inl rfl))
    (pxss_cons (pxs_set nds rfl (.inl rfl) (px_ix (px_lst (pxa_cons (wv nd rfl (.inr (.inl rfl))) (pxa_cons (wd_call C__law_take (alen_cons (alen_cons (alen_nil))) (hr.mono (by decide)) rfl (pxa_cons (wv nd rfl (.inr (.inl rfl))) (pxa_cons (px_op op_addA op2_add (wv nd rfl (.inr (.inl rfl))) (px_int)) (pxa_nil) rfl) rfl) dbg__law_take rfl rfl) (pxa_nil) rfl) rfl) (by decide) (len_cons (len_cons (len_nil)))) (wd_call C__law_take (alen_cons (alen_cons (alen_nil))) (hr.mono (by decide)) rfl (pxa_cons (wv nd rfl (.inr (.inl rfl))) (pxa_cons (px_int) (pxa_nil) rfl) rfl) dbg__law_take rfl rfl) (fun _ _ => rfl)) rfl (.inr rfl))
    (pxss_cons (pxs_set nds rfl (.inr rfl) (px_op op_addA op2_add (px_int) (wd_call C__law_take (alen_cons (alen_cons (alen_nil))) (hr.mono (by decide)) rfl (pxa_cons (wv nd rfl (.inr (.inl rfl))) (pxa_cons (px_ix (px_lst (pxa_cons (wv nd rfl (.inl rfl)) (pxa_cons (wd_min rfl rfl T.m_min (pxa_cons (wv nd rfl (.inl rfl)) (pxa_cons (px_int) (pxa_nil) rfl) rfl) rfl rfl) (pxa_nil) rfl) rfl) (by decide) (len_cons (len_cons (len_nil)))) (wd_call C__law_take (alen_cons (alen_cons (alen_nil))) (hr.mono (by decide)) rfl (pxa_cons (wv nd rfl (.inr (.inl rfl))) (pxa_cons (px_int) (pxa_nil) rfl) rfl) dbg__law_take rfl rfl) (fun _ _ => rfl)) (pxa_nil) rfl) rfl) dbg__law_take rfl rfl)) rfl (.inl rfl))
    (pxss_one (pxs_ret (px_tup (pxa_cons (wv nd rfl (.inl rfl)) (pxa_cons (wv nd rfl (.inr (.inl rfl))) (pxa_cons (wd_tuple rfl T.m_tuple (pxa_cons (px_lc rfl nds (own := [("_law_at", 5)]) (pxi_range1 rfl T.m_range (wv nd rfl (.inr (.inl rfl))) rfl) (blkOk_by (by kernel_rfl)) (by decide) (gok_name 5) (fun _ _ _ _ _ => pg_name nds rfl (.inl rfl) (.inr rfl)) (fun _ _ _ _ _ => pxts_nil) (fun _ _ _ _ _ => wd_call C__law_row (alen_cons (alen_cons (alen_cons (alen_cons (alen_nil))))) (hr.mono (by decide)) rfl (pxa_cons (wv nd rfl (.inr (.inl rfl))) (pxa_cons (wv nd rfl (.inr (.inl rfl))) (pxa_cons (wv nd rfl (.inr (.inl rfl))) (pxa_cons (wv nd rfl (.inl rfl)) (pxa_nil) rfl) rfl) rfl) rfl) dbg__law_row rfl rfl) (fun _ => rfl)) (pxa_nil) rfl) rfl rfl) (pxa_nil) rfl) rfl) rfl) (by decide) (len_cons (len_cons (len_cons (len_nil)))))))))
abbrev s__law_run : Stmt := (top 43)
theorem sc__law_run : FnScope ["_law_program_here", "_law_given", "_law_fuel", "_law_has", "_law_said", "_law_at", "_law_done", "_law_row_here", "_law_some", "_law_name", "_law_part", "_law_k"] ["_law_program_here", "_law_given", "_law_fuel"] (defScope s__law_run) := ⟨rfl, rfl, rfl, by decide +kernel, rfl, by decide +kernel, by decide +kernel⟩
theorem nd__law_run : (["_law_program_here", "_law_given", "_law_fuel", "_law_has", "_law_said", "_law_at", "_law_done", "_law_row_here", "_law_some", "_law_name", "_law_part", "_law_k"] : List Str).all ndbg = true := by decide +kernel
theorem d__law_run (T : Txt w K mg C_Run) {f : Addr} {fd : FuncData} (F : Fun K "_law_run" "_law_run" s__law_run f fd) : FnOk P w K mg base CX0 1 f fd ["_law_program_here", "_law_given", "_law_fuel"] (spF nm K mg 3 f__law_run) :=
  fn_ok F sc__law_run fun cdv A outer s H E hr =>
    have nds : (["_law_program_here", "_law_given", "_law_fuel", "_law_has", "_law_said", "_law_at", "_law_done", "_law_row_here", "_law_some", "_law_name", "_law_part", "_law_k"] : List Str).Nodup := sc__law_run.nd
    have nd := nd__law_run
    pxss_cons (pxs_set nds rfl (.inr rfl) (wd_dict rfl rfl T.m_dict (pxa_cons (px_lc rfl nds (own := [("_law_name", 9)]) (pxi_range1 rfl T.m_range (px_ix (wv nd rfl (.inl rfl)) (px_int) (fun _ _ => rfl)) rfl) (blkOk_by (by kernel_rfl)) (by decide) (gok_name 9) (fun _ _ _ _ _ => pg_name nds rfl (.inl rfl) (.inr rfl)) (fun _ _ _ _ _ => pxts_nil) (fun _ _ _ _ _ => px_tup (pxa_cons (wv nd rfl (.inl rfl)) (pxa_cons (px_int) (pxa_nil) rfl) rfl) (by decide) (len_cons (len_cons (len_nil)))) (fun _ => rfl)) (pxa_nil) rfl) rfl rfl) rfl (.inl rfl))
    (pxss_cons (pxs_expr (px_upd (wv nd rfl (.inr (.inl rfl))) (wd_dict rfl rfl T.m_dict (pxa_cons (px_lc rfl nds (own := [("_law_k", 11)]) (pxi_range1 rfl T.m_range (wd_len rfl T.m_len (pxa_cons (wv nd rfl (.inr (.inl rfl))) (pxa_nil) rfl) rfl rfl) rfl) (blkOk_by (by kernel_rfl)) (by decide) (gok_name 11) (fun _ _ _ _ _ => pg_name nds rfl (.inl rfl) (.inr rfl)) (fun _ _ _ _ _ => pxts_nil) (fun _ _ _ _ _ => px_tup (pxa_cons (wv nd rfl (.inl rfl)) (pxa_cons (px_ix (wv nd rfl (.inr (.inl rfl))) (wv nd rfl (.inl rfl)) (fun _ _ => rfl)) (pxa_nil) rfl) rfl) (by decide) (len_cons (len_cons (len_nil)))) (fun _ => rfl)) (pxa_nil) rfl) rfl rfl) ⟨rfl, rfl, rfl, rfl⟩) rfl)
    (pxss_cons (pxs_par3 rfl nds rfl rfl rfl  (by decide) (by decide) (by decide)  rfl rfl rfl  (pxa_cons (px_lst (pxa_nil) (by decide) (len_nil)) (pxa_cons (px_int) (pxa_cons (px_int) (pxa_nil) rfl) rfl) rfl) rfl rfl)
    (pxss_cons (pxs_while PassesOwn.never (pxt_w (pxw_and (pxt_cmp op_lt op2_cmp (wv nd rfl (.inl rfl)) (wd_len rfl T.m_len (pxa_cons (px_ix (wv nd rfl (.inl rfl)) (px_int) (fun _ _ => rfl)) (pxa_nil) rfl) rfl rfl) rfl) (pxw_and1 (pxt_cmp (op_neA (hu64 hr)) op2_ne (px_ix (px_ix (px_ix (wv nd rfl (.inl rfl)) (px_int) (fun _ _ => rfl)) (wv nd rfl (.inl rfl)) (fun _ _ => rfl)) (px_int) (fun _ _ => rfl)) (px_str kz_end) rfl)))) (pxss_cons (pxs_if (pxt_cmp (op_eqA (hu64 hr)) op2_eq (wv nd rfl (.inl rfl)) (wv nd rfl (.inl rfl)) rfl) (pxss_one (pxs_ret (px_tup (pxa_cons (wv nd rfl (.inl rfl)) (pxa_cons (px_tup (pxa_cons (px_str kz_long) (pxa_nil) rfl) (by decide) (len_cons (len_nil))) (pxa_cons (wv nd rfl (.inl rfl)) (pxa_nil) rfl) rfl) rfl) (by decide) (len_cons (len_cons (len_cons (len_nil))))))) (pxss_nil))
    (pxss_cons (pxs_par3 rfl nds rfl rfl rfl  (by decide) (by decide) (by decide)  rfl rfl rfl  (pxa_cons (px_ix (px_ix (wv nd rfl (.inl rfl)) (px_int) (fun _ _ => rfl)) (wv nd rfl (.inl rfl)) (fun _ _ => rfl)) (pxa_cons (px_op op_addA op2_add (wv nd rfl (.inl rfl)) (px_int)) (pxa_cons (px_op op_addA op2_add (wv nd rfl (.inl rfl)) (px_int)) (pxa_nil) rfl) rfl) rfl) rfl rfl)
    (pxss_cons (pxs_setLc rfl nds rfl rfl rfl (own := [("_law_part", 10)]) (pxi_seq (px_slice (wv nd rfl (.inl rfl)) (pxo_some (px_int)) (pxo_none))) (blkOk_by (by kernel_rfl)) (by decide) (gok_name 10) (fun _ _ _ _ _ => pg_name nds rfl (.inl rfl) (.inr rfl)) (fun _ _ _ _ _ => pxts_nil) (fun _ _ _ _ _ => px_get (hu1 hr) (wv nd rfl (.inr (.inl rfl))) (wv nd rfl (.inl rfl)) (px_int) ⟨rfl, rfl, rfl, rfl⟩) (fun _ => rfl))
    (pxss_one (pxs_if (pxt_cmp (op_eqA (hu64 hr)) op2_eq (px_ix (wv nd rfl (.inl rfl)) (px_int) (fun _ _ => rfl)) (px_str kz_put) rfl) (pxss_one (pxs_dct (hu1 hr) (wv nd rfl (.inr (.inl rfl))) (px_ix (wv nd rfl (.inl rfl)) (px_int) (fun _ _ => rfl)) (px_ix (wv nd rfl (.inl rfl)) (px_int) (fun _ _ => rfl)) rfl)) (pxss_one (pxs_if (pxt_cmp (op_eqA (hu64 hr)) op2_eq (px_ix (wv nd rfl (.inl rfl)) (px_int) (fun _ _ => rfl)) (px_str kz_copy) rfl) (pxss_one (pxs_dct (hu1 hr) (wv nd rfl (.inr (.inl rfl))) (px_ix (wv nd rfl (.inl rfl)) (px_int) (fun _ _ => rfl)) (px_ix (wv nd rfl (.inl rfl)) (px_int) (fun _ _ => rfl)) rfl)) (pxss_one (pxs_if (pxt_cmp (op_eqA (hu64 hr)) op2_eq (px_ix (wv nd rfl (.inl rfl)) (px_int) (fun _ _ => rfl)) (px_str kz_call) rfl) (pxss_one (pxs_dct (hu1 hr) (wv nd rfl (.inr (.inl rfl))) (px_ix (wv nd rfl (.inl rfl)) (px_int) (fun _ _ => rfl)) (px_op op_mod op2_mod (px_op op_addA op2_add (px_op op_addA op2_add (px_op op_mulA op2_mul (px_int) (px_op op_pow op2_pow (px_ix (wv nd rfl (.inl rfl)) (px_int) (fun _ _ => rfl)) (px_int))) (px_ix (wv nd rfl (.inl rfl)) (px_int) (fun _ _ => rfl))) (px_int)) (px_int)) rfl)) (pxss_one (pxs_if (pxt_cmp (op_eqA (hu64 hr)) op2_eq (px_ix (wv nd rfl (.inl rfl)) (px_int) (fun _ _ => rfl)) (px_str kz_less) rfl) (pxss_one (pxs_dct (hu1 hr) (wv nd rfl (.inr (.inl rfl))) (px_ix (wv nd rfl (.inl rfl)) (px_int) (fun _ _ => rfl)) (wd_int rfl T.m_int (pxa_cons (px_cmp op_lt op2_cmp (px_ix (wv nd rfl (.inl rfl)) (px_int) (fun _ _ => rfl)) (px_ix (wv nd rfl (.inl rfl)) (px_int) (fun _ _ => rfl)) rfl) (pxa_nil) rfl) rfl rfl) rfl)) (pxss_one (pxs_if (pxt_cmp (op_inA (hu65 hr)) op2_in (px_ix (wv nd rfl (.inl rfl)) (px_int) (fun _ _ => rfl)) (px_tup (pxa_cons (px_str kz_add) (pxa_cons (px_str kz_take) (pxa_nil) rfl) rfl) (by decide) (len_cons (len_cons (len_nil)))) rfl) (pxss_one (pxs_dct (hu1 hr) (wv nd rfl (.inr (.inl rfl))) (px_ix (wv nd rfl (.inl rfl)) (px_int) (fun _ _ => rfl)) (px_op op_mod op2_mod (px_op op_addA op2_add (px_ix (wv nd rfl (.inl rfl)) (px_int) (fun _ _ => rfl)) (px_op op_mulA op2_mul (px_ix (wv nd rfl (.inl rfl)) (px_int) (fun _ _ => rfl)) (px_ix (px_lst (pxa_cons (px_int) (pxa_cons (px_neg (px_int)) (pxa_nil) rfl) rfl) (by decide) (len_cons (len_cons (len_nil)))) (wd_int rfl T.m_int (pxa_cons (px_cmp (op_eqA (hu64 hr)) op2_eq (px_ix (wv nd rfl (.inl rfl)) (px_int) (fun _ _ => rfl)) (px_str kz_take) rfl) (pxa_nil) rfl) rfl rfl) (fun _ _ => rfl)))) (px_int)) rfl)) (pxss_one (pxs_if (pxt_cmp (op_eqA (hu64 hr)) op2_eq (px_ix (wv nd rfl (.inl rfl)) (px_int) (fun _ _ => rfl)) (px_str kz_say) rfl) (pxss_one (pxs_expr (wd_append (wv nd rfl (.inl rfl)) (px_dx (hu1 hr) (wv nd rfl (.inr (.inl rfl))) (px_ix (wv nd rfl (.inl rfl)) (px_int) (fun _ _ => rfl)) (fun _ _ => rfl)) rfl rfl rfl rfl rfl) rfl)) (pxss_one (pxs_if (pxt_w (pxw_or (pxt_cmp (op_eqA (hu64 hr)) op2_eq (px_ix (wv nd rfl (.inl rfl)) (px_int) (fun _ _ => rfl)) (px_str kz_go) rfl) (pxw_or1 (pxt_cmp (op_neA (hu64 hr)) op2_ne (px_dx (hu1 hr) (wv nd rfl (.inr (.inl rfl))) (px_ix (wv nd rfl (.inl rfl)) (px_int) (fun _ _ => rfl)) (fun _ _ => rfl)) (px_int) rfl)))) (pxss_one (pxs_set nds rfl (.inl rfl) (px_ix (wv nd rfl (.inl rfl)) (px_neg (px_int)) (fun _ _ => rfl)) rfl (.inr rfl))) (pxss_nil)))))))))))))))))))
    (pxss_one (pxs_ret (px_tup (pxa_cons (wv nd rfl (.inl rfl)) (pxa_cons (px_tup (pxa_cons (px_str kz_end) (pxa_nil) rfl) (by decide) (len_cons (len_nil))) (pxa_cons (wv nd rfl (.inl rfl)) (pxa_nil) rfl) rfl) rfl) (by decide) (len_cons (len_cons (len_cons (len_nil))))))))))
abbrev s_is_number : Stmt := (top 17)
theorem sc_is_number : FnScope ["part", "low", "high"] ["part", "low", "high"] (defScope s_is_number) := ⟨rfl, rfl, rfl, by decide +kernel, rfl, by decide +kernel, by decide +kernel⟩
theorem nd_is_number : (["part", "low", "high"] : List Str).all ndbg = true := by decide +kernel
theorem d_is_number (T : Txt w K mg C_Run) {f : Addr} {fd : FuncData} (F : Fun K "is_number" "is_number" s_is_number f fd) : FnOk P w K mg base CX0 1 f fd ["part", "low", "high"] (spF nm K mg 3 f_is_number) :=
  fn_ok F sc_is_number fun cdv A outer s H E hr =>
    have nds : (["part", "low", "high"] : List Str).Nodup := sc_is_number.nd
    have nd := nd_is_number
    pxss_one (pxs_ret (px_and (px_isi .int rfl (wv nd rfl (.inl rfl)) rfl T.m_isinstance rfl T.m_int rfl rfl rfl) (px_and (px_not (px_isi .bool rfl (wv nd rfl (.inl rfl)) rfl T.m_isinstance rfl T.m_bool rfl rfl rfl)) (px_one (px_chain op_le op2_cmp op_le op2_cmp (wv nd rfl (.inl rfl)) (wv nd rfl (.inl rfl)) (wv nd rfl (.inl rfl)) rfl)))))
abbrev s_is_row : Stmt := (top 18)
theorem sc_is_row : FnScope ["row", "names", "many", "shape", "most", "k"] ["row", "names", "many"] (defScope s_is_row) := ⟨rfl, rfl, rfl, by decide +kernel, rfl, by decide +kernel, by decide +kernel⟩
theorem nd_is_row : (["row", "names", "many", "shape", "most", "k"] : List Str).all ndbg = true := by decide +kernel
theorem d_is_row (T : Txt w K mg C_Run) (C_is_number : Cal nm P w K mg base 1 "is_number" ["part", "low", "high"] f_is_number) {f : Addr} {fd : FuncData} (F : Fun K "is_row" "is_row" s_is_row f fd) : FnOk P w K mg base CX0 2 f fd ["row", "names", "many"] (spF nm K mg 3 f_is_row) :=
  fn_ok F sc_is_row fun cdv A outer s H E hr =>
    have nds : (["row", "names", "many", "shape", "most", "k"] : List Str).Nodup := sc_is_row.nd
    have nd := nd_is_row
    pxss_cons (pxs_if (pxt_w (pxw_or (pxt_not (pxt_val (px_isi .tup rfl (wv nd rfl (.inr (.inl rfl))) rfl T.m_isinstance rfl T.m_tuple rfl rfl rfl) (fun _ => rfl))) (pxw_or (pxt_cmp (op_eqA (hu64 hr)) op2_eq (wd_len rfl T.m_len (pxa_cons (wv nd rfl (.inr (.inl rfl))) (pxa_nil) rfl) rfl rfl) (px_int) rfl) (pxw_or1 (pxt_not (pxt_val (px_isi .str rfl (px_ix (wv nd rfl (.inr (.inl rfl))) (px_int) (fun _ _ => rfl)) rfl T.m_isinstance rfl T.m_str rfl rfl rfl) (fun _ => rfl))))))) (pxss_one (pxs_ret (px_bl))) (pxss_nil))
    (pxss_cons (pxs_set nds rfl (.inr rfl) (wd_kget T.m_SHAPES rfl dbg_SHAPES (px_ix (wv nd rfl (.inr (.inl rfl))) (px_int) (fun _ _ => rfl)) (px_non) ⟨rfl, rfl, rfl, rfl⟩) rfl (.inl rfl))
    (pxss_cons (pxs_if (pxt_w (pxw_or (pxt_isN (wv nd rfl (.inr (.inl rfl)))) (pxw_or1 (pxt_cmp (op_neA (hu64 hr)) op2_ne (wd_len rfl T.m_len (pxa_cons (wv nd rfl (.inr (.inl rfl))) (pxa_nil) rfl) rfl rfl) (px_op op_addA op2_add (wd_len rfl T.m_len (pxa_cons (wv nd rfl (.inr (.inl rfl))) (pxa_nil) rfl) rfl rfl) (px_int)) rfl)))) (pxss_one (pxs_ret (px_bl))) (pxss_nil))
    (pxss_cons (pxs_set nds rfl (.inr rfl) (px_disp (pxp_cons (px_str kz_d) (px_op op_sub op2_sub (wv nd rfl (.inl rfl)) (px_int)) (pxp_cons (px_str kz_a) (px_op op_sub op2_sub (wv nd rfl (.inl rfl)) (px_int)) (pxp_cons (px_str kz_n) (px_op op_sub op2_sub (wd_globI T.m_RING rfl dbg_RING) (px_int)) (pxp_cons (px_str kz_r) (px_op op_sub op2_sub (wv nd rfl (.inl rfl)) (px_int)) (pxp_nil))))) rfl rfl (by simp) (by decide) (by decide)) rfl (.inl rfl))
    (pxss_one (pxs_ret (px_cmp (op_eqA (hu64 hr)) op2_eq (px_lc rfl nds (own := [("k", 5)]) (pxi_range1 rfl T.m_range (wd_len rfl T.m_len (pxa_cons (wv nd rfl (.inr (.inl rfl))) (pxa_nil) rfl) rfl rfl) rfl) (blkOk_by (by kernel_rfl)) (by decide) (gok_name 5) (fun _ _ _ _ _ => pg_name nds rfl (.inl rfl) (.inr rfl)) (fun _ _ _ _ _ => pxts_one (pxt_not (pxt_val (wd_call C_is_number (alen_cons (alen_cons (alen_cons (alen_nil)))) (hr.mono (by decide)) rfl (pxa_cons (px_ix (wv nd rfl (.inr (.inl rfl))) (px_op op_addA op2_add (wv nd rfl (.inl rfl)) (px_int)) (fun _ _ => rfl)) (pxa_cons (px_int) (pxa_cons (px_dx (hu1 hr) (wv nd rfl (.inr (.inl rfl))) (px_ix (wv nd rfl (.inr (.inl rfl))) (wv nd rfl (.inl rfl)) (fun _ _ => rfl)) (fun _ _ => rfl)) (pxa_nil) rfl) rfl) rfl) dbg_is_number rfl rfl) (fun _ => rfl)))) (fun _ _ _ _ _ => wv nd rfl (.inl rfl)) (fun _ => rfl)) (px_lst (pxa_nil) (by decide) (len_nil)) rfl))))))
abbrev s_need_program : Stmt := (top 19)
theorem sc_need_program : FnScope ["program", "params", "names", "rows", "number", "row"] ["program"] (defScope s_need_program) := ⟨rfl, rfl, rfl, by decide +kernel, rfl, by decide +kernel, by decide +kernel⟩
theorem nd_need_program : (["program", "params", "names", "rows", "number", "row"] : List Str).all ndbg = true := by decide +kernel
theorem d_need_program (T : Txt w K mg C_Run) (C_is_number : Cal nm P w K mg base 1 "is_number" ["part", "low", "high"] f_is_number) (C_is_row : Cal nm P w K mg base 2 "is_row" ["row", "names", "many"] f_is_row) {f : Addr} {fd : FuncData} (F : Fun K "need_program" "need_program" s_need_program f fd) : FnOk P w K mg base CX0 3 f fd ["program"] (spF nm K mg 1 f_need_program) :=
  fn_ok F sc_need_program fun cdv A outer s H E hr =>
    have nds : (["program", "params", "names", "rows", "number", "row"] : List Str).Nodup := sc_need_program.nd
    have nd := nd_need_program
    pxss_cons (pxs_if (pxt_w (pxw_or (pxt_not (pxt_val (px_isi .tup rfl (wv nd rfl (.inl rfl)) rfl T.m_isinstance rfl T.m_tuple rfl rfl rfl) (fun _ => rfl))) (pxw_or (pxt_cmp (op_neA (hu64 hr)) op2_ne (wd_len rfl T.m_len (pxa_cons (wv nd rfl (.inl rfl)) (pxa_nil) rfl) rfl rfl) (px_int) rfl) (pxw_or1 (pxt_not (pxt_val (wd_call C_is_number (alen_cons (alen_cons (alen_cons (alen_nil)))) (hr.mono (by decide)) rfl (pxa_cons (px_ix (wv nd rfl (.inl rfl)) (px_int) (fun _ _ => rfl)) (pxa_cons (px_int) (pxa_cons (wd_globI T.m_MOST_NAMES rfl dbg_MOST_NAMES) (pxa_nil) rfl) rfl) rfl) dbg_is_number rfl rfl) (fun _ => rfl))))))) (pxss_one (pxs_raise0)) (pxss_nil))
    (pxss_cons (pxs_asg (wv nd rfl (.inl rfl)) (pg_tup rfl (pgs_cons (pg_name nds rfl (.inl rfl) (.inr rfl)) (pgs_cons (pg_name nds rfl (.inl rfl) (.inr rfl)) (pgs_cons (pg_name nds rfl (.inl rfl) (.inr rfl)) (pgs_nil) rfl) rfl) rfl) rfl rfl) (gok_tup (is := [1, 2, 3])) rfl rfl rfl)
    (pxss_cons (pxs_if (pxt_w (pxw_or (pxt_not (pxt_val (wd_call C_is_number (alen_cons (alen_cons (alen_cons (alen_nil)))) (hr.mono (by decide)) rfl (pxa_cons (wv nd rfl (.inl rfl)) (pxa_cons (px_int) (pxa_cons (wv nd rfl (.inl rfl)) (pxa_nil) rfl) rfl) rfl) dbg_is_number rfl rfl) (fun _ => rfl))) (pxw_or (pxt_not (pxt_val (px_isi .tup rfl (wv nd rfl (.inl rfl)) rfl T.m_isinstance rfl T.m_tuple rfl rfl rfl) (fun _ => rfl))) (pxw_or1 (pxt_cmp (op_eqA (hu64 hr)) op2_eq (wd_len rfl T.m_len (pxa_cons (wv nd rfl (.inl rfl)) (pxa_nil) rfl) rfl rfl) (px_int) rfl))))) (pxss_one (pxs_raise0)) (pxss_nil))
    (pxss_one (pxs_for PassesOwn.never rfl (pxi_enum rfl T.m_enumerate (wv nd rfl (.inl rfl)) rfl) (pg_tup rfl (pgs_cons (pg_name nds rfl (.inl rfl) (.inr rfl)) (pgs_cons (pg_name nds rfl (.inl rfl) (.inr rfl)) (pgs_nil) rfl) rfl) rfl rfl) (gok_tup (is := [4, 5])) (pxss_one (pxs_if (pxt_w (pxw_or (pxt_cmp op_ge op2_cmp (wv nd rfl (.inl rfl)) (wd_globI T.m_MOST_ROWS rfl dbg_MOST_ROWS) rfl) (pxw_or1 (pxt_not (pxt_val (wd_call C_is_row (alen_cons (alen_cons (alen_cons (alen_nil)))) (hr.mono (by decide)) rfl (pxa_cons (wv nd rfl (.inl rfl)) (pxa_cons (wv nd rfl (.inl rfl)) (pxa_cons (wd_min rfl rfl T.m_min (pxa_cons (wd_len rfl T.m_len (pxa_cons (wv nd rfl (.inl rfl)) (pxa_nil) rfl) rfl rfl) (pxa_cons (wd_globI T.m_MOST_ROWS rfl dbg_MOST_ROWS) (pxa_nil) rfl) rfl) rfl rfl) (pxa_nil) rfl) rfl) rfl) dbg_is_row rfl rfl) (fun _ => rfl)))))) (pxss_one (pxs_raise0)) (pxss_nil))) (fun _ => rfl)))))
abbrev s_need_given : Stmt := (top 26)
theorem sc_need_given : FnScope ["program", "given", "number"] ["program", "given"] (defScope s_need_given) := ⟨rfl, rfl, rfl, by decide +kernel, rfl, by decide +kernel, by decide +kernel⟩
theorem nd_need_given : (["program", "given", "number"] : List Str).all ndbg = true := by decide +kernel
theorem d_need_given (T : Txt w K mg C_Run) (C_is_number : Cal nm P w K mg base 1 "is_number" ["part", "low", "high"] f_is_number) {f : Addr} {fd : FuncData} (F : Fun K "need_given" "need_given" s_need_given f fd) : FnOk P w K mg base CX0 2 f fd ["program", "given"] (spF nm K mg 2 f_need_given) :=
  fn_ok F sc_need_given fun cdv A outer s H E hr =>
    have nds : (["program", "given", "number"] : List Str).Nodup := sc_need_given.nd
    have nd := nd_need_given
    pxss_cons (pxs_if (pxt_w (pxw_or (pxt_not (pxt_val (px_isi .tup rfl (wv nd rfl (.inl rfl)) rfl T.m_isinstance rfl T.m_tuple rfl rfl rfl) (fun _ => rfl))) (pxw_or1 (pxt_cmp (op_neA (hu64 hr)) op2_ne (wd_len rfl T.m_len (pxa_cons (wv nd rfl (.inl rfl)) (pxa_nil) rfl) rfl rfl) (px_ix (wv nd rfl (.inl rfl)) (px_int) (fun _ _ => rfl)) rfl)))) (pxss_one (pxs_raise0)) (pxss_nil))
    (pxss_one (pxs_if (pxt_cmp (op_neA (hu64 hr)) op2_ne (px_lc rfl nds (own := [("number", 2)]) (pxi_seq (wv nd rfl (.inl rfl))) (blkOk_by (by kernel_rfl)) (by decide) (gok_name 2) (fun _ _ _ _ _ => pg_name nds rfl (.inl rfl) (.inr rfl)) (fun _ _ _ _ _ => pxts_one (pxt_not (pxt_val (wd_call C_is_number (alen_cons (alen_cons (alen_cons (alen_nil)))) (hr.mono (by decide)) rfl (pxa_cons (wv nd rfl (.inl rfl)) (pxa_cons (px_int) (pxa_cons (px_op op_sub op2_sub (wd_globI T.m_RING rfl dbg_RING) (px_int)) (pxa_nil) rfl) rfl) rfl) dbg_is_number rfl rfl) (fun _ => rfl)))) (fun _ _ _ _ _ => wv nd rfl (.inl rfl)) (fun _ => rfl)) (px_lst (pxa_nil) (by decide) (len_nil)) rfl) (pxss_one (pxs_raise0)) (pxss_nil)))
abbrev s_need_fuel : Stmt := (top 27)
theorem sc_need_fuel : FnScope ["fuel"] ["fuel"] (defScope s_need_fuel) := ⟨rfl, rfl, rfl, by decide +kernel, rfl, by decide +kernel, by decide +kernel⟩
theorem nd_need_fuel : (["fuel"] : List Str).all ndbg = true := by decide +kernel
theorem d_need_fuel (T : Txt w K mg C_Run) (C_is_number : Cal nm P w K mg base 1 "is_number" ["part", "low", "high"] f_is_number) {f : Addr} {fd : FuncData} (F : Fun K "need_fuel" "need_fuel" s_need_fuel f fd) : FnOk P w K mg base CX0 2 f fd ["fuel"] (spF nm K mg 1 f_need_fuel) :=
  fn_ok F sc_need_fuel fun cdv A outer s H E hr =>
    have nds : (["fuel"] : List Str).Nodup := sc_need_fuel.nd
    have nd := nd_need_fuel
    pxss_one (pxs_if (pxt_not (pxt_val (wd_call C_is_number (alen_cons (alen_cons (alen_cons (alen_nil)))) (hr.mono (by decide)) rfl (pxa_cons (wv nd rfl (.inl rfl)) (pxa_cons (px_int) (pxa_cons (wd_globI T.m_MOST_FUEL rfl dbg_MOST_FUEL) (pxa_nil) rfl) rfl) rfl) dbg_is_number rfl rfl) (fun _ => rfl))) (pxss_one (pxs_raise0)) (pxss_nil))
abbrev s_Run___init__ : Stmt := (inClass (top 29) 0)
theorem sc_Run___init__ : FnScope ["self", "rows"] ["self", "rows"] (defScope s_Run___init__) := ⟨rfl, rfl, rfl, by decide +kernel, rfl, by decide +kernel, by decide +kernel⟩
theorem nd_Run___init__ : (["self", "rows"] : List Str).all ndbg = true := by decide +kernel
theorem d_Run___init__ (T : Txt w K mg C_Run) {f : Addr} {fd : FuncData} (F : Fun K "__init__" "Run.__init__" s_Run___init__ f fd) : FnOk P w K mg base CX0 1 f fd ["self", "rows"] (spF nm K mg 2 f_Run___init__) :=
  fn_ok F sc_Run___init__ fun cdv A outer s H E hr =>
    have nds : (["self", "rows"] : List Str).Nodup := sc_Run___init__.nd
    have nd := nd_Run___init__
    pxss_cons (pxs_fld T.k_Run (by decide) rfl (wv nd rfl (.inl rfl)) (wv nd rfl (.inl rfl)) rfl)
    (pxss_cons (pxs_fld T.k_Run (by decide) rfl (wv nd rfl (.inl rfl)) (px_int) rfl)
    (pxss_cons (pxs_fld T.k_Run (by decide) rfl (wv nd rfl (.inl rfl)) (px_lst (pxa_nil) (by decide) (len_nil)) rfl)
    (pxss_one (pxs_fld T.k_Run (by decide) rfl (wv nd rfl (.inl rfl)) (px_int) rfl))))
abbrev s_Run_is_over : Stmt := (inClass (top 29) 1)
theorem sc_Run_is_over : FnScope ["self"] ["self"] (defScope s_Run_is_over) := ⟨rfl, rfl, rfl, by decide +kernel, rfl, by decide +kernel, by decide +kernel⟩
theorem nd_Run_is_over : (["self"] : List Str).all ndbg = true := by decide +kernel
theorem d_Run_is_over (T : Txt w K mg C_Run) {f : Addr} {fd : FuncData} (F : Fun K "is_over" "Run.is_over" s_Run_is_over f fd) : FnOk P w K mg base CX0 1 f fd ["self"] (spF nm K mg 1 f_Run_is_over) :=
  fn_ok F sc_Run_is_over fun cdv A outer s H E hr =>
    have nds : (["self"] : List Str).Nodup := sc_Run_is_over.nd
    have nd := nd_Run_is_over
    pxss_one (pxs_ret (px_or (px_cmp op_ge op2_cmp (px_fld T.k_Run (by decide) rfl (wv nd rfl (.inl rfl)) rfl) (wd_len rfl T.m_len (pxa_cons (px_fld T.k_Run (by decide) rfl (wv nd rfl (.inl rfl)) rfl) (pxa_nil) rfl) rfl rfl) rfl) (px_one (px_cmp (op_eqA (hu64 hr)) op2_eq (px_ix (px_ix (px_fld T.k_Run (by decide) rfl (wv nd rfl (.inl rfl)) rfl) (px_fld T.k_Run (by decide) rfl (wv nd rfl (.inl rfl)) rfl) (fun _ _ => rfl)) (px_int) (fun _ _ => rfl)) (wd_globS T.m_END rfl dbg_END) rfl))))
abbrev s_makes : Stmt := (top 30)
theorem sc_makes : FnScope ["row"] ["row"] (defScope s_makes) := ⟨rfl, rfl, rfl, by decide +kernel, rfl, by decide +kernel, by decide +kernel⟩
theorem nd_makes : (["row"] : List Str).all ndbg = true := by decide +kernel
theorem d_makes (T : Txt w K mg C_Run) {f : Addr} {fd : FuncData} (F : Fun K "makes" "makes" s_makes f fd) : FnOk P w K mg base CX0 1 f fd ["row"] (spF nm K mg 1 f_makes) :=
  fn_ok F sc_makes fun cdv A outer s H E hr =>
    have nds : (["row"] : List Str).Nodup := sc_makes.nd
    have nd := nd_makes
    pxss_one (pxs_ret (px_cmp (op_notInA (hu65 hr)) op2_notIn (px_ix (wv nd rfl (.inl rfl)) (px_int) (fun _ _ => rfl)) (px_tup (pxa_cons (wd_globS T.m_SAY rfl dbg_SAY) (pxa_cons (wd_globS T.m_IF rfl dbg_IF) (pxa_cons (wd_globS T.m_GO rfl dbg_GO) (pxa_cons (wd_globS T.m_END rfl dbg_END) (pxa_nil) rfl) rfl) rfl) rfl) (by decide) (len_cons (len_cons (len_cons (len_cons (len_nil)))))) rfl))
abbrev s_called : Stmt := (top 21)
theorem sc_called : FnScope ["number"] ["number"] (defScope s_called) := ⟨rfl, rfl, rfl, by decide +kernel, rfl, by decide +kernel, by decide +kernel⟩
theorem nd_called : (["number"] : List Str).all ndbg = true := by decide +kernel
theorem d_called (T : Txt w K mg C_Run) {f : Addr} {fd : FuncData} (F : Fun K "called" "called" s_called f fd) : FnOk P w K mg base CX0 1 f fd ["number"] (spF nm K mg 1 f_called) :=
  fn_ok F sc_called fun cdv A outer s H E hr =>
    have nds : (["number"] : List Str).Nodup := sc_called.nd
    have nd := nd_called
    pxss_one (pxs_ret (px_op op_mod op2_mod (px_op op_addA op2_add (px_op op_addA op2_add (px_op op_mulA op2_mul (px_op op_mulA op2_mul (wv nd rfl (.inl rfl)) (wv nd rfl (.inl rfl))) (px_int)) (wv nd rfl (.inl rfl))) (px_int)) (wd_globI T.m_RING rfl dbg_RING)))
abbrev s_reckoned : Stmt := (top 20)
theorem sc_reckoned : FnScope ["word", "one", "other"] ["word", "one", "other"] (defScope s_reckoned) := ⟨rfl, rfl, rfl, by decide +kernel, rfl, by decide +kernel, by decide +kernel⟩
theorem nd_reckoned : (["word", "one", "other"] : List Str).all ndbg = true := by decide +kernel
theorem d_reckoned (T : Txt w K mg C_Run) {f : Addr} {fd : FuncData} (F : Fun K "reckoned" "reckoned" s_reckoned f fd) : FnOk P w K mg base CX0 1 f fd ["word", "one", "other"] (spF nm K mg 3 f_reckoned) :=
  fn_ok F sc_reckoned fun cdv A outer s H E hr =>
    have nds : (["word", "one", "other"] : List Str).Nodup := sc_reckoned.nd
    have nd := nd_reckoned
    pxss_cons (pxs_if (pxt_cmp (op_eqA (hu64 hr)) op2_eq (wv nd rfl (.inl rfl)) (px_str kz_less) rfl) (pxss_one (pxs_ret (wd_int rfl T.m_int (pxa_cons (px_cmp op_lt op2_cmp (wv nd rfl (.inl rfl)) (wv nd rfl (.inl rfl)) rfl) (pxa_nil) rfl) rfl rfl))) (pxss_nil))
    (pxss_one (pxs_ret (px_op op_mod op2_mod (px_if (pxt_cmp (op_eqA (hu64 hr)) op2_eq (wv nd rfl (.inl rfl)) (px_str kz_add) rfl) (px_op op_addA op2_add (wv nd rfl (.inl rfl)) (wv nd rfl (.inl rfl))) (px_op op_sub op2_sub (wv nd rfl (.inl rfl)) (wv nd rfl (.inl rfl)))) (wd_globI T.m_RING rfl dbg_RING))))
abbrev s_told_by : Stmt := (top 28)
theorem sc_told_by : FnScope ["row", "some"] ["row", "some"] (defScope s_told_by) := ⟨rfl, rfl, rfl, by decide +kernel, rfl, by decide +kernel, by decide +kernel⟩
theorem nd_told_by : (["row", "some"] : List Str).all ndbg = true := by decide +kernel
theorem d_told_by (T : Txt w K mg C_Run) (C_called : Cal nm P w K mg base 1 "called" ["number"] f_called) (C_reckoned : Cal nm P w K mg base 1 "reckoned" ["word", "one", "other"] f_reckoned) {f : Addr} {fd : FuncData} (F : Fun K "told_by" "told_by" s_told_by f fd) : FnOk P w K mg base CX0 2 f fd ["row", "some"] (spF nm K mg 2 f_told_by) :=
  fn_ok F sc_told_by fun cdv A outer s H E hr =>
    have nds : (["row", "some"] : List Str).Nodup := sc_told_by.nd
    have nd := nd_told_by
    pxss_cons (pxs_if (pxt_cmp (op_eqA (hu64 hr)) op2_eq (px_ix (wv nd rfl (.inl rfl)) (px_int) (fun _ _ => rfl)) (wd_globS T.m_PUT rfl dbg_PUT) rfl) (pxss_one (pxs_ret (px_ix (wv nd rfl (.inl rfl)) (px_int) (fun _ _ => rfl)))) (pxss_nil))
    (pxss_cons (pxs_if (pxt_cmp (op_eqA (hu64 hr)) op2_eq (px_ix (wv nd rfl (.inl rfl)) (px_int) (fun _ _ => rfl)) (wd_globS T.m_CALL rfl dbg_CALL) rfl) (pxss_one (pxs_ret (wd_call C_called (alen_cons (alen_nil)) (hr.mono (by decide)) rfl (pxa_cons (px_ix (wv nd rfl (.inl rfl)) (px_int) (fun _ _ => rfl)) (pxa_nil) rfl) dbg_called rfl rfl))) (pxss_nil))
    (pxss_one (pxs_ret (px_if (pxt_cmp (op_eqA (hu64 hr)) op2_eq (px_ix (wv nd rfl (.inl rfl)) (px_int) (fun _ _ => rfl)) (wd_globS T.m_COPY rfl dbg_COPY) rfl) (px_ix (wv nd rfl (.inl rfl)) (px_int) (fun _ _ => rfl)) (wd_call C_reckoned (alen_cons (alen_cons (alen_cons (alen_nil)))) (hr.mono (by decide)) rfl (pxa_cons (px_ix (wv nd rfl (.inl rfl)) (px_int) (fun _ _ => rfl)) (pxa_cons (px_ix (wv nd rfl (.inl rfl)) (px_int) (fun _ _ => rfl)) (pxa_cons (px_ix (wv nd rfl (.inl rfl)) (px_int) (fun _ _ => rfl)) (pxa_nil) rfl) rfl) rfl) dbg_reckoned rfl rfl)))))
abbrev s_Run_go : Stmt := (inClass (top 29) 2)
theorem sc_Run_go : FnScope ["self", "some", "row"] ["self", "some"] (defScope s_Run_go) := ⟨rfl, rfl, rfl, by decide +kernel, rfl, by decide +kernel, by decide +kernel⟩
theorem nd_Run_go : (["self", "some", "row"] : List Str).all ndbg = true := by decide +kernel
theorem d_Run_go (T : Txt w K mg C_Run) {f : Addr} {fd : FuncData} (F : Fun K "go" "Run.go" s_Run_go f fd) : FnOk P w K mg base CX0 1 f fd ["self", "some"] (spF nm K mg 2 f_Run_go) :=
  fn_ok F sc_Run_go fun cdv A outer s H E hr =>
    have nds : (["self", "some", "row"] : List Str).Nodup := sc_Run_go.nd
    have nd := nd_Run_go
    pxss_cons (pxs_set nds rfl (.inl rfl) (px_ix (px_fld T.k_Run (by decide) rfl (wv nd rfl (.inl rfl)) rfl) (px_fld T.k_Run (by decide) rfl (wv nd rfl (.inl rfl)) rfl) (fun _ _ => rfl)) rfl (.inr rfl))
    (pxss_cons (pxs_fld T.k_Run (by decide) rfl (wv nd rfl (.inl rfl)) (px_op op_addA op2_add (px_fld T.k_Run (by decide) rfl (wv nd rfl (.inl rfl)) rfl) (px_int)) rfl)
    (pxss_cons (pxs_fld T.k_Run (by decide) rfl (wv nd rfl (.inl rfl)) (px_op op_addA op2_add (px_fld T.k_Run (by decide) rfl (wv nd rfl (.inl rfl)) rfl) (px_int)) rfl)
    (pxss_cons (pxs_if (pxt_cmp (op_eqA (hu64 hr)) op2_eq (px_ix (wv nd rfl (.inl rfl)) (px_int) (fun _ _ => rfl)) (wd_globS T.m_SAY rfl dbg_SAY) rfl) (pxss_one (pxs_expr (wd_append (px_fld T.k_Run (by decide) rfl (wv nd rfl (.inl rfl)) rfl) (px_ix (wv nd rfl (.inl rfl)) (px_int) (fun _ _ => rfl)) rfl rfl rfl rfl rfl) rfl)) (pxss_nil))
    (pxss_cons (pxs_if (pxt_cmp (op_eqA (hu64 hr)) op2_eq (px_ix (wv nd rfl (.inl rfl)) (px_int) (fun _ _ => rfl)) (wd_globS T.m_GO rfl dbg_GO) rfl) (pxss_one (pxs_fld T.k_Run (by decide) rfl (wv nd rfl (.inl rfl)) (px_ix (wv nd rfl (.inl rfl)) (px_int) (fun _ _ => rfl)) rfl)) (pxss_nil))
    (pxss_one (pxs_if (pxt_w (pxw_and (pxt_cmp (op_eqA (hu64 hr)) op2_eq (px_ix (wv nd rfl (.inl rfl)) (px_int) (fun _ _ => rfl)) (wd_globS T.m_IF rfl dbg_IF) rfl) (pxw_and1 (pxt_cmp (op_neA (hu64 hr)) op2_ne (px_ix (wv nd rfl (.inl rfl)) (px_int) (fun _ _ => rfl)) (px_int) rfl)))) (pxss_one (pxs_fld T.k_Run (by decide) rfl (wv nd rfl (.inl rfl)) (px_ix (wv nd rfl (.inl rfl)) (px_int) (fun _ _ => rfl)) rfl)) (pxss_nil)))))))
abbrev s_Run_told : Stmt := (inClass (top 29) 3)
theorem sc_Run_told : FnScope ["self"] ["self"] (defScope s_Run_told) := ⟨rfl, rfl, rfl, by decide +kernel, rfl, by decide +kernel, by decide +kernel⟩
theorem nd_Run_told : (["self"] : List Str).all ndbg = true := by decide +kernel
theorem d_Run_told (T : Txt w K mg C_Run) (C_Run_is_over : CalM nm P w K mg base 1 C_Run "is_over" ["self"] f_Run_is_over) {f : Addr} {fd : FuncData} (F : Fun K "told" "Run.told" s_Run_told f fd) : FnOk P w K mg base CX0 2 f fd ["self"] (spF nm K mg 1 f_Run_told) :=
  fn_ok F sc_Run_told fun cdv A outer s H E hr =>
    have nds : (["self"] : List Str).Nodup := sc_Run_told.nd
    have nd := nd_Run_told
    pxss_one (pxs_ret (px_tup (pxa_cons (px_fld T.k_Run (by decide) rfl (wv nd rfl (.inl rfl)) rfl) (pxa_cons (px_if (pxt_val (wd_meth0 T.k_Run nm_is_over C_Run_is_over (hr.mono (by decide)) (wv nd rfl (.inl rfl)) rfl) (fun _ => rfl)) (wd_globT T.m_OVER rfl dbg_OVER) (wd_globT T.m_LONG rfl dbg_LONG)) (pxa_cons (px_fld T.k_Run (by decide) rfl (wv nd rfl (.inl rfl)) rfl) (pxa_nil) rfl) rfl) rfl) (by decide) (len_cons (len_cons (len_cons (len_nil))))))
abbrev s_run : Stmt := (top 31)
theorem sc_run : FnScope ["program", "given", "fuel", "held", "one", "row", "name"] ["program", "given", "fuel"] (defScope s_run) := ⟨rfl, rfl, rfl, by decide +kernel, rfl, by decide +kernel, by decide +kernel⟩
theorem nd_run : (["program", "given", "fuel", "held", "one", "row", "name"] : List Str).all ndbg = true := by decide +kernel
theorem d_run (T : Txt w K mg C_Run) (C_need_program : Cal nm P w K mg base 3 "need_program" ["program"] f_need_program) (C_need_given : Cal nm P w K mg base 2 "need_given" ["program", "given"] f_need_given) (C_need_fuel : Cal nm P w K mg base 2 "need_fuel" ["fuel"] f_need_fuel) (C_Run___init__ : CalI nm P w K mg base 1 C_Run ["self", "rows"] f_Run___init__) (C_Run_is_over : CalM nm P w K mg base 1 C_Run "is_over" ["self"] f_Run_is_over) (C_makes : Cal nm P w K mg base 1 "makes" ["row"] f_makes) (C_told_by : Cal nm P w K mg base 2 "told_by" ["row", "some"] f_told_by) (C_Run_go : CalM nm P w K mg base 1 C_Run "go" ["self", "some"] f_Run_go) (C_Run_told : CalM nm P w K mg base 2 C_Run "told" ["self"] f_Run_told) {f : Addr} {fd : FuncData} (F : Fun K "run" "run" s_run f fd) : FnOk P w K mg base CX0 4 f fd ["program", "given", "fuel"] (spF nm K mg 3 f_run) :=
  fn_ok F sc_run fun cdv A outer s H E hr =>
    have nds : (["program", "given", "fuel", "held", "one", "row", "name"] : List Str).Nodup := sc_run.nd
    have nd := nd_run
    pxss_cons (pxs_expr (wd_call C_need_program (alen_cons (alen_nil)) (hr.mono (by decide)) rfl (pxa_cons (wv nd rfl (.inl rfl)) (pxa_nil) rfl) dbg_need_program rfl rfl) rfl)
    (pxss_cons (pxs_expr (wd_call C_need_given (alen_cons (alen_cons (alen_nil))) (hr.mono (by decide)) rfl (pxa_cons (wv nd rfl (.inl rfl)) (pxa_cons (wv nd rfl (.inl rfl)) (pxa_nil) rfl) rfl) dbg_need_given rfl rfl) rfl)
    (pxss_cons (pxs_expr (wd_call C_need_fuel (alen_cons (alen_nil)) (hr.mono (by decide)) rfl (pxa_cons (wv nd rfl (.inl rfl)) (pxa_nil) rfl) dbg_need_fuel rfl rfl) rfl)
    (pxss_cons (pxs_set nds rfl (.inr rfl) (px_op op_addA op2_add (wd_list rfl T.m_list (pxa_cons (wv nd rfl (.inl rfl)) (pxa_nil) rfl) rfl rfl) (px_op op_mulA op2_mul (px_lst (pxa_cons (px_int) (pxa_nil) rfl) (by decide) (len_cons (len_nil))) (px_op op_sub op2_sub (px_ix (wv nd rfl (.inl rfl)) (px_int) (fun _ _ => rfl)) (px_ix (wv nd rfl (.inl rfl)) (px_int) (fun _ _ => rfl))))) rfl (.inl rfl))
    (pxss_cons (pxs_set nds rfl (.inl rfl) (wd_make T.k_Run rfl C_Run___init__ (alen_cons (alen_nil)) (hr.mono (by decide)) rfl (pxa_cons (px_ix (wv nd rfl (.inl rfl)) (px_int) (fun _ _ => rfl)) (pxa_nil) rfl) dbg_Run rfl rfl) rfl (.inr rfl))
    (pxss_cons (pxs_while PassesOwn.never (pxt_w (pxw_and (pxt_not (pxt_val (wd_meth0 T.k_Run nm_is_over C_Run_is_over (hr.mono (by decide)) (wv nd rfl (.inl rfl)) rfl) (fun _ => rfl))) (pxw_and1 (pxt_cmp op_lt op2_cmp (px_fld T.k_Run (by decide) rfl (wv nd rfl (.inl rfl)) rfl) (wv nd rfl (.inl rfl)) rfl)))) (pxss_cons (pxs_set nds rfl (.inl rfl) (px_ix (px_fld T.k_Run (by decide) rfl (wv nd rfl (.inl rfl)) rfl) (px_fld T.k_Run (by decide) rfl (wv nd rfl (.inl rfl)) rfl) (fun _ _ => rfl)) rfl (.inr rfl))
    (pxss_cons (pxs_if (pxt_val (wd_call C_makes (alen_cons (alen_nil)) (hr.mono (by decide)) rfl (pxa_cons (wv nd rfl (.inl rfl)) (pxa_nil) rfl) dbg_makes rfl rfl) (fun _ => rfl)) (pxss_one (pxs_sub (wv nd rfl (.inr (.inl rfl))) (px_ix (wv nd rfl (.inl rfl)) (px_int) (fun _ _ => rfl)) (wd_call C_told_by (alen_cons (alen_cons (alen_nil))) (hr.mono (by decide)) rfl (pxa_cons (wv nd rfl (.inl rfl)) (pxa_cons (px_if (pxt_cmp (op_neA (hu64 hr)) op2_ne (px_ix (wv nd rfl (.inl rfl)) (px_int) (fun _ _ => rfl)) (wd_globS T.m_PUT rfl dbg_PUT) rfl) (px_lc rfl nds (own := [("name", 6)]) (pxi_seq (px_slice (wv nd rfl (.inl rfl)) (pxo_some (px_int)) (pxo_none))) (blkOk_by (by kernel_rfl)) (by decide) (gok_name 6) (fun _ _ _ _ _ => pg_name nds rfl (.inl rfl) (.inr rfl)) (fun _ _ _ _ _ => pxts_nil) (fun _ _ _ _ _ => px_ix (wv nd rfl (.inr (.inl rfl))) (wv nd rfl (.inl rfl)) (fun _ _ => rfl)) (fun _ => rfl)) (px_lst (pxa_nil) (by decide) (len_nil))) (pxa_nil) rfl) rfl) dbg_told_by rfl rfl) (fun _ => rfl) rfl rfl rfl)) (pxss_nil))
    (pxss_one (pxs_expr (wd_meth T.k_Run nm_go C_Run_go (alen_cons (alen_nil)) (hr.mono (by decide)) (wv nd rfl (.inl rfl)) (pxa_cons (px_if (pxt_cmp (op_inA (hu65 hr)) op2_in (px_ix (wv nd rfl (.inl rfl)) (px_int) (fun _ _ => rfl)) (px_tup (pxa_cons (wd_globS T.m_SAY rfl dbg_SAY) (pxa_cons (wd_globS T.m_IF rfl dbg_IF) (pxa_nil) rfl) rfl) (by decide) (len_cons (len_cons (len_nil)))) rfl) (px_lst (pxa_cons (px_ix (wv nd rfl (.inr (.inl rfl))) (px_ix (wv nd rfl (.inl rfl)) (px_int) (fun _ _ => rfl)) (fun _ _ => rfl)) (pxa_nil) rfl) (by decide) (len_cons (len_nil))) (px_lst (pxa_nil) (by decide) (len_nil))) (pxa_nil) rfl) rfl rfl rfl) rfl)))))
    (pxss_one (pxs_ret (wd_meth0 T.k_Run nm_told C_Run_told (hr.mono (by decide)) (wv nd rfl (.inl rfl)) rfl))))))))
abbrev s__law_alike : Stmt := (top 35)
theorem sc__law_alike : FnScope ["_law_found", "_law_due", "_law_k"] ["_law_found", "_law_due"] (defScope s__law_alike) := ⟨rfl, rfl, rfl, by decide +kernel, rfl, by decide +kernel, by decide +kernel⟩
theorem nd__law_alike : (["_law_found", "_law_due", "_law_k"] : List Str).all ndbg = true := by decide +kernel
theorem d__law_alike {k : Nat} {F0 : Fn} (T : Txt w K mg C_Run) (C0 : Cal nm P w K mg base (1 + k) "_law_alike" ["_law_found", "_law_due"] F0) {f : Addr} {fd : FuncData} (F : Fun K "_law_alike" "_law_alike" s__law_alike f fd) : FnOk P w K mg base CX0 (2 + k) f fd ["_law_found", "_law_due"] (spF nm K mg 2 (fn 3 (b__law_alike F0))) :=
  (by omega : 1 + k + 1 = 2 + k) ▸ fn_ok F sc__law_alike fun cdv A outer s H E hr0 =>
    have nds : (["_law_found", "_law_due", "_law_k"] : List Str).Nodup := sc__law_alike.nd
    have nd := nd__law_alike
    have hr := hr0
    pxss_cons (pxs_if (pxt_isN (wv nd rfl (.inl rfl))) (pxss_one (pxs_ret (px_isN (wv nd rfl (.inl rfl))))) (pxss_nil))
    (pxss_cons (pxs_if (pxt_val (px_isi .bool rfl (wv nd rfl (.inl rfl)) rfl T.m_isinstance rfl T.m_bool rfl rfl rfl) (fun _ => rfl)) (pxss_one (pxs_ret (px_and (px_isi .bool rfl (wv nd rfl (.inl rfl)) rfl T.m_isinstance rfl T.m_bool rfl rfl rfl) (px_one (px_cmp (op_eqA (hu64 hr)) op2_eq (wv nd rfl (.inl rfl)) (wv nd rfl (.inl rfl)) rfl))))) (pxss_nil))
    (pxss_cons (pxs_if (pxt_val (px_isi .int rfl (wv nd rfl (.inl rfl)) rfl T.m_isinstance rfl T.m_int rfl rfl rfl) (fun _ => rfl)) (pxss_one (pxs_ret (px_and (px_isi .int rfl (wv nd rfl (.inl rfl)) rfl T.m_isinstance rfl T.m_int rfl rfl rfl) (px_and (px_not (px_isi .bool rfl (wv nd rfl (.inl rfl)) rfl T.m_isinstance rfl T.m_bool rfl rfl rfl)) (px_one (px_cmp (op_eqA (hu64 hr)) op2_eq (wv nd rfl (.inl rfl)) (wv nd rfl (.inl rfl)) rfl)))))) (pxss_nil))
    (pxss_cons (pxs_if (pxt_val (px_isi .str rfl (wv nd rfl (.inl rfl)) rfl T.m_isinstance rfl T.m_str rfl rfl rfl) (fun _ => rfl)) (pxss_one (pxs_ret (px_and (px_isi .str rfl (wv nd rfl (.inl rfl)) rfl T.m_isinstance rfl T.m_str rfl rfl rfl) (px_one (px_cmp (op_eqA (hu64 hr)) op2_eq (wv nd rfl (.inl rfl)) (wv nd rfl (.inl rfl)) rfl))))) (pxss_nil))
    (pxss_cons (pxs_if (pxt_w (pxw_or (pxt_cmp (op_neA (hu64 hr)) op2_ne (px_isi .tup rfl (wv nd rfl (.inl rfl)) rfl T.m_isinstance rfl T.m_tuple rfl rfl rfl) (px_isi .tup rfl (wv nd rfl (.inl rfl)) rfl T.m_isinstance rfl T.m_tuple rfl rfl rfl) rfl) (pxw_or1 (pxt_cmp (op_neA (hu64 hr)) op2_ne (px_isi .lst rfl (wv nd rfl (.inl rfl)) rfl T.m_isinstance rfl T.m_list rfl rfl rfl) (px_isi .lst rfl (wv nd rfl (.inl rfl)) rfl T.m_isinstance rfl T.m_list rfl rfl rfl) rfl)))) (pxss_one (pxs_ret (px_bl))) (pxss_nil))
    (pxss_cons (pxs_if (pxt_cmp (op_neA (hu64 hr)) op2_ne (wd_len rfl T.m_len (pxa_cons (wv nd rfl (.inl rfl)) (pxa_nil) rfl) rfl rfl) (wd_len rfl T.m_len (pxa_cons (wv nd rfl (.inl rfl)) (pxa_nil) rfl) rfl rfl) rfl) (pxss_one (pxs_ret (px_bl))) (pxss_nil))
    (pxss_cons (pxs_for PassesOwn.never rfl (pxi_range1 rfl T.m_range (wd_len rfl T.m_len (pxa_cons (wv nd rfl (.inl rfl)) (pxa_nil) rfl) rfl rfl) rfl) (pg_name nds rfl (.inl rfl) (.inr rfl)) (gok_name 2) (pxss_one (pxs_if (pxt_not (pxt_val (wd_call C0 (alen_cons (alen_cons (alen_nil))) hr0 rfl (pxa_cons (px_ix (wv nd rfl (.inl rfl)) (wv nd rfl (.inl rfl)) (fun _ _ => rfl)) (pxa_cons (px_ix (wv nd rfl (.inl rfl)) (wv nd rfl (.inl rfl)) (fun _ _ => rfl)) (pxa_nil) rfl) rfl) dbg__law_alike rfl rfl) (fun _ => rfl))) (pxss_one (pxs_ret (px_bl))) (pxss_nil))) (fun _ => rfl))
    (pxss_one (pxs_ret (px_bl)))))))))
abbrev s_law : Stmt := (top 44)
theorem sc_law : FnScope ["_law_script", "_law_box", "_law_turn", "_law_program_here", "_law_given", "_law_fuel", "_law_due", "_law_again", "_law_found", "_law_k"] ["_law_script"] (defScope s_law) := ⟨rfl, rfl, rfl, by decide +kernel, rfl, by decide +kernel, by decide +kernel⟩
theorem nd_law : (["_law_script", "_law_box", "_law_turn", "_law_program_here", "_law_given", "_law_fuel", "_law_due", "_law_again", "_law_found", "_law_k"] : List Str).all ndbg = true := by decide +kernel
theorem d_law (T : Txt w K mg C_Run) (C__law_begun : Cal nm P w K mg base 1 "_law_begun" ["_law_script"] f__law_begun) (C__law_program : Cal nm P w K mg base 3 "_law_program" ["_law_box", "_law_most"] f__law_program) (C__law_take : Cal nm P w K mg base 1 "_law_take" ["_law_box", "_law_many"] f__law_take) (C__law_run : Cal nm P w K mg base 1 "_law_run" ["_law_program_here", "_law_given", "_law_fuel"] f__law_run) (C_run : Cal nm P w K mg base 4 "run" ["program", "given", "fuel"] f_run) (C__law_alike : Cal nm P w K mg base 13 "_law_alike" ["_law_found", "_law_due"] (f__law_alike 12)) {f : Addr} {fd : FuncData} (F : Fun K "law" "law" s_law f fd) : FnOk P w K mg base CX0 14 f fd ["_law_script"] (spF nm K mg 1 f_law) :=
  fn_ok F sc_law fun cdv A outer s H E hr =>
    have nds : (["_law_script", "_law_box", "_law_turn", "_law_program_here", "_law_given", "_law_fuel", "_law_due", "_law_again", "_law_found", "_law_k"] : List Str).Nodup := sc_law.nd
    have nd := nd_law
    pxss_cons (pxs_set nds rfl (.inr rfl) (wd_call C__law_begun (alen_cons (alen_nil)) (hr.mono (by decide)) rfl (pxa_cons (wv nd rfl (.inl rfl)) (pxa_nil) rfl) dbg__law_begun rfl rfl) rfl (.inl rfl))
    (pxss_cons (pxs_for PassesOwn.never rfl (pxi_range1 rfl T.m_range (px_int) rfl) (pg_name nds rfl (.inl rfl) (.inr rfl)) (gok_name 2) (pxss_cons (pxs_set nds rfl (.inl rfl) (wd_call C__law_program (alen_cons (alen_cons (alen_nil))) (hr.mono (by decide)) rfl (pxa_cons (wv nd rfl (.inr (.inl rfl))) (pxa_cons (px_int) (pxa_nil) rfl) rfl) dbg__law_program rfl rfl) rfl (.inr rfl))
    (pxss_cons (pxs_set nds rfl (.inl rfl) (wd_tuple rfl T.m_tuple (pxa_cons (px_lc rfl nds (own := [("_law_k", 9)]) (pxi_range1 rfl T.m_range (px_ix (wv nd rfl (.inl rfl)) (px_int) (fun _ _ => rfl)) rfl) (blkOk_by (by kernel_rfl)) (by decide) (gok_name 9) (fun _ _ _ _ _ => pg_name nds rfl (.inl rfl) (.inr rfl)) (fun _ _ _ _ _ => pxts_nil) (fun _ _ _ _ _ => px_ix (px_lst (pxa_cons (wd_call C__law_take (alen_cons (alen_cons (alen_nil))) (hr.mono (by decide)) rfl (pxa_cons (wv nd rfl (.inr (.inl rfl))) (pxa_cons (px_int) (pxa_nil) rfl) rfl) dbg__law_take rfl rfl) (pxa_cons (wd_call C__law_take (alen_cons (alen_cons (alen_nil))) (hr.mono (by decide)) rfl (pxa_cons (wv nd rfl (.inr (.inl rfl))) (pxa_cons (px_int) (pxa_nil) rfl) rfl) dbg__law_take rfl rfl) (pxa_nil) rfl) rfl) (by decide) (len_cons (len_cons (len_nil)))) (wd_call C__law_take (alen_cons (alen_cons (alen_nil))) (hr.mono (by decide)) rfl (pxa_cons (wv nd rfl (.inr (.inl rfl))) (pxa_cons (px_int) (pxa_nil) rfl) rfl) dbg__law_take rfl rfl) (fun _ _ => rfl)) (fun _ => rfl)) (pxa_nil) rfl) rfl rfl) rfl (.inr rfl))
    (pxss_one (pxs_for PassesOwn.never rfl (pxi_seq (px_lst (pxa_cons (wd_call C__law_take (alen_cons (alen_cons (alen_nil))) (hr.mono (by decide)) rfl (pxa_cons (wv nd rfl (.inr (.inl rfl))) (pxa_cons (px_int) (pxa_nil) rfl) rfl) dbg__law_take rfl rfl) (pxa_cons (px_ix (px_lst (pxa_cons (px_int) (pxa_cons (px_int) (pxa_cons (wd_call C__law_take (alen_cons (alen_cons (alen_nil))) (hr.mono (by decide)) rfl (pxa_cons (wv nd rfl (.inr (.inl rfl))) (pxa_cons (px_int) (pxa_nil) rfl) rfl) dbg__law_take rfl rfl) (pxa_nil) rfl) rfl) rfl) (by decide) (len_cons (len_cons (len_cons (len_nil))))) (wd_call C__law_take (alen_cons (alen_cons (alen_nil))) (hr.mono (by decide)) rfl (pxa_cons (wv nd rfl (.inr (.inl rfl))) (pxa_cons (px_int) (pxa_nil) rfl) rfl) dbg__law_take rfl rfl) (fun _ _ => rfl)) (pxa_nil) rfl) rfl) (by decide) (len_cons (len_cons (len_nil))))) (pg_name nds rfl (.inl rfl) (.inr rfl)) (gok_name 5) (pxss_cons (pxs_set nds rfl (.inl rfl) (wd_call C__law_run (alen_cons (alen_cons (alen_cons (alen_nil)))) (hr.mono (by decide)) rfl (pxa_cons (wv nd rfl (.inl rfl)) (pxa_cons (wv nd rfl (.inl rfl)) (pxa_cons (wv nd rfl (.inl rfl)) (pxa_nil) rfl) rfl) rfl) dbg__law_run rfl rfl) rfl (.inr rfl))
    (pxss_one (pxs_for PassesOwn.never rfl (pxi_range1 rfl T.m_range (px_int) rfl) (pg_name nds rfl (.inl rfl) (.inr rfl)) (gok_name 7) (pxss_cons (pxs_set nds rfl (.inl rfl) (wd_call C_run (alen_cons (alen_cons (alen_cons (alen_nil)))) (hr.mono (by decide)) rfl (pxa_cons (wv nd rfl (.inl rfl)) (pxa_cons (wv nd rfl (.inl rfl)) (pxa_cons (wv nd rfl (.inl rfl)) (pxa_nil) rfl) rfl) rfl) dbg_run rfl rfl) rfl (.inr rfl))
    (pxss_cons (pxs_if (pxt_not (pxt_val (wd_call C__law_alike (alen_cons (alen_cons (alen_nil))) (hr.mono (by decide)) rfl (pxa_cons (wv nd rfl (.inl rfl)) (pxa_cons (wv nd rfl (.inl rfl)) (pxa_nil) rfl) rfl) dbg__law_alike rfl rfl) (fun _ => rfl))) (pxss_one (pxs_ret (px_bl))) (pxss_nil))
    (pxss_one (pxs_expr (wd_append (px_ix (wv nd rfl (.inl rfl)) (px_int) (fun _ _ => rfl)) (px_int) rfl rfl rfl rfl rfl) rfl)))) (fun _ => rfl)))) (fun _ => rfl))))) (fun _ => rfl))
    (pxss_one (pxs_ret (px_bl))))
end
end Gk04
end
section
set_option Elab.async false
set_option linter.all false
set_option maxRecDepth 100003
set_option maxHeartbeats 4000003
set_option autoImplicit false
namespace Gk04
open PySem L2 PF PG
theorem all_mk {l : PySem.W.OpenLaw} {w : World} {K : PySem.W.Frag} {h : Heap} {mg : Str → Option Value} {fa C_Run t_at_LONG t_at_OVER t_at_SHAPES f___law_begun f___law_take f___law_row f___law_program f___law_run f__is_number f__is_row f__need_program f__need_given f__need_fuel f__Run___init__ f__Run_is_over f__makes f__called f__reckoned f__told_by f__Run_go f__Run_told f__run f___law_alike f__law : Addr} (X : K.In h) (G : h.Ns mainGlobals mg) (hfa : mg "law" = some (.ref fa))
    {v_CALL : Tok}
    {v_COPY : Tok}
    {v_END : Tok}
    {v_GO : Tok}
    {v_IF : Tok}
    {it_LONG : Array Value} {od_LONG : Option Addr} {m_LONG : Nat} {sl_LONG : Array (Option Value)}
    {v_MOST_FUEL : Tok}
    {v_MOST_NAMES : Tok}
    {v_MOST_ROWS : Tok}
    {it_OVER : Array Value} {od_OVER : Option Addr} {m_OVER : Nat} {sl_OVER : Array (Option Value)}
    {v_PUT : Tok}
    {v_RING : Tok}
    {v_SAY : Tok}
    {es_SHAPES : Array DictEntry} {m_SHAPES : Nat}
    {oc__law_begun kV__law_begun dc__law_begun pm__law_begun cd__law_begun ct__law_begun : Value} {od__law_begun an__law_begun : Option Addr} {sl__law_begun : Array (Option Value)}
    {oc__law_take kV__law_take dc__law_take pm__law_take cd__law_take ct__law_take : Value} {od__law_take an__law_take : Option Addr} {sl__law_take : Array (Option Value)}
    {oc__law_row kV__law_row dc__law_row pm__law_row cd__law_row ct__law_row : Value} {od__law_row an__law_row : Option Addr} {sl__law_row : Array (Option Value)}
    {oc__law_program kV__law_program dc__law_program pm__law_program cd__law_program ct__law_program : Value} {od__law_program an__law_program : Option Addr} {sl__law_program : Array (Option Value)}
    {oc__law_run kV__law_run dc__law_run pm__law_run cd__law_run ct__law_run : Value} {od__law_run an__law_run : Option Addr} {sl__law_run : Array (Option Value)}
    {oc_is_number kV_is_number dc_is_number pm_is_number cd_is_number ct_is_number : Value} {od_is_number an_is_number : Option Addr} {sl_is_number : Array (Option Value)}
    {oc_is_row kV_is_row dc_is_row pm_is_row cd_is_row ct_is_row : Value} {od_is_row an_is_row : Option Addr} {sl_is_row : Array (Option Value)}
    {oc_need_program kV_need_program dc_need_program pm_need_program cd_need_program ct_need_program : Value} {od_need_program an_need_program : Option Addr} {sl_need_program : Array (Option Value)}
    {oc_need_given kV_need_given dc_need_given pm_need_given cd_need_given ct_need_given : Value} {od_need_given an_need_given : Option Addr} {sl_need_given : Array (Option Value)}
    {oc_need_fuel kV_need_fuel dc_need_fuel pm_need_fuel cd_need_fuel ct_need_fuel : Value} {od_need_fuel an_need_fuel : Option Addr} {sl_need_fuel : Array (Option Value)}
    {oc_Run___init__ kV_Run___init__ dc_Run___init__ pm_Run___init__ cd_Run___init__ ct_Run___init__ : Value} {od_Run___init__ an_Run___init__ : Option Addr} {sl_Run___init__ : Array (Option Value)}
    {oc_Run_is_over kV_Run_is_over dc_Run_is_over pm_Run_is_over cd_Run_is_over ct_Run_is_over : Value} {od_Run_is_over an_Run_is_over : Option Addr} {sl_Run_is_over : Array (Option Value)}
    {oc_makes kV_makes dc_makes pm_makes cd_makes ct_makes : Value} {od_makes an_makes : Option Addr} {sl_makes : Array (Option Value)}
    {oc_called kV_called dc_called pm_called cd_called ct_called : Value} {od_called an_called : Option Addr} {sl_called : Array (Option Value)}
    {oc_reckoned kV_reckoned dc_reckoned pm_reckoned cd_reckoned ct_reckoned : Value} {od_reckoned an_reckoned : Option Addr} {sl_reckoned : Array (Option Value)}
    {oc_told_by kV_told_by dc_told_by pm_told_by cd_told_by ct_told_by : Value} {od_told_by an_told_by : Option Addr} {sl_told_by : Array (Option Value)}
    {oc_Run_go kV_Run_go dc_Run_go pm_Run_go cd_Run_go ct_Run_go : Value} {od_Run_go an_Run_go : Option Addr} {sl_Run_go : Array (Option Value)}
    {oc_Run_told kV_Run_told dc_Run_told pm_Run_told cd_Run_told ct_Run_told : Value} {od_Run_told an_Run_told : Option Addr} {sl_Run_told : Array (Option Value)}
    {oc_run kV_run dc_run pm_run cd_run ct_run : Value} {od_run an_run : Option Addr} {sl_run : Array (Option Value)}
    {oc__law_alike kV__law_alike dc__law_alike pm__law_alike cd__law_alike ct__law_alike : Value} {od__law_alike an__law_alike : Option Addr} {sl__law_alike : Array (Option Value)}
    {oc_law kV_law dc_law pm_law cd_law ct_law : Value} {od_law an_law : Option Addr} {sl_law : Array (Option Value)}
    (a_Run : PySem.W.nsIn K mainGlobals "Run" = some (some (.ref C_Run)))
    (pg_Run : PySem.W.plainGet K C_Run Str.empty = true)
    (hd_Run : PySem.W.hasDictIn K C_Run = true)
    (po_Run : PySem.W.plainOver K C_Run = true)
    (sa_Run : PySem.W.findIn K (.ref C_Run) "__setattr__" = some (some (.builtin "object.__setattr__")))
    (mk_Run : PySem.W.makesIn K C_Run = true)
    (kc_Run : PySem.W.keepIn K (.ref C_Run) = true)
    (n0_Run : PySem.W.findIn K (.ref C_Run) "rows" = some none)
    (n1_Run : PySem.W.findIn K (.ref C_Run) "at" = some none)
    (n2_Run : PySem.W.findIn K (.ref C_Run) "said" = some none)
    (n3_Run : PySem.W.findIn K (.ref C_Run) "done" = some none)
    (b_bool : PySem.W.nsIn K mainGlobals "bool" = some none)
    (b_dict : PySem.W.nsIn K mainGlobals "dict" = some none)
    (b_enumerate : PySem.W.nsIn K mainGlobals "enumerate" = some none)
    (b_int : PySem.W.nsIn K mainGlobals "int" = some none)
    (b_isinstance : PySem.W.nsIn K mainGlobals "isinstance" = some none)
    (b_len : PySem.W.nsIn K mainGlobals "len" = some none)
    (b_list : PySem.W.nsIn K mainGlobals "list" = some none)
    (b_min : PySem.W.nsIn K mainGlobals "min" = some none)
    (b_range : PySem.W.nsIn K mainGlobals "range" = some none)
    (b_str : PySem.W.nsIn K mainGlobals "str" = some none)
    (b_tuple : PySem.W.nsIn K mainGlobals "tuple" = some none)
    (c_CALL : PySem.W.nsIn K mainGlobals "CALL" = some (some (.str "call" v_CALL)))
    (c_COPY : PySem.W.nsIn K mainGlobals "COPY" = some (some (.str "copy" v_COPY)))
    (c_END : PySem.W.nsIn K mainGlobals "END" = some (some (.str "end" v_END)))
    (c_GO : PySem.W.nsIn K mainGlobals "GO" = some (some (.str "go" v_GO)))
    (c_IF : PySem.W.nsIn K mainGlobals "IF" = some (some (.str "if" v_IF)))
    (c_LONG : PySem.W.nsIn K mainGlobals "LONG" = some (some (.ref t_at_LONG)))
    (l_LONG : K.lookup t_at_LONG = some ⟨.type "tuple", od_LONG, .seq it_LONG m_LONG, sl_LONG⟩)
    (z_LONG : it_LONG.size ≤ 1000)
    (s_LONG : strsR [z_long] it_LONG.toList)
    (c_MOST_FUEL : PySem.W.nsIn K mainGlobals "MOST_FUEL" = some (some (.int 1000 v_MOST_FUEL)))
    (c_MOST_NAMES : PySem.W.nsIn K mainGlobals "MOST_NAMES" = some (some (.int 8 v_MOST_NAMES)))
    (c_MOST_ROWS : PySem.W.nsIn K mainGlobals "MOST_ROWS" = some (some (.int 24 v_MOST_ROWS)))
    (c_OVER : PySem.W.nsIn K mainGlobals "OVER" = some (some (.ref t_at_OVER)))
    (l_OVER : K.lookup t_at_OVER = some ⟨.type "tuple", od_OVER, .seq it_OVER m_OVER, sl_OVER⟩)
    (z_OVER : it_OVER.size ≤ 1000)
    (s_OVER : strsR [z_end] it_OVER.toList)
    (c_PUT : PySem.W.nsIn K mainGlobals "PUT" = some (some (.str "put" v_PUT)))
    (c_RING : PySem.W.nsIn K mainGlobals "RING" = some (some (.int 1000 v_RING)))
    (c_SAY : PySem.W.nsIn K mainGlobals "SAY" = some (some (.str "say" v_SAY)))
    (c_SHAPES : PySem.W.nsIn K mainGlobals "SHAPES" = some (some (.ref t_at_SHAPES)))
    (l_SHAPES : K.lookup t_at_SHAPES = some ⟨.type "dict", none, .dict es_SHAPES m_SHAPES, #[]⟩)
    (lo_SHAPES : (t_at_SHAPES == sysModules) = false)
    (kl_SHAPES : PySem.W.KeysLit w.params es_SHAPES.toList)
    (te_SHAPES : TabEs t_SHAPES es_SHAPES.toList)
    (a__law_begun : PySem.W.nsIn K mainGlobals "_law_begun" = some (some (.ref f___law_begun)))
    (l__law_begun : K.lookup f___law_begun = some ⟨oc__law_begun, od__law_begun, .func (PySem.W.fnOf "_law_begun" "_law_begun" (defArgs s__law_begun) (defBody s__law_begun) (defScope s__law_begun) .none kV__law_begun dc__law_begun pm__law_begun an__law_begun cd__law_begun ct__law_begun), sl__law_begun⟩)
    (c__law_begun : PySem.W.codeIn K cd__law_begun "_law_begun" = true)
    (k__law_begun : PySem.W.keepIn K (.ref f___law_begun) = true)
    (a__law_take : PySem.W.nsIn K mainGlobals "_law_take" = some (some (.ref f___law_take)))
    (l__law_take : K.lookup f___law_take = some ⟨oc__law_take, od__law_take, .func (PySem.W.fnOf "_law_take" "_law_take" (defArgs s__law_take) (defBody s__law_take) (defScope s__law_take) .none kV__law_take dc__law_take pm__law_take an__law_take cd__law_take ct__law_take), sl__law_take⟩)
    (c__law_take : PySem.W.codeIn K cd__law_take "_law_take" = true)
    (k__law_take : PySem.W.keepIn K (.ref f___law_take) = true)
    (a__law_row : PySem.W.nsIn K mainGlobals "_law_row" = some (some (.ref f___law_row)))
    (l__law_row : K.lookup f___law_row = some ⟨oc__law_row, od__law_row, .func (PySem.W.fnOf "_law_row" "_law_row" (defArgs s__law_row) (defBody s__law_row) (defScope s__law_row) .none kV__law_row dc__law_row pm__law_row an__law_row cd__law_row ct__law_row), sl__law_row⟩)
    (c__law_row : PySem.W.codeIn K cd__law_row "_law_row" = true)
    (k__law_row : PySem.W.keepIn K (.ref f___law_row) = true)
    (a__law_program : PySem.W.nsIn K mainGlobals "_law_program" = some (some (.ref f___law_program)))
    (l__law_program : K.lookup f___law_program = some ⟨oc__law_program, od__law_program, .func (PySem.W.fnOf "_law_program" "_law_program" (defArgs s__law_program) (defBody s__law_program) (defScope s__law_program) .none kV__law_program dc__law_program pm__law_program an__law_program cd__law_program ct__law_program), sl__law_program⟩)
    (c__law_program : PySem.W.codeIn K cd__law_program "_law_program" = true)
    (k__law_program : PySem.W.keepIn K (.ref f___law_program) = true)
    (a__law_run : PySem.W.nsIn K mainGlobals "_law_run" = some (some (.ref f___law_run)))
    (l__law_run : K.lookup f___law_run = some ⟨oc__law_run, od__law_run, .func (PySem.W.fnOf "_law_run" "_law_run" (defArgs s__law_run) (defBody s__law_run) (defScope s__law_run) .none kV__law_run dc__law_run pm__law_run an__law_run cd__law_run ct__law_run), sl__law_run⟩)
    (c__law_run : PySem.W.codeIn K cd__law_run "_law_run" = true)
    (k__law_run : PySem.W.keepIn K (.ref f___law_run) = true)
    (a_is_number : PySem.W.nsIn K mainGlobals "is_number" = some (some (.ref f__is_number)))
    (l_is_number : K.lookup f__is_number = some ⟨oc_is_number, od_is_number, .func (PySem.W.fnOf "is_number" "is_number" (defArgs s_is_number) (defBody s_is_number) (defScope s_is_number) .none kV_is_number dc_is_number pm_is_number an_is_number cd_is_number ct_is_number), sl_is_number⟩)
    (c_is_number : PySem.W.codeIn K cd_is_number "is_number" = true)
    (k_is_number : PySem.W.keepIn K (.ref f__is_number) = true)
    (a_is_row : PySem.W.nsIn K mainGlobals "is_row" = some (some (.ref f__is_row)))
    (l_is_row : K.lookup f__is_row = some ⟨oc_is_row, od_is_row, .func (PySem.W.fnOf "is_row" "is_row" (defArgs s_is_row) (defBody s_is_row) (defScope s_is_row) .none kV_is_row dc_is_row pm_is_row an_is_row cd_is_row ct_is_row), sl_is_row⟩)
    (c_is_row : PySem.W.codeIn K cd_is_row "is_row" = true)
    (k_is_row : PySem.W.keepIn K (.ref f__is_row) = true)
    (a_need_program : PySem.W.nsIn K mainGlobals "need_program" = some (some (.ref f__need_program)))
    (l_need_program : K.lookup f__need_program = some ⟨oc_need_program, od_need_program, .func (PySem.W.fnOf "need_program" "need_program" (defArgs s_need_program) (defBody s_need_program) (defScope s_need_program) .none kV_need_program dc_need_program pm_need_program an_need_program cd_need_program ct_need_program), sl_need_program⟩)
    (c_need_program : PySem.W.codeIn K cd_need_program "need_program" = true)
    (k_need_program : PySem.W.keepIn K (.ref f__need_program) = true)
    (a_need_given : PySem.W.nsIn K mainGlobals "need_given" = some (some (.ref f__need_given)))
    (l_need_given : K.lookup f__need_given = some ⟨oc_need_given, od_need_given, .func (PySem.W.fnOf "need_given" "need_given" (defArgs s_need_given) (defBody s_need_given) (defScope s_need_given) .none kV_need_given dc_need_given pm_need_given an_need_given cd_need_given ct_need_given), sl_need_given⟩)
    (c_need_given : PySem.W.codeIn K cd_need_given "need_given" = true)
    (k_need_given : PySem.W.keepIn K (.ref f__need_given) = true)
    (a_need_fuel : PySem.W.nsIn K mainGlobals "need_fuel" = some (some (.ref f__need_fuel)))
    (l_need_fuel : K.lookup f__need_fuel = some ⟨oc_need_fuel, od_need_fuel, .func (PySem.W.fnOf "need_fuel" "need_fuel" (defArgs s_need_fuel) (defBody s_need_fuel) (defScope s_need_fuel) .none kV_need_fuel dc_need_fuel pm_need_fuel an_need_fuel cd_need_fuel ct_need_fuel), sl_need_fuel⟩)
    (c_need_fuel : PySem.W.codeIn K cd_need_fuel "need_fuel" = true)
    (k_need_fuel : PySem.W.keepIn K (.ref f__need_fuel) = true)
    (a_Run___init__ : PySem.W.findIn K (.ref C_Run) "__init__" = some (some (.ref f__Run___init__)))
    (i_Run___init__ : PySem.W.isFn K (.ref f__Run___init__) = true)
    (l_Run___init__ : K.lookup f__Run___init__ = some ⟨oc_Run___init__, od_Run___init__, .func (PySem.W.fnOf "__init__" "Run.__init__" (defArgs s_Run___init__) (defBody s_Run___init__) (defScope s_Run___init__) .none kV_Run___init__ dc_Run___init__ pm_Run___init__ an_Run___init__ cd_Run___init__ ct_Run___init__), sl_Run___init__⟩)
    (c_Run___init__ : PySem.W.codeIn K cd_Run___init__ "Run.__init__" = true)
    (k_Run___init__ : PySem.W.keepIn K (.ref f__Run___init__) = true)
    (a_Run_is_over : PySem.W.findIn K (.ref C_Run) "is_over" = some (some (.ref f__Run_is_over)))
    (i_Run_is_over : PySem.W.isFn K (.ref f__Run_is_over) = true)
    (l_Run_is_over : K.lookup f__Run_is_over = some ⟨oc_Run_is_over, od_Run_is_over, .func (PySem.W.fnOf "is_over" "Run.is_over" (defArgs s_Run_is_over) (defBody s_Run_is_over) (defScope s_Run_is_over) .none kV_Run_is_over dc_Run_is_over pm_Run_is_over an_Run_is_over cd_Run_is_over ct_Run_is_over), sl_Run_is_over⟩)
    (c_Run_is_over : PySem.W.codeIn K cd_Run_is_over "Run.is_over" = true)
    (k_Run_is_over : PySem.W.keepIn K (.ref f__Run_is_over) = true)
    (a_makes : PySem.W.nsIn K mainGlobals "makes" = some (some (.ref f__makes)))
    (l_makes : K.lookup f__makes = some ⟨oc_makes, od_makes, .func (PySem.W.fnOf "makes" "makes" (defArgs s_makes) (defBody s_makes) (defScope s_makes) .none kV_makes dc_makes pm_makes an_makes cd_makes ct_makes), sl_makes⟩)
    (c_makes : PySem.W.codeIn K cd_makes "makes" = true)
    (k_makes : PySem.W.keepIn K (.ref f__makes) = true)
    (a_called : PySem.W.nsIn K mainGlobals "called" = some (some (.ref f__called)))
    (l_called : K.lookup f__called = some ⟨oc_called, od_called, .func (PySem.W.fnOf "called" "called" (defArgs s_called) (defBody s_called) (defScope s_called) .none kV_called dc_called pm_called an_called cd_called ct_called), sl_called⟩)
    (c_called : PySem.W.codeIn K cd_called "called" = true)
    (k_called : PySem.W.keepIn K (.ref f__called) = true)
    (a_reckoned : PySem.W.nsIn K mainGlobals "reckoned" = some (some (.ref f__reckoned)))
    (l_reckoned : K.lookup f__reckoned = some ⟨oc_reckoned, od_reckoned, .func (PySem.W.fnOf "reckoned" "reckoned" (defArgs s_reckoned) (defBody s_reckoned) (defScope s_reckoned) .none kV_reckoned dc_reckoned pm_reckoned an_reckoned cd_reckoned ct_reckoned), sl_reckoned⟩)
    (c_reckoned : PySem.W.codeIn K cd_reckoned "reckoned" = true)
    (k_reckoned : PySem.W.keepIn K (.ref f__reckoned) = true)
    (a_told_by : PySem.W.nsIn K mainGlobals "told_by" = some (some (.ref f__told_by)))
    (l_told_by : K.lookup f__told_by = some ⟨oc_told_by, od_told_by, .func (PySem.W.fnOf "told_by" "told_by" (defArgs s_told_by) (defBody s_told_by) (defScope s_told_by) .none kV_told_by dc_told_by pm_told_by an_told_by cd_told_by ct_told_by), sl_told_by⟩)
    (c_told_by : PySem.W.codeIn K cd_told_by "told_by" = true)
    (k_told_by : PySem.W.keepIn K (.ref f__told_by) = true)
    (a_Run_go : PySem.W.findIn K (.ref C_Run) "go" = some (some (.ref f__Run_go)))
    (i_Run_go : PySem.W.isFn K (.ref f__Run_go) = true)
    (l_Run_go : K.lookup f__Run_go = some ⟨oc_Run_go, od_Run_go, .func (PySem.W.fnOf "go" "Run.go" (defArgs s_Run_go) (defBody s_Run_go) (defScope s_Run_go) .none kV_Run_go dc_Run_go pm_Run_go an_Run_go cd_Run_go ct_Run_go), sl_Run_go⟩)
    (c_Run_go : PySem.W.codeIn K cd_Run_go "Run.go" = true)
    (k_Run_go : PySem.W.keepIn K (.ref f__Run_go) = true)
    (a_Run_told : PySem.W.findIn K (.ref C_Run) "told" = some (some (.ref f__Run_told)))
    (i_Run_told : PySem.W.isFn K (.ref f__Run_told) = true)
    (l_Run_told : K.lookup f__Run_told = some ⟨oc_Run_told, od_Run_told, .func (PySem.W.fnOf "told" "Run.told" (defArgs s_Run_told) (defBody s_Run_told) (defScope s_Run_told) .none kV_Run_told dc_Run_told pm_Run_told an_Run_told cd_Run_told ct_Run_told), sl_Run_told⟩)
    (c_Run_told : PySem.W.codeIn K cd_Run_told "Run.told" = true)
    (k_Run_told : PySem.W.keepIn K (.ref f__Run_told) = true)
    (a_run : PySem.W.nsIn K mainGlobals "run" = some (some (.ref f__run)))
    (l_run : K.lookup f__run = some ⟨oc_run, od_run, .func (PySem.W.fnOf "run" "run" (defArgs s_run) (defBody s_run) (defScope s_run) .none kV_run dc_run pm_run an_run cd_run ct_run), sl_run⟩)
    (c_run : PySem.W.codeIn K cd_run "run" = true)
    (k_run : PySem.W.keepIn K (.ref f__run) = true)
    (a__law_alike : PySem.W.nsIn K mainGlobals "_law_alike" = some (some (.ref f___law_alike)))
    (l__law_alike : K.lookup f___law_alike = some ⟨oc__law_alike, od__law_alike, .func (PySem.W.fnOf "_law_alike" "_law_alike" (defArgs s__law_alike) (defBody s__law_alike) (defScope s__law_alike) .none kV__law_alike dc__law_alike pm__law_alike an__law_alike cd__law_alike ct__law_alike), sl__law_alike⟩)
    (c__law_alike : PySem.W.codeIn K cd__law_alike "_law_alike" = true)
    (k__law_alike : PySem.W.keepIn K (.ref f___law_alike) = true)
    (a_law : PySem.W.nsIn K mainGlobals "law" = some (some (.ref f__law)))
    (l_law : K.lookup f__law = some ⟨oc_law, od_law, .func (PySem.W.fnOf "law" "law" (defArgs s_law) (defBody s_law) (defScope s_law) .none kV_law dc_law pm_law an_law cd_law ct_law), sl_law⟩)
    (c_law : PySem.W.codeIn K cd_law "law" = true)
    (k_law : PySem.W.keepIn K (.ref f__law) = true)
    : ∃ fd : FuncData, (∀ (s : Shared) (v : Value), BindsTo s fd ⟨[v], []⟩ [("_law_script", v)]) ∧ ∀ base : Heap, K.In base → base.Ns mainGlobals mg → FnOk l.prog w K mg base CX0 14 fa fd ["_law_script"] (spF nm K mg 1 f_law) := by
  have e := hfa.symm.trans (PySem.W.mg_of X G a_law)
  cases e
  have k_Run : ClsOk nm K mg 0 C_Run [0, 1, 2, 3] := ⟨PySem.W.mg_of X G a_Run, ⟨pg_Run, hd_Run, po_Run, sa_Run⟩, by simp only [List.forall_mem_cons]; exact ⟨n0_Run, n1_Run, n2_Run, n3_Run,  fun _ z => nomatch z⟩⟩
  have T : Txt w K mg C_Run := ⟨PySem.W.mg_none_of X G b_bool, PySem.W.mg_none_of X G b_dict, PySem.W.mg_none_of X G b_enumerate, PySem.W.mg_none_of X G b_int, PySem.W.mg_none_of X G b_isinstance, PySem.W.mg_none_of X G b_len, PySem.W.mg_none_of X G b_list, PySem.W.mg_none_of X G b_min, PySem.W.mg_none_of X G b_range, PySem.W.mg_none_of X G b_str, PySem.W.mg_none_of X G b_tuple, glS_mk X G kz_call c_CALL, glS_mk X G kz_copy c_COPY, glS_mk X G kz_end c_END, glS_mk X G kz_go c_GO, glS_mk X G kz_if c_IF, glT_mk (ss := [z_long]) X G c_LONG l_LONG z_LONG s_LONG, glI_mk X G c_MOST_FUEL, glI_mk X G c_MOST_NAMES, glI_mk X G c_MOST_ROWS, glT_mk (ss := [z_end]) X G c_OVER l_OVER z_OVER s_OVER, glS_mk X G kz_put c_PUT, glI_mk X G c_RING, glS_mk X G kz_say c_SAY, glD_mk X G c_SHAPES l_SHAPES lo_SHAPES kl_SHAPES te_SHAPES, k_Run⟩
  obtain ⟨fd__law_begun, F__law_begun, m__law_begun, kp__law_begun, bd__law_begun⟩ := at_mk (st := s__law_begun) (ps := ["_law_script"]) X G a__law_begun l__law_begun c__law_begun k__law_begun (fun _ _ _ _ _ _ us hl => match us, hl with | [_], _ => rfl)
  obtain ⟨fd__law_take, F__law_take, m__law_take, kp__law_take, bd__law_take⟩ := at_mk (st := s__law_take) (ps := ["_law_box", "_law_many"]) X G a__law_take l__law_take c__law_take k__law_take (fun _ _ _ _ _ _ us hl => match us, hl with | [_, _], _ => rfl)
  obtain ⟨fd__law_row, F__law_row, m__law_row, kp__law_row, bd__law_row⟩ := at_mk (st := s__law_row) (ps := ["_law_box", "_law_names", "_law_many", "_law_at"]) X G a__law_row l__law_row c__law_row k__law_row (fun _ _ _ _ _ _ us hl => match us, hl with | [_, _, _, _], _ => rfl)
  obtain ⟨fd__law_program, F__law_program, m__law_program, kp__law_program, bd__law_program⟩ := at_mk (st := s__law_program) (ps := ["_law_box", "_law_most"]) X G a__law_program l__law_program c__law_program k__law_program (fun _ _ _ _ _ _ us hl => match us, hl with | [_, _], _ => rfl)
  obtain ⟨fd__law_run, F__law_run, m__law_run, kp__law_run, bd__law_run⟩ := at_mk (st := s__law_run) (ps := ["_law_program_here", "_law_given", "_law_fuel"]) X G a__law_run l__law_run c__law_run k__law_run (fun _ _ _ _ _ _ us hl => match us, hl with | [_, _, _], _ => rfl)
  obtain ⟨fd_is_number, F_is_number, m_is_number, kp_is_number, bd_is_number⟩ := at_mk (st := s_is_number) (ps := ["part", "low", "high"]) X G a_is_number l_is_number c_is_number k_is_number (fun _ _ _ _ _ _ us hl => match us, hl with | [_, _, _], _ => rfl)
  obtain ⟨fd_is_row, F_is_row, m_is_row, kp_is_row, bd_is_row⟩ := at_mk (st := s_is_row) (ps := ["row", "names", "many"]) X G a_is_row l_is_row c_is_row k_is_row (fun _ _ _ _ _ _ us hl => match us, hl with | [_, _, _], _ => rfl)
  obtain ⟨fd_need_program, F_need_program, m_need_program, kp_need_program, bd_need_program⟩ := at_mk (st := s_need_program) (ps := ["program"]) X G a_need_program l_need_program c_need_program k_need_program (fun _ _ _ _ _ _ us hl => match us, hl with | [_], _ => rfl)
  obtain ⟨fd_need_given, F_need_given, m_need_given, kp_need_given, bd_need_given⟩ := at_mk (st := s_need_given) (ps := ["program", "given"]) X G a_need_given l_need_given c_need_given k_need_given (fun _ _ _ _ _ _ us hl => match us, hl with | [_, _], _ => rfl)
  obtain ⟨fd_need_fuel, F_need_fuel, m_need_fuel, kp_need_fuel, bd_need_fuel⟩ := at_mk (st := s_need_fuel) (ps := ["fuel"]) X G a_need_fuel l_need_fuel c_need_fuel k_need_fuel (fun _ _ _ _ _ _ us hl => match us, hl with | [_], _ => rfl)
  obtain ⟨fd_Run___init__, F_Run___init__, m_Run___init__, bd_Run___init__⟩ := atM_mk (st := s_Run___init__) (ps := ["self", "rows"]) a_Run___init__ i_Run___init__ l_Run___init__ c_Run___init__ k_Run___init__ (fun _ _ _ _ _ _ us hl => match us, hl with | [_, _], _ => rfl)
  obtain ⟨fd_Run_is_over, F_Run_is_over, m_Run_is_over, bd_Run_is_over⟩ := atM_mk (st := s_Run_is_over) (ps := ["self"]) a_Run_is_over i_Run_is_over l_Run_is_over c_Run_is_over k_Run_is_over (fun _ _ _ _ _ _ us hl => match us, hl with | [_], _ => rfl)
  obtain ⟨fd_makes, F_makes, m_makes, kp_makes, bd_makes⟩ := at_mk (st := s_makes) (ps := ["row"]) X G a_makes l_makes c_makes k_makes (fun _ _ _ _ _ _ us hl => match us, hl with | [_], _ => rfl)
  obtain ⟨fd_called, F_called, m_called, kp_called, bd_called⟩ := at_mk (st := s_called) (ps := ["number"]) X G a_called l_called c_called k_called (fun _ _ _ _ _ _ us hl => match us, hl with | [_], _ => rfl)
  obtain ⟨fd_reckoned, F_reckoned, m_reckoned, kp_reckoned, bd_reckoned⟩ := at_mk (st := s_reckoned) (ps := ["word", "one", "other"]) X G a_reckoned l_reckoned c_reckoned k_reckoned (fun _ _ _ _ _ _ us hl => match us, hl with | [_, _, _], _ => rfl)
  obtain ⟨fd_told_by, F_told_by, m_told_by, kp_told_by, bd_told_by⟩ := at_mk (st := s_told_by) (ps := ["row", "some"]) X G a_told_by l_told_by c_told_by k_told_by (fun _ _ _ _ _ _ us hl => match us, hl with | [_, _], _ => rfl)
  obtain ⟨fd_Run_go, F_Run_go, m_Run_go, bd_Run_go⟩ := atM_mk (st := s_Run_go) (ps := ["self", "some"]) a_Run_go i_Run_go l_Run_go c_Run_go k_Run_go (fun _ _ _ _ _ _ us hl => match us, hl with | [_, _], _ => rfl)
  obtain ⟨fd_Run_told, F_Run_told, m_Run_told, bd_Run_told⟩ := atM_mk (st := s_Run_told) (ps := ["self"]) a_Run_told i_Run_told l_Run_told c_Run_told k_Run_told (fun _ _ _ _ _ _ us hl => match us, hl with | [_], _ => rfl)
  obtain ⟨fd_run, F_run, m_run, kp_run, bd_run⟩ := at_mk (st := s_run) (ps := ["program", "given", "fuel"]) X G a_run l_run c_run k_run (fun _ _ _ _ _ _ us hl => match us, hl with | [_, _, _], _ => rfl)
  obtain ⟨fd__law_alike, F__law_alike, m__law_alike, kp__law_alike, bd__law_alike⟩ := at_mk (st := s__law_alike) (ps := ["_law_found", "_law_due"]) X G a__law_alike l__law_alike c__law_alike k__law_alike (fun _ _ _ _ _ _ us hl => match us, hl with | [_, _], _ => rfl)
  refine ⟨PySem.W.fnOf "law" "law" (defArgs s_law) (defBody s_law) (defScope s_law) .none kV_law dc_law pm_law an_law cd_law ct_law, fun s v => .of_eq rfl, fun base _ _ => ?_⟩
  have C__law_begun : Cal nm l.prog w K mg base 1 "_law_begun" ["_law_script"] f__law_begun := ⟨_, fd__law_begun, d__law_begun T F__law_begun, m__law_begun, kp__law_begun, bd__law_begun⟩
  have C__law_take : Cal nm l.prog w K mg base 1 "_law_take" ["_law_box", "_law_many"] f__law_take := ⟨_, fd__law_take, d__law_take T F__law_take, m__law_take, kp__law_take, bd__law_take⟩
  have C__law_row : Cal nm l.prog w K mg base 2 "_law_row" ["_law_box", "_law_names", "_law_many", "_law_at"] f__law_row := ⟨_, fd__law_row, d__law_row T C__law_take F__law_row, m__law_row, kp__law_row, bd__law_row⟩
  have C__law_program : Cal nm l.prog w K mg base 3 "_law_program" ["_law_box", "_law_most"] f__law_program := ⟨_, fd__law_program, d__law_program T C__law_take C__law_row F__law_program, m__law_program, kp__law_program, bd__law_program⟩
  have C__law_run : Cal nm l.prog w K mg base 1 "_law_run" ["_law_program_here", "_law_given", "_law_fuel"] f__law_run := ⟨_, fd__law_run, d__law_run T F__law_run, m__law_run, kp__law_run, bd__law_run⟩
  have C_is_number : Cal nm l.prog w K mg base 1 "is_number" ["part", "low", "high"] f_is_number := ⟨_, fd_is_number, d_is_number T F_is_number, m_is_number, kp_is_number, bd_is_number⟩
  have C_is_row : Cal nm l.prog w K mg base 2 "is_row" ["row", "names", "many"] f_is_row := ⟨_, fd_is_row, d_is_row T C_is_number F_is_row, m_is_row, kp_is_row, bd_is_row⟩
  have C_need_program : Cal nm l.prog w K mg base 3 "need_program" ["program"] f_need_program := ⟨_, fd_need_program, d_need_program T C_is_number C_is_row F_need_program, m_need_program, kp_need_program, bd_need_program⟩
  have C_need_given : Cal nm l.prog w K mg base 2 "need_given" ["program", "given"] f_need_given := ⟨_, fd_need_given, d_need_given T C_is_number F_need_given, m_need_given, kp_need_given, bd_need_given⟩
  have C_need_fuel : Cal nm l.prog w K mg base 2 "need_fuel" ["fuel"] f_need_fuel := ⟨_, fd_need_fuel, d_need_fuel T C_is_number F_need_fuel, m_need_fuel, kp_need_fuel, bd_need_fuel⟩
  have C_Run___init__ : CalI nm l.prog w K mg base 1 C_Run ["self", "rows"] f_Run___init__ := ⟨_, fd_Run___init__, d_Run___init__ T F_Run___init__, ⟨mk_Run, m_Run___init__.1, m_Run___init__.2, kc_Run⟩, bd_Run___init__⟩
  have C_Run_is_over : CalM nm l.prog w K mg base 1 C_Run "is_over" ["self"] f_Run_is_over := ⟨_, fd_Run_is_over, d_Run_is_over T F_Run_is_over, m_Run_is_over, bd_Run_is_over⟩
  have C_makes : Cal nm l.prog w K mg base 1 "makes" ["row"] f_makes := ⟨_, fd_makes, d_makes T F_makes, m_makes, kp_makes, bd_makes⟩
  have C_called : Cal nm l.prog w K mg base 1 "called" ["number"] f_called := ⟨_, fd_called, d_called T F_called, m_called, kp_called, bd_called⟩
  have C_reckoned : Cal nm l.prog w K mg base 1 "reckoned" ["word", "one", "other"] f_reckoned := ⟨_, fd_reckoned, d_reckoned T F_reckoned, m_reckoned, kp_reckoned, bd_reckoned⟩
  have C_told_by : Cal nm l.prog w K mg base 2 "told_by" ["row", "some"] f_told_by := ⟨_, fd_told_by, d_told_by T C_called C_reckoned F_told_by, m_told_by, kp_told_by, bd_told_by⟩
  have C_Run_go : CalM nm l.prog w K mg base 1 C_Run "go" ["self", "some"] f_Run_go := ⟨_, fd_Run_go, d_Run_go T F_Run_go, m_Run_go, bd_Run_go⟩
  have C_Run_told : CalM nm l.prog w K mg base 2 C_Run "told" ["self"] f_Run_told := ⟨_, fd_Run_told, d_Run_told T C_Run_is_over F_Run_told, m_Run_told, bd_Run_told⟩
  have C_run : Cal nm l.prog w K mg base 4 "run" ["program", "given", "fuel"] f_run := ⟨_, fd_run, d_run T C_need_program C_need_given C_need_fuel C_Run___init__ C_Run_is_over C_makes C_told_by C_Run_go C_Run_told F_run, m_run, kp_run, bd_run⟩
  have C__law_alike : ∀ j, Cal nm l.prog w K mg base (1 + j) "_law_alike" ["_law_found", "_law_due"] (f__law_alike j) := fun j => by
    induction j with
    | zero => exact ⟨_, fd__law_alike, fn_bad, m__law_alike, kp__law_alike, bd__law_alike⟩
    | succ j ih =>
      have z := d__law_alike (k := j) T ih F__law_alike
      exact ⟨_, fd__law_alike, (by omega : 2 + j = 1 + (j + 1)) ▸ z, m__law_alike, kp__law_alike, bd__law_alike⟩
  have C__law_alike := C__law_alike 12
  exact d_law T C__law_begun C__law_program C__law_take C__law_run C_run C__law_alike (fun_mk (st := s_law) l_law c_law k_law)
end Gk04
open PySem PySem.W PyProof.Rows
set_option maxRecDepth 100003 in
set_option maxHeartbeats 0 in
theorem PySem.Challenge.cw_boxwitness_k04_runs_by_names_holds : PySem.Challenge.rw_boxwitness_k04_runs_by_names.Holds := by
  w_on; o_law; k_head; (case hw => w_witness2)
  k_fill
  refine PF.walk_pf (l := PySem.Challenge.rw_boxwitness_k04_runs_by_names) (k := 14) (nm := Gk04.nm) (f := PG.f_law) (x := "_law_script") (n := 63) rfl (by decide) rfl ⟨rfl, by decide, by decide⟩ (fun w h Y => PySem.W.kIn_of Y) (fun w => by kernel_rfl) ?F Gk04.law_holds
  case F =>
    intro w mg fa h KX G hmg
    refine' Gk04.all_mk KX G hmg ?a_Run ?pg_Run ?hd_Run ?po_Run ?sa_Run ?mk_Run ?kc_Run ?n0_Run ?n1_Run ?n2_Run ?n3_Run ?b_bool ?b_dict ?b_enumerate ?b_int ?b_isinstance ?b_len ?b_list ?b_min ?b_range ?b_str ?b_tuple ?c_CALL ?c_COPY ?c_END ?c_GO ?c_IF ?c_LONG ?l_LONG ?z_LONG ?s_LONG ?c_MOST_FUEL ?c_MOST_NAMES ?c_MOST_ROWS ?c_OVER ?l_OVER ?z_OVER ?s_OVER ?c_PUT ?c_RING ?c_SAY ?c_SHAPES ?l_SHAPES ?lo_SHAPES ?kl_SHAPES ?te_SHAPES ?a__law_begun ?l__law_begun ?c__law_begun ?k__law_begun ?a__law_take ?l__law_take ?c__law_take ?k__law_take ?a__law_row ?l__law_row ?c__law_row ?k__law_row ?a__law_program ?l__law_program ?c__law_program ?k__law_program ?a__law_run ?l__law_run ?c__law_run ?k__law_run ?a_is_number ?l_is_number ?c_is_number ?k_is_number ?a_is_row ?l_is_row ?c_is_row ?k_is_row ?a_need_program ?l_need_program ?c_need_program ?k_need_program ?a_need_given ?l_need_given ?c_need_given ?k_need_given ?a_need_fuel ?l_need_fuel ?c_need_fuel ?k_need_fuel ?a_Run___init__ ?i_Run___init__ ?l_Run___init__ ?c_Run___init__ ?k_Run___init__ ?a_Run_is_over ?i_Run_is_over ?l_Run_is_over ?c_Run_is_over ?k_Run_is_over ?a_makes ?l_makes ?c_makes ?k_makes ?a_called ?l_called ?c_called ?k_called ?a_reckoned ?l_reckoned ?c_reckoned ?k_reckoned ?a_told_by ?l_told_by ?c_told_by ?k_told_by ?a_Run_go ?i_Run_go ?l_Run_go ?c_Run_go ?k_Run_go ?a_Run_told ?i_Run_told ?l_Run_told ?c_Run_told ?k_Run_told ?a_run ?l_run ?c_run ?k_run ?a__law_alike ?l__law_alike ?c__law_alike ?k__law_alike ?a_law ?l_law ?c_law ?k_law
    (case a_Run => k_is)
    (case pg_Run => k_is)
    (case hd_Run => k_is)
    (case po_Run => k_is)
    (case sa_Run => k_is)
    (case mk_Run => k_is)
    (case kc_Run => k_is)
    (case n0_Run => k_is)
    (case n1_Run => k_is)
    (case n2_Run => k_is)
    (case n3_Run => k_is)
    (case b_bool => k_is)
    (case b_dict => k_is)
    (case b_enumerate => k_is)
    (case b_int => k_is)
    (case b_isinstance => k_is)
    (case b_len => k_is)
    (case b_list => k_is)
    (case b_min => k_is)
    (case b_range => k_is)
    (case b_str => k_is)
    (case b_tuple => k_is)
    (case c_CALL => k_is)
    (case c_COPY => k_is)
    (case c_END => k_is)
    (case c_GO => k_is)
    (case c_IF => k_is)
    (case c_LONG => k_is)
    (case l_LONG => k_is)
    (case z_LONG => decide)
    (case s_LONG => repeat (first | rfl | refine ⟨_, _, rfl, ?_⟩))
    (case c_MOST_FUEL => k_is)
    (case c_MOST_NAMES => k_is)
    (case c_MOST_ROWS => k_is)
    (case c_OVER => k_is)
    (case l_OVER => k_is)
    (case z_OVER => decide)
    (case s_OVER => repeat (first | rfl | refine ⟨_, _, rfl, ?_⟩))
    (case c_PUT => k_is)
    (case c_RING => k_is)
    (case c_SAY => k_is)
    (case c_SHAPES => k_is)
    (case l_SHAPES => k_is)
    (case lo_SHAPES => rfl)
    (case kl_SHAPES => repeat (first | exact trivial | refine ⟨⟨_, _, rfl, rfl⟩, ?_⟩))
    (case te_SHAPES => repeat (first | rfl | refine ⟨_, _, _, _, _, _, rfl, rfl, rfl, rfl, ?_⟩))
    (case a__law_begun => k_is)
    (case l__law_begun => k_is)
    (case c__law_begun => k_is)
    (case k__law_begun => k_is)
    (case a__law_take => k_is)
    (case l__law_take => k_is)
    (case c__law_take => k_is)
    (case k__law_take => k_is)
    (case a__law_row => k_is)
    (case l__law_row => k_is)
    (case c__law_row => k_is)
    (case k__law_row => k_is)
    (case a__law_program => k_is)
    (case l__law_program => k_is)
    (case c__law_program => k_is)
    (case k__law_program => k_is)
    (case a__law_run => k_is)
    (case l__law_run => k_is)
    (case c__law_run => k_is)
    (case k__law_run => k_is)
    (case a_is_number => k_is)
    (case l_is_number => k_is)
    (case c_is_number => k_is)
    (case k_is_number => k_is)
    (case a_is_row => k_is)
    (case l_is_row => k_is)
    (case c_is_row => k_is)
    (case k_is_row => k_is)
    (case a_need_program => k_is)
    (case l_need_program => k_is)
    (case c_need_program => k_is)
    (case k_need_program => k_is)
    (case a_need_given => k_is)
    (case l_need_given => k_is)
    (case c_need_given => k_is)
    (case k_need_given => k_is)
    (case a_need_fuel => k_is)
    (case l_need_fuel => k_is)
    (case c_need_fuel => k_is)
    (case k_need_fuel => k_is)
    (case a_Run___init__ => k_is)
    (case i_Run___init__ => k_is)
    (case l_Run___init__ => k_is)
    (case c_Run___init__ => k_is)
    (case k_Run___init__ => k_is)
    (case a_Run_is_over => k_is)
    (case i_Run_is_over => k_is)
    (case l_Run_is_over => k_is)
    (case c_Run_is_over => k_is)
    (case k_Run_is_over => k_is)
    (case a_makes => k_is)
    (case l_makes => k_is)
    (case c_makes => k_is)
    (case k_makes => k_is)
    (case a_called => k_is)
    (case l_called => k_is)
    (case c_called => k_is)
    (case k_called => k_is)
    (case a_reckoned => k_is)
    (case l_reckoned => k_is)
    (case c_reckoned => k_is)
    (case k_reckoned => k_is)
    (case a_told_by => k_is)
    (case l_told_by => k_is)
    (case c_told_by => k_is)
    (case k_told_by => k_is)
    (case a_Run_go => k_is)
    (case i_Run_go => k_is)
    (case l_Run_go => k_is)
    (case c_Run_go => k_is)
    (case k_Run_go => k_is)
    (case a_Run_told => k_is)
    (case i_Run_told => k_is)
    (case l_Run_told => k_is)
    (case c_Run_told => k_is)
    (case k_Run_told => k_is)
    (case a_run => k_is)
    (case l_run => k_is)
    (case c_run => k_is)
    (case k_run => k_is)
    (case a__law_alike => k_is)
    (case l__law_alike => k_is)
    (case c__law_alike => k_is)
    (case k__law_alike => k_is)
    (case a_law => k_is)
    (case l_law => k_is)
    (case c_law => k_is)
    (case k_law => k_is)
end
