import PyProof.Rows.All
import Wide.All
import OpenK.AllK
import Wide.FinOn
import HandS.ForMost
import KE.KDictKeyed
import KE.KDictDisplayH
import HandS.Lambda
import HandS.TupAny
import HandS.TupMul
import HandS.Deep
import HandS.IsInst
import HandS.SortInts
import HandS.SortRule
import KE.GoesEnum
import HandS.More
import HandS.Style
import HandS.HeadEnd
import HandS.Conv
import HandS.SetFor
import HandS.Strs
import HandS.Exc
import HandS.ExcOwn
import HandS.ExcInit
import HandS.WordsExc
import HandS.ExcIs
import HandS.ExcField
import HandS.TryOnly
import HandS.EndTab
import HandS.TupSets
import HandS.Codes
import KE.IntTextLaws
import KE.DataEq
import HandS.RaiseMore
import HandS.Iter
import HandS.HeadHook1
import PySem.Challenge.RW_boxwitness_k22_texts_of_no_programs
section
set_option linter.all false
set_option autoImplicit false
namespace PF
/-- values: tuples are trees; what can change is named by its place in the store -/
inductive D where
  | non
  | bl (b : Bool)
  | int (i : Int)
  | str (s : List Nat)
  | tup (ds : List D)
  | ref (n : Nat)
  deriving Inhabited
mutual
def D.decEq : (a b : D) → Decidable (a = b)
  | .non, .non => .isTrue rfl
  | .bl a, .bl b => if h : a = b then .isTrue (h ▸ rfl) else .isFalse (fun e => by cases e; exact h rfl)
  | .int a, .int b => if h : a = b then .isTrue (h ▸ rfl) else .isFalse (fun e => by cases e; exact h rfl)
  | .str a, .str b => if h : a = b then .isTrue (h ▸ rfl) else .isFalse (fun e => by cases e; exact h rfl)
  | .ref a, .ref b => if h : a = b then .isTrue (h ▸ rfl) else .isFalse (fun e => by cases e; exact h rfl)
  | .tup a, .tup b => match D.decEqs a b with
    | .isTrue h => .isTrue (h ▸ rfl)
    | .isFalse h => .isFalse (fun e => by cases e; exact h rfl)
  | .non, .bl _ | .non, .int _ | .non, .str _ | .non, .tup _ | .non, .ref _ => .isFalse (fun e => nomatch e)
  | .bl _, .non | .bl _, .int _ | .bl _, .str _ | .bl _, .tup _ | .bl _, .ref _ => .isFalse (fun e => nomatch e)
  | .int _, .non | .int _, .bl _ | .int _, .str _ | .int _, .tup _ | .int _, .ref _ => .isFalse (fun e => nomatch e)
  | .str _, .non | .str _, .bl _ | .str _, .int _ | .str _, .tup _ | .str _, .ref _ => .isFalse (fun e => nomatch e)
  | .tup _, .non | .tup _, .bl _ | .tup _, .int _ | .tup _, .str _ | .tup _, .ref _ => .isFalse (fun e => nomatch e)
  | .ref _, .non | .ref _, .bl _ | .ref _, .int _ | .ref _, .str _ | .ref _, .tup _ => .isFalse (fun e => nomatch e)
def D.decEqs : (a b : List D) → Decidable (a = b)
  | [], [] => .isTrue rfl
  | [], _ :: _ => .isFalse (fun e => nomatch e)
  | _ :: _, [] => .isFalse (fun e => nomatch e)
  | x :: xs, y :: ys => match D.decEq x y with
    | .isFalse h => .isFalse (fun e => by cases e; exact h rfl)
    | .isTrue h => match D.decEqs xs ys with
      | .isFalse h' => .isFalse (fun e => by cases e; exact h' rfl)
      | .isTrue h' => .isTrue (h ▸ h' ▸ rfl)
end
instance : DecidableEq D := D.decEq
/-- what can change: lists (rol: the script, read alone), dicts (keys numbers and texts; dit: tuples; rod: read alone from here on), instances -/
inductive MO where
  | lst (ds : List D)
  | rol (ds : List D)
  | dic (kvs : List (D × D))
  | dit (kvs : List (D × D))
  | rod (kvs : List (D × D))
  | ins (c : Nat) (fs : List (Nat × D))
  deriving DecidableEq, Inhabited
abbrev Sto := List MO
/-- the largest length of a list, a dict, a text -/
def LIM : Nat := 16777216
/-- an error on its way: its class, its row -/
structure Exc where
  c : Nat
  row : Option D
inductive Out (α : Type) where
  | ok (a : α) (S : Sto)
  | err (e : Exc) (S : Sto)
  | bad
abbrev M (α : Type) := Sto → Out α
def Out.bind {α β : Type} : Out α → (α → M β) → Out β
  | .ok a S, k => k a S
  | .err e S, _ => .err e S
  | .bad, _ => .bad
@[simp] theorem bind_ok {α β : Type} (a : α) (S : Sto) (k : α → M β) : (Out.ok a S).bind k = k a S := rfl
abbrev Env := List (Option D)
abbrev E := Env → M D
abbrev T := Env → M Bool
abbrev A := Env → M (List D)
inductive Fl where
  | nx | bk | ct | rt (d : D)
abbrev St := Env → M (Fl × Env)
abbrev Fn := List D → M D
/-- a new object -/
def alloc (o : MO) : M D := fun S => .ok (.ref S.length) (S ++ [o])
/-- the items of a list -/
def lstOf (n : Nat) (S : Sto) : Option (List D) :=
  match S[n]? with
  | some (.lst ds) => some ds
  | some (.rol ds) => some ds
  | _ => none
/-- the items of a list or a tuple -/
def seqOf (d : D) (S : Sto) : Option (List D) :=
  match d with
  | .tup ds => some ds
  | .ref n => lstOf n S
  | _ => none
def b2i (b : Bool) : Int := if b then 1 else 0
/-- a value as a tree, its lists told -/
inductive J where
  | non | bl (b : Bool) | int (i : Int) | str (s : List Nat) | tup (js : List J) | lst (js : List J)
  deriving Inhabited
def allSome {α β : Type} (f : α → Option β) : List α → Option (List β)
  | [] => some []
  | x :: xs => match f x with
    | none => none
    | some y => match allSome f xs with
      | none => none
      | some ys => some (y :: ys)
def tree (S : Sto) : Nat → D → Option J
  | _, .non => some .non
  | _, .bl b => some (.bl b)
  | _, .int i => some (.int i)
  | _, .str s => if s.all (fun c => decide (c < 1114112)) then some (.str s) else none
  | 0, _ => none
  | n + 1, .tup ds => match allSome (tree S n) ds with
    | some js => some (.tup js)
    | none => none
  | n + 1, .ref i => match lstOf i S with
    | some ds => match allSome (tree S n) ds with
      | some js => some (.lst js)
      | none => none
    | none => none
mutual
def J.eqv : J → J → Bool
  | .non, .non => true
  | .bl x, .bl y => x == y
  | .int x, .int y => x == y
  | .bl x, .int y => b2i x == y
  | .int x, .bl y => x == b2i y
  | .str x, .str y => x == y
  | .tup xs, .tup ys => J.eqvs xs ys
  | .lst xs, .lst ys => J.eqvs xs ys
  | .non, .bl _ | .non, .int _ | .non, .str _ | .non, .tup _ | .non, .lst _ => false
  | .bl _, .non | .bl _, .str _ | .bl _, .tup _ | .bl _, .lst _ => false
  | .int _, .non | .int _, .str _ | .int _, .tup _ | .int _, .lst _ => false
  | .str _, .non | .str _, .bl _ | .str _, .int _ | .str _, .tup _ | .str _, .lst _ => false
  | .tup _, .non | .tup _, .bl _ | .tup _, .int _ | .tup _, .str _ | .tup _, .lst _ => false
  | .lst _, .non | .lst _, .bl _ | .lst _, .int _ | .lst _, .str _ | .lst _, .tup _ => false
def J.eqvs : List J → List J → Bool
  | [], [] => true
  | [], _ :: _ => false
  | _ :: _, [] => false
  | x :: xs, y :: ys => J.eqv x y && J.eqvs xs ys
end
/-- the depth that == goes to -/
def EQD : Nat := 40
def eqT (S : Sto) (x y : D) : Option Bool := match tree S EQD x, tree S EQD y with
  | some a, some b => some (J.eqv a b)
  | _, _ => none
def eqF (S : Sto) : D → D → Option Bool
  | .non, .non => some true
  | .bl x, .bl y => some (x == y)
  | .int x, .int y => some (x == y)
  | .str x, .str y => some (x == y)
  | .non, .bl _ | .non, .int _ | .non, .str _ => some false
  | .bl _, .non | .bl _, .str _ => some false
  | .int _, .non | .int _, .str _ => some false
  | .str _, .non | .str _, .bl _ | .str _, .int _ => some false
  | x, y => eqT S x y
mutual
def D.deep : D → Nat
  | .tup ds => D.deeps ds + 1
  | _ => 0
def D.deeps : List D → Nat
  | [] => 0
  | d :: ds => max (D.deep d) (D.deeps ds)
end
mutual
def D.flat : D → Bool
  | .ref _ => false
  | .tup ds => D.flats ds
  | _ => true
def D.flats : List D → Bool
  | [] => true
  | d :: ds => D.flat d && D.flats ds
end
mutual
def D.plain : D → Bool
  | .ref _ => false
  | .bl _ => false
  | .tup ds => D.plains ds
  | _ => true
def D.plains : List D → Bool
  | [] => true
  | d :: ds => D.plain d && D.plains ds
end
def eVar (i : Nat) : E := fun ρ S => match ρ[i]? with
  | some (some d) => .ok d S
  | _ => .bad
def eC (d : D) : E := fun _ S => .ok d S
def e1 (g : D → M D) (a : E) : E := fun ρ S => (a ρ S).bind g
def e2 (g : D → D → M D) (a b : E) : E := fun ρ S => (a ρ S).bind fun x S => (b ρ S).bind fun y S => g x y S
def aNil : A := fun _ S => .ok [] S
def aCons (a : E) (r : A) : A := fun ρ S => (a ρ S).bind fun x S => (r ρ S).bind fun xs S => .ok (x :: xs) S
/-- (a, b, ..) -/
def eTup (a : A) : E := fun ρ S => (a ρ S).bind fun xs S => .ok (.tup xs) S
/-- [a, b, ..] -/
def eLst (a : A) : E := fun ρ S => (a ρ S).bind fun xs S => alloc (.lst xs) S
/-- a def's call, a built-in's -/
def eCall (f : Fn) (a : A) : E := fun ρ S => (a ρ S).bind fun xs S => f xs S
/-- a if t else b -/
def eIf (t : T) (a b : E) : E := fun ρ S => (t ρ S).bind fun c S => if c then a ρ S else b ρ S
/-- a test as a value, a truth as a test -/
def tE (a : E) : T := fun ρ S => (a ρ S).bind fun x S => match x with
  | .bl b => .ok b S
  | _ => .bad
def eAnd (a b : E) : E := fun ρ S => (a ρ S).bind fun x S => match x with
  | .bl true => b ρ S
  | .bl false => .ok (.bl false) S
  | _ => .bad
def eOr (a b : E) : E := fun ρ S => (a ρ S).bind fun x S => match x with
  | .bl true => .ok (.bl true) S
  | .bl false => b ρ S
  | _ => .bad
def eNot (a : E) : E := fun ρ S => (a ρ S).bind fun x S => match x with
  | .bl b => .ok (.bl (!b)) S
  | _ => .bad
def tAnd (a b : T) : T := fun ρ S => (a ρ S).bind fun c S => if c then b ρ S else .ok false S
def tOr (a b : T) : T := fun ρ S => (a ρ S).bind fun c S => if c then .ok true S else b ρ S
def tNot (a : T) : T := fun ρ S => (a ρ S).bind fun c S => .ok (!c) S
/-- a op b op' c -/
def eChain (g g' : D → D → M D) (a b c : E) : E := fun ρ S => (a ρ S).bind fun x S => (b ρ S).bind fun y S => (g x y S).bind fun z S => match z with
  | .bl true => (c ρ S).bind fun w S => g' y w S
  | .bl false => .ok (.bl false) S
  | _ => .bad
/-- a list that can be changed -/
def wrOf (n : Nat) (S : Sto) : Option (List D) := match S[n]? with
  | some (.lst ds) => some ds
  | _ => none
def gAdd (x y : D) : M D := fun S => match x, y with
  | .int i, .int j => .ok (.int (i + j)) S
  | .str a, .str b => if a.length + b.length ≤ LIM then .ok (.str (a ++ b)) S else .bad
  | .tup a, .tup b => if a.length + b.length ≤ LIM then .ok (.tup (a ++ b)) S else .bad
  | .ref m, .ref n => match wrOf m S, wrOf n S with
    | some a, some b => if a.length + b.length ≤ LIM then alloc (.lst (a ++ b)) S else .bad
    | _, _ => .bad
  | _, _ => .bad
def gSub (x y : D) : M D := fun S => match x, y with
  | .int i, .int j => .ok (.int (i - j)) S
  | _, _ => .bad
/-- so many times -/
def rep {α : Type} (xs : List α) (k : Nat) : List α := (List.replicate k xs).flatten
def gMul (x y : D) : M D := fun S => match x, y with
  | .int i, .int j => if (-(2 ^ 64) < i ∧ i < 2 ^ 64) ∨ (-(2 ^ 64) < j ∧ j < 2 ^ 64) then .ok (.int (i * j)) S else .bad
  | .ref m, .int k => match wrOf m S with
    | some a => if -(2 ^ 62) < k ∧ k < 2 ^ 62 ∧ a.length * k.toNat ≤ LIM then alloc (.lst (rep a k.toNat)) S else .bad
    | none => .bad
  | .tup a, .int k => if a ≠ [] ∧ 2 ≤ k ∧ k ≤ 1000 ∧ a.length ≤ 1000 then .ok (.tup (rep a k.toNat)) S else .bad
  | _, _ => .bad
def gFdiv (x y : D) : M D := fun S => match x, y with
  | .int i, .int j => if 0 < j ∧ j < 1073741824 then .ok (.int (i / j)) S else .bad
  | _, _ => .bad
def gMod (x y : D) : M D := fun S => match x, y with
  | .int i, .int j => if 0 < j then .ok (.int (i % j)) S else .bad
  | _, _ => .bad
def gPow (x y : D) : M D := fun S => match x, y with
  | .int i, .int j => if 0 ≤ j ∧ j ≤ 1000000 ∧ i.natAbs < 2 ^ 64 then .ok (.int (i ^ j.toNat)) S else .bad
  | _, _ => .bad
def gNeg (x : D) : M D := fun S => match x with
  | .int i => .ok (.int (-i)) S
  | _ => .bad
def gEq (x y : D) : M D := fun S => match eqF S x y with
  | some b => .ok (.bl b) S
  | none => .bad
def gNe (x y : D) : M D := fun S => match eqF S x y with
  | some b => .ok (.bl (!b)) S
  | none => .bad
def gCmp (p : Int → Int → Bool) (x y : D) : M D := fun S => match x, y with
  | .int i, .int j => .ok (.bl (p i j)) S
  | _, _ => .bad
def gLt : D → D → M D := gCmp fun i j => decide (i < j)
def gLe : D → D → M D := gCmp fun i j => decide (i ≤ j)
def gGt : D → D → M D := gCmp fun i j => decide (j < i)
def gGe : D → D → M D := gCmp fun i j => decide (j ≤ i)
/-- is None, is True -/
def gIsN (x : D) : M D := fun S => .ok (.bl (decide (x = .non))) S
def gNotN (x : D) : M D := fun S => .ok (.bl (!decide (x = .non))) S
def gNotTrue (x : D) : M D := fun S => .ok (.bl (!decide (x = .bl true))) S
def keyOk : D → Bool
  | .int _ => true
  | .str _ => true
  | _ => false
def dget (kvs : List (D × D)) (k : D) : Option D := (kvs.find? fun p => decide (p.1 = k)).map (·.2)
/-- in its place, or at the end -/
def dput (kvs : List (D × D)) (k v : D) : List (D × D) :=
  if (kvs.any fun p => decide (p.1 = k)) = true then kvs.map (fun p => if p.1 = k then (p.1, v) else p) else kvs ++ [(k, v)]
/-- numbers, texts, truths, None -/
def D.scal : D → Bool
  | .tup _ => false
  | .ref _ => false
  | _ => true
def inTree (S : Sto) (x : D) (ds : List D) : Option Bool := match tree S EQD x, allSome (tree S EQD) ds with
  | some j, some js => some (js.any fun z => J.eqv z j)
  | _, _ => none
def inB (x y : D) (S : Sto) : Option Bool := match y with
  | .tup ds => if x.scal && ds.all D.scal then inTree S x ds else none
  | .str s => match x with
    | .str [c] => some (s.contains c)
    | _ => none
  | .ref n => match lstOf n S with
    | some ds => inTree S x ds
    | none => none
  | _ => none
def gIn (x y : D) : M D := fun S => match inB x y S with
  | some b => .ok (.bl b) S
  | none => .bad
def gNotIn (x y : D) : M D := fun S => match inB x y S with
  | some b => .ok (.bl (!b)) S
  | none => .bad
/-- a dict's -/
def dicOf (n : Nat) (S : Sto) : Option (List (D × D)) := match S[n]? with
  | some (.dic kvs) => some kvs
  | _ => none
def inD (x y : D) (S : Sto) : Option Bool := match y with
  | .ref n => match dicOf n S with
    | some kvs => if keyOk x then some (dget kvs x).isSome else none
    | none => none
  | _ => none
def gInD (x y : D) : M D := fun S => match inD x y S with
  | some b => .ok (.bl b) S
  | none => .bad
def gNotInD (x y : D) : M D := fun S => match inD x y S with
  | some b => .ok (.bl (!b)) S
  | none => .bad
/-- the place of an index, from the end where it is negative -/
def ixN (n : Nat) (i : Int) : Option Nat := if 0 ≤ i then (if i < n then some i.toNat else none) else if -(n : Int) ≤ i then some (i + n).toNat else none
def at? {α : Type} (xs : List α) (i : Int) : Option α := (ixN xs.length i).bind fun j => xs[j]?
def gIx (x y : D) : M D := fun S => match x, y with
  | .tup ds, .int i => match at? ds i with
    | some d => .ok d S
    | none => .bad
  | .str s, .int i => if s.length ≤ LIM then match at? s i with
    | some c => .ok (.str [c]) S
    | none => .bad
    else .bad
  | .ref n, .int i => match lstOf n S with
    | some ds => match at? ds i with
      | some d => .ok d S
      | none => .bad
    | none => .bad
  | _, _ => .bad
/-- d[k] -/
def gDx (x k : D) : M D := fun S => match x with
  | .ref n => match dicOf n S with
    | some kvs => if keyOk k then match dget kvs k with
        | some d => .ok d S
        | none => .bad
      else .bad
    | none => .bad
  | _ => .bad
/-- where a slice's end lies, within -/
def sIx (n d : Nat) : Option Int → Nat
  | none => d
  | some i => if i < 0 then (i + (n : Int)).toNat else min i.toNat n
def cut {α : Type} (xs : List α) (lo hi : Option Int) : List α := (xs.drop (sIx xs.length 0 lo)).take (sIx xs.length xs.length hi - sIx xs.length 0 lo)
abbrev O := Env → M (Option Int)
def oNone : O := fun _ S => .ok none S
def oSome (a : E) : O := fun ρ S => (a ρ S).bind fun x S => match x with
  | .int i => .ok (some i) S
  | _ => .bad
def gSlice (x : D) (lo hi : Option Int) : M D := fun S => match x with
  | .tup ds => .ok (.tup (cut ds lo hi)) S
  | .str s => if s.length ≤ LIM then .ok (.str (cut s lo hi)) S else .bad
  | .ref n => match lstOf n S with
    | some ds => alloc (.lst (cut ds lo hi)) S
    | none => .bad
  | _ => .bad
def eSlice (a : E) (lo hi : O) : E := fun ρ S => (a ρ S).bind fun x S => (lo ρ S).bind fun i S => (hi ρ S).bind fun j S => gSlice x i j S
def fLen : Fn := fun xs S => match xs with
  | [.tup ds] => .ok (.int ds.length) S
  | [.str s] => if s.length ≤ LIM then .ok (.int s.length) S else .bad
  | [.ref n] => match lstOf n S with
    | some ds => .ok (.int ds.length) S
    | none => .bad
  | _ => .bad
def fInt : Fn := fun xs S => match xs with
  | [.int i] => .ok (.int i) S
  | [.bl b] => .ok (.int (b2i b)) S
  | _ => .bad
def fMin : Fn := fun xs S => match xs with
  | [.int i, .int j] => .ok (.int (if j < i then j else i)) S
  | _ => .bad
def fMax : Fn := fun xs S => match xs with
  | [.int i, .int j] => .ok (.int (if j > i then j else i)) S
  | _ => .bad
def fList : Fn := fun xs S => match xs with
  | [d] => match seqOf d S with
    | some ds => alloc (.lst ds) S
    | none => .bad
  | _ => .bad
def fTuple : Fn := fun xs S => match xs with
  | [d] => match seqOf d S with
    | some ds => .ok (.tup ds) S
    | none => .bad
  | _ => .bad
inductive Kind where
  | tup | int | bool | str | lst
  deriving DecidableEq
def isK (k : Kind) (x : D) (S : Sto) : Option Bool := match x with
  | .non => some false
  | .bl _ => some (k == .bool || k == .int)
  | .int _ => some (k == .int)
  | .str _ => some (k == .str)
  | .tup _ => some (k == .tup)
  | .ref n => match lstOf n S with
    | some _ => some (k == .lst)
    | none => none
def gIs (k : Kind) (x : D) : M D := fun S => match isK k x S with
  | some b => .ok (.bl b) S
  | none => .bad
/-- an order of numbers and tuples of numbers -/
def lexLt : List Int → List Int → Bool
  | [], [] => false
  | [], _ :: _ => true
  | _ :: _, [] => false
  | a :: as, b :: bs => if a = b then lexLt as bs else decide (a < b)
def intsOf : List D → Option (List Int)
  | [] => some []
  | .int i :: r => (intsOf r).map (i :: ·)
  | _ => none
def rowsOf : List D → Option (List (List Int))
  | [] => some []
  | .tup ds :: r => match intsOf ds with
    | some is => (rowsOf r).map (is :: ·)
    | none => none
  | _ => none
/-- sorted by a strict order (the first of equal ones first) -/
def ins {α : Type} (lt : α → α → Bool) (x : α) : List α → List α
  | [] => [x]
  | y :: ys => if lt y x then y :: ins lt x ys else x :: y :: ys
def sortBy {α : Type} (lt : α → α → Bool) : List α → List α
  | [] => []
  | x :: xs => ins lt x (sortBy lt xs)
def sortI : List Int → List Int := sortBy fun a b => decide (a < b)
def sortL : List (List Int) → List (List Int) := sortBy lexLt
/-- sorted(x), x a list of numbers -/
def fSortedI : Fn := fun xs S => match xs with
  | [.ref n] => match lstOf n S with
    | some ds => match intsOf ds with
      | some is => alloc (.lst ((sortI is).map .int)) S
      | none => .bad
    | none => .bad
  | _ => .bad
/-- sorted(x), x a list of pairs of numbers -/
def fSortedP : Fn := fun xs S => match xs with
  | [.ref n] => match lstOf n S with
    | some ds => match rowsOf ds with
      | some rs => if rs.all (fun r => r.length == 2) then alloc (.lst ((sortL rs).map fun r => .tup (r.map .int))) S else .bad
      | none => .bad
    | none => .bad
  | _ => .bad
/-- each once -/
def dedup {α : Type} [DecidableEq α] : List α → List α
  | [] => []
  | x :: xs => x :: (dedup xs).filter fun y => decide (y ≠ x)
/-- sorted(set(x)) of numbers; len(set(x)) -/
def fSortedSet : Fn := fun xs S => match xs with
  | [.tup ds] => match intsOf ds with
    | some is => if is.length < 64 then alloc (.lst ((sortI (dedup is)).map .int)) S else .bad
    | none => .bad
  | _ => .bad
def tupK (d : D) : Bool := (match d with
  | .tup _ => true
  | _ => false) && d.plain && decide (d.deep ≤ 8)
mutual
def D.dry : D → Bool
  | .str _ => false
  | .tup ds => D.drys ds
  | _ => true
def D.drys : List D → Bool
  | [] => true
  | d :: ds => D.dry d && D.drys ds
end
/-- a tuple of numbers and such tuples -/
def keyT (d : D) : Bool := tupK d && d.dry
def fLenSet : Fn := fun xs S => match xs with
  | [.tup ds] => if ds.length < 64 ∧ ds.all tupK = true then .ok (.int (dedup ds).length) S else .bad
  | _ => .bad
/-- the items, and the lists in which they stand, where these may change -/
structure Iter where
  chk : List (Nat × List D)
  all : List D
abbrev I := Env → M Iter
/-- the lists are as they were -/
def Iter.same (it : Iter) (S : Sto) : Bool := it.chk.all fun p => decide (lstOf p.1 S = some p.2)
/-- where a thing to be walked stands -/
def chkOf (d : D) (S : Sto) : List (Nat × List D) := match d with
  | .ref n => match lstOf n S with
    | some ds => [(n, ds)]
    | none => []
  | _ => []
/-- a list, a tuple -/
def iSeq (a : E) : I := fun ρ S => (a ρ S).bind fun x S => match seqOf x S with
  | some ds => .ok ⟨chkOf x S, ds⟩ S
  | none => .bad
def rangeD (lo hi : Int) : List D := (List.range (hi - lo).toNat).map fun (k : Nat) => .int (lo + (k : Int))
def iRange1 (a : E) : I := fun ρ S => (a ρ S).bind fun x S => match x with
  | .int j => if -(2 ^ 62) ≤ j ∧ j < 2 ^ 62 then .ok ⟨[], rangeD 0 j⟩ S else .bad
  | _ => .bad
def iRange2 (a b : E) : I := fun ρ S => (a ρ S).bind fun x S => (b ρ S).bind fun y S => match x, y with
  | .int i, .int j => if -(2 ^ 62) ≤ i ∧ i < 2 ^ 62 ∧ -(2 ^ 62) ≤ j ∧ j < 2 ^ 62 then .ok ⟨[], rangeD i j⟩ S else .bad
  | _, _ => .bad
def enumD (k : Nat) : List D → List D
  | [] => []
  | d :: ds => .tup [.int (k : Int), d] :: enumD (k + 1) ds
def charsD (s : List Nat) : List D := s.map fun c => .str [c]
/-- a list, a tuple, a text -/
def seqZ (d : D) (S : Sto) : Option (List D) := match d with
  | .str s => some (charsD s)
  | _ => seqOf d S
def iEnum (a : E) : I := fun ρ S => (a ρ S).bind fun x S => match seqZ x S with
  | some ds => .ok ⟨chkOf x S, enumD 0 ds⟩ S
  | none => .bad
def zipD : List D → List D → List D
  | x :: xs, y :: ys => .tup [x, y] :: zipD xs ys
  | _, _ => []
def iZip (a b : E) : I := fun ρ S => (a ρ S).bind fun x S => (b ρ S).bind fun y S => match seqZ x S, seqZ y S with
  | some xs, some ys => .ok ⟨chkOf x S ++ chkOf y S, zipD xs ys⟩ S
  | _, _ => .bad
/-- list(range(..)), tuple(range(..)) -/
def eLRg (i : I) : E := fun ρ S => (i ρ S).bind fun it S => if it.all.length ≤ LIM then alloc (.lst it.all) S else .bad
def eTRg (i : I) : E := fun ρ S => (i ρ S).bind fun it S => if it.all.length ≤ LIM then .ok (.tup it.all) S else .bad
abbrev G := D → Env → Option Env
def gName (i : Nat) : G := fun d ρ => some (ρ.set i (some d))
def setAll : List Nat → List D → Env → Option Env
  | [], [], ρ => some ρ
  | i :: is, d :: ds, ρ => setAll is ds (ρ.set i (some d))
  | _, _, _ => none
def gTup (is : List Nat) : G := fun d ρ => match d with
  | .tup ds => setAll is ds ρ
  | _ => none
def wipe (ρ : Env) : List Nat → Env
  | [] => ρ
  | v :: vs => (wipe ρ vs).set v none
def compLoop (it : Iter) (g : G) (t : T) (e : E) (ρ : Env) : List D → M (List D)
  | [] => fun S => if it.same S then .ok [] S else .bad
  | x :: xs => fun S => if it.same S then match g x ρ with
    | none => .bad
    | some ρ1 => (t ρ1 S).bind fun b S => if b then (e ρ1 S).bind fun y S => (compLoop it g t e ρ xs S).bind fun ys S => .ok (y :: ys) S else compLoop it g t e ρ xs S
    else .bad
def eComp (i : I) (vs : List Nat) (g : G) (t : T) (e : E) : E := fun ρ S => (i ρ S).bind fun it S => (compLoop it g t e (wipe ρ vs) it.all S).bind fun ys S =>
  if ys.length ≤ LIM then alloc (.lst ys) S else .bad
def tYes : T := fun _ S => .ok true S
def sNext : St := fun ρ S => .ok (.nx, ρ) S
def sSeq (a b : St) : St := fun ρ S => (a ρ S).bind fun r S => match r.1 with
  | .nx => b r.2 S
  | f => .ok (f, r.2) S
def sSet (i : Nat) (a : E) : St := fun ρ S => (a ρ S).bind fun x S => .ok (.nx, ρ.set i (some x)) S
/-- a target of names = e -/
def sAsg (g : G) (a : E) : St := fun ρ S => (a ρ S).bind fun x S => match g x ρ with
  | some ρ1 => .ok (.nx, ρ1) S
  | none => .bad
/-- a, b = x, y by names -/
def sPar (is : List Nat) (a : A) : St := fun ρ S => (a ρ S).bind fun xs S => match setAll is xs ρ with
  | some ρ1 => .ok (.nx, ρ1) S
  | none => .bad
def sExpr (a : E) : St := fun ρ S => (a ρ S).bind fun _ S => .ok (.nx, ρ) S
def sRet (a : E) : St := fun ρ S => (a ρ S).bind fun x S => .ok (.rt x, ρ) S
def sIf (t : T) (a b : St) : St := fun ρ S => (t ρ S).bind fun c S => if c then a ρ S else b ρ S
def sBreak : St := fun ρ S => .ok (.bk, ρ) S
def sCont : St := fun ρ S => .ok (.ct, ρ) S
def sRaise (c : Nat) (a : A) : St := fun ρ S => (a ρ S).bind fun xs S => .err ⟨c, xs.head?⟩ S
def forLoop (it : Iter) (g : G) (b : St) : List D → St
  | [] => fun ρ S => if it.same S then .ok (.nx, ρ) S else .bad
  | x :: xs => fun ρ S => if it.same S then match g x ρ with
    | none => .bad
    | some ρ1 => (b ρ1 S).bind fun r S => match r.1 with
      | .nx => forLoop it g b xs r.2 S
      | .ct => forLoop it g b xs r.2 S
      | .bk => .ok (.nx, r.2) S
      | .rt d => .ok (.rt d, r.2) S
    else .bad
def sFor (i : I) (g : G) (b : St) : St := fun ρ S => (i ρ S).bind fun it S => forLoop it g b it.all ρ S
def whileLoop (t : T) (b : St) : Nat → St
  | 0 => fun _ _ => .bad
  | n + 1 => fun ρ S => (t ρ S).bind fun c S => if c then (b ρ S).bind fun r S => match r.1 with
      | .nx => whileLoop t b n r.2 S
      | .ct => whileLoop t b n r.2 S
      | .bk => .ok (.nx, r.2) S
      | .rt d => .ok (.rt d, r.2) S
    else .ok (.nx, ρ) S
/-- the most turns of a while -/
def TURNS : Nat := 1000000000
def sWhile (t : T) (b : St) : St := whileLoop t b TURNS
/-- o[i] = v: v first -/
def setItem (o i v : D) : Sto → Option Sto := fun S => match o, i with
  | .ref n, .int k => match wrOf n S with
    | some ds => match ixN ds.length k with
      | some j => some (S.set n (.lst (ds.set j v)))
      | none => none
    | none => none
  | _, _ => none
def sSub (o i v : E) : St := fun ρ S => (v ρ S).bind fun x S => (o ρ S).bind fun a S => (i ρ S).bind fun k S => match setItem a k x S with
  | some S1 => .ok (.nx, ρ) S1
  | none => .bad
/-- d[k] = v -/
def setDct (o k v : D) : Sto → Option Sto := fun S => match o with
  | .ref n => match dicOf n S with
    | some kvs => if keyOk k ∧ kvs.length < LIM then some (S.set n (.dic (dput kvs k v))) else none
    | none => none
  | _ => none
def sDct (o i v : E) : St := fun ρ S => (v ρ S).bind fun x S => (o ρ S).bind fun a S => (i ρ S).bind fun k S => match setDct a k x S with
  | some S1 => .ok (.nx, ρ) S1
  | none => .bad
def fget (fs : List (Nat × D)) (f : Nat) : Option D := (fs.find? fun p => p.1 == f).map (·.2)
def fput : List (Nat × D) → Nat → D → List (Nat × D)
  | [], f, v => [(f, v)]
  | (a, b) :: r, f, v => if a = f then (a, v) :: r else (a, b) :: fput r f v
/-- an instance of the class c -/
def insOf (c n : Nat) (S : Sto) : Option (List (Nat × D)) := match S[n]? with
  | some (.ins c' fs) => if c' = c then some fs else none
  | _ => none
def gFld (c f : Nat) (x : D) : M D := fun S => match x with
  | .ref n => match insOf c n S with
    | some fs => match fget fs f with
      | some d => .ok d S
      | none => .bad
    | none => .bad
  | _ => .bad
def setFld (c f : Nat) (o v : D) : Sto → Option Sto := fun S => match o with
  | .ref n => match insOf c n S with
    | some fs => if fs.length < 100 then some (S.set n (.ins c (fput fs f v))) else none
    | none => none
  | _ => none
def sFld (c f : Nat) (o v : E) : St := fun ρ S => (v ρ S).bind fun x S => (o ρ S).bind fun a S => match setFld c f a x S with
  | some S1 => .ok (.nx, ρ) S1
  | none => .bad
/-- o.m(..), o of the class c -/
def eMeth (c : Nat) (f : Fn) (o : E) (a : A) : E := fun ρ S => (o ρ S).bind fun x S => match x with
  | .ref n => match insOf c n S with
    | some _ => (a ρ S).bind fun xs S => f (x :: xs) S
    | none => .bad
  | _ => .bad
/-- C(..) -/
def eMake (c : Nat) (init : Fn) (a : A) : E := fun ρ S => (a ρ S).bind fun xs S =>
  (init (.ref S.length :: xs) (S ++ [.ins c []])).bind fun r S1 => if r = .non then .ok (.ref S.length) S1 else .bad
/-- o.m(e): what o is is looked at first -/
def isL (x : D) (S : Sto) : Bool := match x with
  | .ref n => (wrOf n S).isSome
  | _ => false
def eM1 (g : D → D → M D) (o a : E) : E := fun ρ S => (o ρ S).bind fun x S => if isL x S then (a ρ S).bind fun y S => g x y S else .bad
def eM0 (g : D → M D) (o : E) : E := fun ρ S => (o ρ S).bind fun x S => if isL x S then g x S else .bad
def mAppend (x v : D) : M D := fun S => match x with
  | .ref n => match wrOf n S with
    | some ds => if ds.length < LIM then .ok .non (S.set n (.lst (ds ++ [v]))) else .bad
    | none => .bad
  | _ => .bad
def mExtend (x v : D) : M D := fun S => match x, v with
  | .ref n, .ref m => match wrOf n S, wrOf m S with
    | some ds, some es => if n ≠ m ∧ ds.length + es.length ≤ LIM then .ok .non (S.set n (.lst (ds ++ es))) else .bad
    | _, _ => .bad
  | _, _ => .bad
/-- pop(i), 0 ≤ i -/
def mPop (x i : D) : M D := fun S => match x, i with
  | .ref n, .int k => match wrOf n S with
    | some ds => if 0 ≤ k ∧ k < 2 ^ 62 then match ds[k.toNat]? with
        | some d => .ok d (S.set n (.lst (ds.eraseIdx k.toNat)))
        | none => .bad
      else .bad
    | none => .bad
  | _, _ => .bad
def mPopLast (x : D) : M D := fun S => match x with
  | .ref n => match wrOf n S with
    | some ds => match ds[ds.length - 1]? with
      | some d => .ok d (S.set n (.lst ds.dropLast))
      | none => .bad
    | none => .bad
  | _ => .bad
/-- {k: v, ..}: keys numbers and texts -/
def evPairs : List (E × E) → Env → M (List (D × D))
  | [] => fun _ S => .ok [] S
  | (k, v) :: r => fun ρ S => (k ρ S).bind fun x S => (v ρ S).bind fun y S => if keyOk x then (evPairs r ρ S).bind fun q S => .ok ((x, y) :: q) S else .bad
def putAll (kvs : List (D × D)) : List (D × D) → List (D × D)
  | [] => kvs
  | (k, v) :: r => putAll (dput kvs k v) r
def eDict (ps : List (E × E)) : E := fun ρ S => (evPairs ps ρ S).bind fun q S => alloc (.dic (putAll [] q)) S
/-- d.get(k, v) -/
def eGet (o k v : E) : E := fun ρ S => (o ρ S).bind fun x S => match x with
  | .ref n => match dicOf n S with
    | some _ => (k ρ S).bind fun y S => (v ρ S).bind fun z S => match dicOf n S with
      | some kvs => if keyOk y then .ok ((dget kvs y).getD z) S else .bad
      | none => .bad
    | none => .bad
  | _ => .bad
def mUpdate (x y : D) : M D := fun S => match x, y with
  | .ref n, .ref m => match dicOf n S, dicOf m S with
    | some kvs, some ps => if n ≠ m ∧ kvs.length + ps.length ≤ 1000 then .ok .non (S.set n (.dic (putAll kvs ps))) else .bad
    | _, _ => .bad
  | _, _ => .bad
/-- d.update(e) -/
def eUpd (o a : E) : E := fun ρ S => (o ρ S).bind fun x S => match x with
  | .ref n => match dicOf n S with
    | some _ => (a ρ S).bind fun y S => mUpdate x y S
    | none => .bad
  | _ => .bad
/-- tables of the module: texts to constants -/
def kGet (t : List (D × D)) (k v : D) : M D := fun S => match k with
  | .str _ => .ok ((dget t k).getD v) S
  | _ => .bad
def kIx (t : List (D × D)) (k : D) : M D := fun S => match k with
  | .str _ => match dget t k with
    | some d => .ok d S
    | none => .bad
  | _ => .bad
def kIn (t : List (D × D)) (k : D) : M D := fun S => match k with
  | .str _ => .ok (.bl (dget t k).isSome) S
  | _ => .bad
def kNotIn (t : List (D × D)) (k : D) : M D := fun S => match k with
  | .str _ => .ok (.bl (!(dget t k).isSome)) S
  | _ => .bad
def fn (n : Nat) (b : St) : Fn := fun xs S => if xs.length ≤ n then (b (xs.map some ++ List.replicate (n - xs.length) none) S).bind fun r S => match r.1 with
  | .nx => .ok .non S
  | .rt d => .ok d S
  | _ => .bad
  else .bad
end PF
end
section
set_option linter.all false
set_option Elab.async false
set_option linter.all false
set_option maxRecDepth 100003
set_option maxHeartbeats 2000003
set_option autoImplicit false
namespace PF
open PySem L2
/-- names of classes, of fields -/
structure Nm where
  cls : Nat → Str
  fld : Nat → Str
  inj : ∀ a b, fld a = fld b → a = b
  /-- the tables of code objects: by which numbers they are told, where they stand -/
  tabs : List Nat := []
  tab : Nat → Addr := fun _ => 0
def strOf (s : List Nat) : Str := ⟨s.toArray⟩
mutual
def RelD (K : PySem.W.Frag) (M : List Addr) (H : Hp) : D → V → Prop
  | .non, v => v = .non
  | .bl b, v => v = .bl b
  | .int i, v => v = .int i
  | .str s, v => v = .str (strOf s)
  | .tup ds, v => ∃ a vs, v = .ref a ∧ SqT K H a vs ∧ RelDs K M H ds vs
  | .ref n, v => ∃ a, v = .ref a ∧ M[n]? = some a
def RelDs (K : PySem.W.Frag) (M : List Addr) (H : Hp) : List D → List V → Prop
  | [], vs => vs = []
  | d :: ds, vs => ∃ v r, vs = v :: r ∧ RelD K M H d v ∧ RelDs K M H ds r
end
mutual
/-- the key that a tree is -/
def keyN : D → NestedKey
  | .non => .none
  | .bl b => .num (b2i b)
  | .int i => .num i
  | .str s => .text (strOf s)
  | .tup ds => .tup (keyNs ds)
  | .ref _ => .none
def keyNs : List D → List NestedKey
  | [] => []
  | d :: ds => keyN d :: keyNs ds
end
/-- a dict whose keys are the tuples at such addresses, whose values are True -/
def DitP (a : Addr) (xs : List (Int × Addr)) (h : Heap) : Prop := ∃ o es ep, h.get? a = some o ∧ o.ExactDict ∧ o.data = .dict es ep ∧ es.toList = xs.map (fun x => (⟨x.1, .ref x.2, .bool true⟩ : DictEntry)) ∧ (a == sysModules) = false ∧ xs.length ≤ sizeLine
def DitO (a : Addr) (xs : List (Int × Addr)) : HO := .ext (DitP a xs)
def RelX (K : PySem.W.Frag) (M : List Addr) (H : Hp) : List (D × D) → List (Int × Addr) → Prop
  | [], xs => xs = []
  | p :: r, xs => ∃ h b q, xs = (h, b) :: q ∧ p.2 = .bl true ∧ keyT p.1 = true ∧ RelD K M H p.1 (.ref b) ∧ (∀ w : World, (keyN p.1).hash w = h) ∧ RelX K M H r q
def keyD : Key → D
  | .inl i => .int i
  | .inr s => .str s.cps.toList
/-- pairs in a row -/
def RelKs (K : PySem.W.Frag) (M : List Addr) (H : Hp) : List (D × D) → List (Key × V) → Prop
  | [], vs => vs = []
  | p :: r, vs => ∃ k v q, vs = (k, v) :: q ∧ p.1 = keyD k ∧ RelD K M H p.2 v ∧ RelKs K M H r q
def RelFs (nm : Nm) (K : PySem.W.Frag) (M : List Addr) (H : Hp) : List (Nat × D) → List (Str × V) → Prop
  | [], vs => vs = []
  | p :: r, vs => ∃ v q, vs = (nm.fld p.1, v) :: q ∧ RelD K M H p.2 v ∧ RelFs nm K M H r q
def RelO (nm : Nm) (K : PySem.W.Frag) (mg : Str → Option Value) (M : List Addr) (H : Hp) (a : Addr) : MO → Prop
  | .lst ds => ∃ vs, H a = some (.lst vs) ∧ RelDs K M H ds vs
  | .rol ds => ∃ o vs, H a = some (.frz o (.lst vs)) ∧ RelDs K M H ds vs
  | .dic kvs => ∃ ps, H a = some (.dK ps) ∧ RelKs K M H kvs ps
  | .dit kvs => ∃ xs, H a = some (DitO a xs) ∧ RelX K M H kvs xs ∧ (kvs.map (·.1)).Nodup
  | .rod kvs => ∃ o ps, H a = some (.frz o (.dK ps)) ∧ RelKs K M H kvs ps
  | .ins c fs => (∃ C dx gs, H a = some (.ins C dx gs) ∧ mg (nm.cls c) = some (.ref C) ∧ RelFs nm K M H fs gs) ∨ (fs = [] ∧ mg (nm.cls c) = none ∧ c ∈ nm.tabs ∧ a = nm.tab c ∧ LamX.TabS H a (nm.cls c))
/-- what M's addresses may hold -/
def mutO : HO → Prop
  | .lst _ => True
  | .frz _ (.lst _) => True
  | .dK _ => True
  | .frz _ (.dK _) => True
  | .ext _ => True
  | .ins _ _ _ => True
  | .tbl _ => True
  | _ => False
structure RelS (nm : Nm) (K : PySem.W.Frag) (mg : Str → Option Value) (M : List Addr) (S : Sto) (H : Hp) : Prop where
  len : M.length = S.length
  nd : M.Nodup
  obj : ∀ (n : Nat) (a : Addr) (o : MO), M[n]? = some a → S[n]? = some o → RelO nm K mg M H a o
/-- one state behind another: more places, all else as it was -/
structure Ext (M : List Addr) (H : Hp) (M' : List Addr) (H' : Hp) : Prop where
  pre : ∃ T, M' = M ++ T
  new : ∀ a o, a ∈ M' → a ∉ M → H a = some o → ∃ ps, o = .tbl ps
  fr : ∀ a o, H a = some o → a ∉ M → (∀ ps, o ≠ .tbl ps) → H' a = some o
  cod : ∀ a q, H a = some (LamX.CodeO a q) → H' a = some (LamX.CodeO a q)
  frz : ∀ a o ps, H a = some (.frz o (.dK ps)) → H' a = some (.frz o (.dK ps))
structure RelE (K : PySem.W.Frag) (M : List Addr) (H : Hp) (ρ : Env) (σ : L2.St) : Prop where
  len : ρ.length = σ.length
  at_ : ∀ (i : Nat) (d : D), ρ[i]? = some (some d) → ∃ v, σ[i]? = some (some v) ∧ RelD K M H d v
section
variable {nm : Nm} {K : PySem.W.Frag} {mg : Str → Option Value} {M M' M2 : List Addr} {H H' H2 : Hp} {S S' : Sto} {ρ : Env} {σ : L2.St}
theorem Ext.refl : Ext M H M H := ⟨⟨[], by simp⟩, fun a _ h n => absurd h n, fun _ _ h _ _ => h, fun _ _ h => h, fun _ _ _ h => h⟩
theorem Ext.get (e : Ext M H M' H') {n : Nat} {a : Addr} (h : M[n]? = some a) : M'[n]? = some a := by
  obtain ⟨T, rfl⟩ := e.pre
  rw [List.getElem?_append_left (List.getElem?_eq_some_iff.mp h).1]
  exact h
theorem Ext.mem (e : Ext M H M' H') {a : Addr} (h : a ∈ M) : a ∈ M' := by
  obtain ⟨T, rfl⟩ := e.pre
  exact List.mem_append_left _ h
theorem Ext.trans (a : Ext M H M' H') (b : Ext M' H' M2 H2) : Ext M H M2 H2 where
  pre := by
    obtain ⟨T, rfl⟩ := a.pre
    obtain ⟨U, rfl⟩ := b.pre
    exact ⟨T ++ U, by rw [List.append_assoc]⟩
  new := fun x o h n e => by
    by_cases hx : x ∈ M'
    · exact a.new x o hx n e
    · by_cases ht : ∃ ps, o = .tbl ps
      · exact ht
      · exact b.new x o h hx (a.fr x o e n fun ps z => ht ⟨ps, z⟩)
  fr := fun x o h n t => b.fr x o (a.fr x o h n t) (fun hx => by
    obtain ⟨ps, z⟩ := a.new x o hx n h
    exact t ps z) t
  cod := fun x q h => b.cod x q (a.cod x q h)
  frz := fun x o ps h => b.frz x o ps (a.frz x o ps h)
theorem RelS.has (r : RelS nm K mg M S H) {a : Addr} (h : a ∈ M) : ∃ o, H a = some o ∧ mutO o := by
  obtain ⟨n, hn⟩ := List.mem_iff_getElem?.mp h
  have hl : n < S.length := by rw [← r.len]; exact (List.getElem?_eq_some_iff.mp hn).1
  have q := r.obj n a S[n] hn (by simp [hl])
  cases ho : S[n] with
  | lst ds => rw [ho] at q; obtain ⟨vs, q, _⟩ := q; exact ⟨_, q, trivial⟩
  | rol ds => rw [ho] at q; obtain ⟨o, vs, q, _⟩ := q; exact ⟨_, q, trivial⟩
  | dic ds => rw [ho] at q; obtain ⟨ps, q, _⟩ := q; exact ⟨_, q, trivial⟩
  | dit ds => rw [ho] at q; obtain ⟨xs, q, _⟩ := q; exact ⟨_, q, trivial⟩
  | rod ds => rw [ho] at q; obtain ⟨o, ps, q, _⟩ := q; exact ⟨_, q, trivial⟩
  | ins c fs =>
    rw [ho] at q
    rcases q with ⟨C, dx, gs, q, _⟩ | ⟨_, _, _, _, ps, q, _⟩
    · exact ⟨_, q, trivial⟩
    · exact ⟨_, q, trivial⟩
theorem RelS.apart (r : RelS nm K mg M S H) {a : Addr} {o : HO} (h : H a = some o) (n : ¬ mutO o) : a ∉ M := fun hm => by
  obtain ⟨o', e, m⟩ := r.has hm
  rw [h] at e
  cases e
  exact n m
theorem RelS.fresh (r : RelS nm K mg M S H) {a : Addr} (h : H a = none) : a ∉ M := fun hm => by
  obtain ⟨o', e, m⟩ := r.has hm
  rw [h] at e
  cases e
theorem SqT.ext {a : Addr} {vs : List V} (r : RelS nm K mg M S H) (e : Ext M H M' H') (h : SqT K H a vs) : SqT K H' a vs := by
  rcases h with (h | ⟨o, h⟩) | h
  · exact .inl (.inl (e.fr _ _ h (r.apart h fun q => q) (fun _ z => nomatch z)))
  · exact .inl (.inr ⟨o, e.fr _ _ h (r.apart h fun q => q) (fun _ z => nomatch z)⟩)
  · exact .inr h
/-- what values lean on: their places, the tuples -/
structure Mo (K : PySem.W.Frag) (M : List Addr) (H : Hp) (M' : List Addr) (H' : Hp) : Prop where
  get : ∀ (n : Nat) (a : Addr), M[n]? = some a → M'[n]? = some a
  tup : ∀ (a : Addr) (vs : List V), SqT K H a vs → SqT K H' a vs
  cod : ∀ (a : Addr) (q : Str), H a = some (LamX.CodeO a q) → H' a = some (LamX.CodeO a q)
theorem Ext.mo (r : RelS nm K mg M S H) (e : Ext M H M' H') : Mo K M H M' H' := ⟨fun _ _ h => e.get h, fun _ _ h => SqT.ext r e h, e.cod⟩
mutual
theorem RelD.mo (e : Mo K M H M' H') : ∀ {d : D} {v : V}, RelD K M H d v → RelD K M' H' d v
  | .non, _, h => by unfold RelD at h ⊢; exact h
  | .bl _, _, h => by unfold RelD at h ⊢; exact h
  | .int _, _, h => by unfold RelD at h ⊢; exact h
  | .str _, _, h => by unfold RelD at h ⊢; exact h
  | .tup _, _, h => by
    unfold RelD at h ⊢
    obtain ⟨a, vs, h1, h2, h3⟩ := h
    exact ⟨a, vs, h1, e.tup _ _ h2, RelDs.mo e h3⟩
  | .ref _, _, h => by
    unfold RelD at h ⊢
    obtain ⟨a, h1, h2⟩ := h
    exact ⟨a, h1, e.get _ _ h2⟩
theorem RelDs.mo (e : Mo K M H M' H') : ∀ {ds : List D} {vs : List V}, RelDs K M H ds vs → RelDs K M' H' ds vs
  | [], _, h => by unfold RelDs at h ⊢; exact h
  | _ :: _, _, h => by
    unfold RelDs at h ⊢
    obtain ⟨v, q, h1, h2, h3⟩ := h
    exact ⟨v, q, h1, RelD.mo e h2, RelDs.mo e h3⟩
end
theorem RelKs.mo (e : Mo K M H M' H') : ∀ {ds : List (D × D)} {vs : List (Key × V)}, RelKs K M H ds vs → RelKs K M' H' ds vs
  | [], _, h => h
  | _ :: _, _, h => by
    obtain ⟨k, v, q, h1, h2, h3, h4⟩ := h
    exact ⟨k, v, q, h1, h2, RelD.mo e h3, RelKs.mo e h4⟩
theorem RelX.mo (e : Mo K M H M' H') : ∀ {ds : List (D × D)} {vs : List (Int × Addr)}, RelX K M H ds vs → RelX K M' H' ds vs
  | [], _, h => h
  | _ :: _, _, h => by
    obtain ⟨k, v, q, h1, h2, h3, h4, h5, h6⟩ := h
    exact ⟨k, v, q, h1, h2, h3, RelD.mo e h4, h5, RelX.mo e h6⟩
theorem RelFs.mo (e : Mo K M H M' H') : ∀ {ds : List (Nat × D)} {vs : List (Str × V)}, RelFs nm K M H ds vs → RelFs nm K M' H' ds vs
  | [], _, h => h
  | _ :: _, _, h => by
    obtain ⟨v, q, h1, h2, h3⟩ := h
    exact ⟨v, q, h1, RelD.mo e h2, RelFs.mo e h3⟩
theorem RelE.mo (e : Mo K M H M' H') (h : RelE K M H ρ σ) : RelE K M' H' ρ σ :=
  ⟨h.len, fun i d hi => let ⟨v, h1, h2⟩ := h.at_ i d hi; ⟨v, h1, RelD.mo e h2⟩⟩
theorem RelO.mo {a : Addr} {o : MO} (e : Mo K M H M' H') (k : H' a = H a) (h : RelO nm K mg M H a o) : RelO nm K mg M' H' a o := by
  cases o with
  | lst ds => obtain ⟨vs, h1, h2⟩ := h; exact ⟨vs, by rw [k]; exact h1, RelDs.mo e h2⟩
  | rol ds => obtain ⟨ob, vs, h1, h2⟩ := h; exact ⟨ob, vs, by rw [k]; exact h1, RelDs.mo e h2⟩
  | dic ds => obtain ⟨vs, h1, h2⟩ := h; exact ⟨vs, by rw [k]; exact h1, RelKs.mo e h2⟩
  | dit ds => obtain ⟨xs, h1, h2, h3⟩ := h; exact ⟨xs, by rw [k]; exact h1, RelX.mo e h2, h3⟩
  | rod ds => obtain ⟨ob, vs, h1, h2⟩ := h; exact ⟨ob, vs, by rw [k]; exact h1, RelKs.mo e h2⟩
  | ins c fs =>
    rcases h with ⟨C, dx, gs, h1, h2, h3⟩ | ⟨h1, h2, t1, t2, ps, h3, h4, h5⟩
    · exact .inl ⟨C, dx, gs, by rw [k]; exact h1, h2, RelFs.mo e h3⟩
    · exact .inr ⟨h1, h2, t1, t2, ps, by rw [k]; exact h3, h4, fun pos cv hc => let ⟨c', e1, e2⟩ := h5 pos cv hc; ⟨c', e1, e.cod _ _ e2⟩⟩
theorem RelD.ext (r : RelS nm K mg M S H) (e : Ext M H M' H') {d : D} {v : V} (h : RelD K M H d v) : RelD K M' H' d v := h.mo (e.mo r)
theorem RelDs.ext (r : RelS nm K mg M S H) (e : Ext M H M' H') {ds : List D} {vs : List V} (h : RelDs K M H ds vs) : RelDs K M' H' ds vs := h.mo (e.mo r)
theorem RelKs.ext (r : RelS nm K mg M S H) (e : Ext M H M' H') {ds : List (D × D)} {vs : List (Key × V)} (h : RelKs K M H ds vs) : RelKs K M' H' ds vs := h.mo (e.mo r)
theorem RelFs.ext (r : RelS nm K mg M S H) (e : Ext M H M' H') {ds : List (Nat × D)} {vs : List (Str × V)} (h : RelFs nm K M H ds vs) : RelFs nm K M' H' ds vs := h.mo (e.mo r)
theorem RelE.ext (r : RelS nm K mg M S H) (e : Ext M H M' H') (h : RelE K M H ρ σ) : RelE K M' H' ρ σ := h.mo (e.mo r)
theorem RelDs.length : ∀ {ds : List D} {vs : List V}, RelDs K M H ds vs → ds.length = vs.length
  | [], _, h => by unfold RelDs at h; subst h; rfl
  | _ :: _, _, h => by
    unfold RelDs at h
    obtain ⟨v, q, rfl, _, h⟩ := h
    simp [RelDs.length h]
theorem RelDs.nil : RelDs K M H [] [] := by unfold RelDs; rfl
theorem RelDs.cons {d : D} {v : V} {ds : List D} {vs : List V} (h : RelD K M H d v) (t : RelDs K M H ds vs) : RelDs K M H (d :: ds) (v :: vs) := by
  unfold RelDs
  exact ⟨v, vs, rfl, h, t⟩
theorem RelDs.get : ∀ {ds : List D} {vs : List V} {i : Nat} {d : D}, RelDs K M H ds vs → ds[i]? = some d → ∃ v, vs[i]? = some v ∧ RelD K M H d v
  | [], _, _, _, _, e => by simp at e
  | _ :: _, _, 0, _, h, e => by
    unfold RelDs at h
    obtain ⟨v, q, rfl, h1, _⟩ := h
    simp at e
    subst e
    exact ⟨v, rfl, h1⟩
  | _ :: _, _, i + 1, d, h, e => by
    unfold RelDs at h
    obtain ⟨v, q, rfl, _, h⟩ := h
    obtain ⟨u, h1, h2⟩ := RelDs.get (i := i) (d := d) h (by simpa using e)
    exact ⟨u, by simpa using h1, h2⟩
theorem RelDs.append : ∀ {ds es : List D} {vs us : List V}, RelDs K M H ds vs → RelDs K M H es us → RelDs K M H (ds ++ es) (vs ++ us)
  | [], _, _, _, h, t => by unfold RelDs at h; subst h; exact t
  | _ :: _, _, _, _, h, t => by
    unfold RelDs at h
    obtain ⟨v, q, rfl, h1, h⟩ := h
    exact .cons h1 (RelDs.append h t)
theorem RelDs.set : ∀ {ds : List D} {vs : List V} {d : D} {v : V} (i : Nat), RelDs K M H ds vs → RelD K M H d v → RelDs K M H (ds.set i d) (vs.set i v)
  | [], _, _, _, _, h, _ => by unfold RelDs at h; subst h; exact .nil
  | _ :: _, _, _, _, 0, h, r => by
    unfold RelDs at h
    obtain ⟨v, q, rfl, h1, h⟩ := h
    exact .cons r h
  | _ :: _, _, _, _, i + 1, h, r => by
    unfold RelDs at h
    obtain ⟨v, q, rfl, h1, h⟩ := h
    exact .cons h1 (RelDs.set i h r)
theorem RelDs.take : ∀ {ds : List D} {vs : List V} (n : Nat), RelDs K M H ds vs → RelDs K M H (ds.take n) (vs.take n)
  | [], _, n, h => by unfold RelDs at h; subst h; simp [RelDs.nil]
  | _ :: _, _, 0, h => by simp [RelDs.nil]
  | _ :: _, _, n + 1, h => by
    unfold RelDs at h
    obtain ⟨v, q, rfl, h1, h⟩ := h
    exact .cons h1 (RelDs.take n h)
theorem RelDs.drop : ∀ {ds : List D} {vs : List V} (n : Nat), RelDs K M H ds vs → RelDs K M H (ds.drop n) (vs.drop n)
  | [], _, n, h => by unfold RelDs at h; subst h; simp [RelDs.nil]
  | _ :: _, _, 0, h => h
  | _ :: _, _, n + 1, h => by
    unfold RelDs at h
    obtain ⟨v, q, rfl, h1, h⟩ := h
    exact RelDs.drop n h
theorem RelDs.eraseIdx : ∀ {ds : List D} {vs : List V} (n : Nat), RelDs K M H ds vs → RelDs K M H (ds.eraseIdx n) (vs.eraseIdx n)
  | [], _, n, h => by unfold RelDs at h; subst h; simp [RelDs.nil]
  | _ :: _, _, 0, h => by
    unfold RelDs at h
    obtain ⟨v, q, rfl, h1, h⟩ := h
    exact h
  | _ :: _, _, n + 1, h => by
    unfold RelDs at h
    obtain ⟨v, q, rfl, h1, h⟩ := h
    exact .cons h1 (RelDs.eraseIdx n h)
/-- a list is to be read -/
theorem RelS.lst (r : RelS nm K mg M S H) {n : Nat} {a : Addr} {ds : List D} (hn : M[n]? = some a) (h : lstOf n S = some ds) : ∃ vs, SqL K H a vs ∧ RelDs K M H ds vs := by
  unfold lstOf at h
  cases q : S[n]? with
  | none => rw [q] at h; cases h
  | some o =>
    rw [q] at h
    have z := r.obj n a o hn q
    cases o with
    | lst xs => cases h; obtain ⟨vs, h1, h2⟩ := z; exact ⟨vs, .inl (.inl h1), h2⟩
    | rol xs => cases h; obtain ⟨ob, vs, h1, h2⟩ := z; exact ⟨vs, .inl (.inr ⟨ob, h1⟩), h2⟩
    | dic _ => cases h
    | dit _ => cases h
    | rod _ => cases h
    | ins _ _ => cases h
theorem RelS.at_ (r : RelS nm K mg M S H) {n : Nat} {o : MO} (h : S[n]? = some o) : ∃ a, M[n]? = some a := by
  have hl : n < M.length := by rw [r.len]; exact (List.getElem?_eq_some_iff.mp h).1
  exact ⟨M[n], by simp [hl]⟩
theorem Ext.push {a : Addr} {o : HO} (h : H a = none) : Ext M H (M ++ [a]) (upd H a o) where
  pre := ⟨[a], rfl⟩
  new := fun x o hx n e => by
    rcases List.mem_append.mp hx with z | z
    · exact absurd z n
    · have : x = a := by simpa using z
      rw [this, h] at e
      cases e
  fr := fun x o e _ _ => by
    rw [upd_ne (ne_of_none e h)]
    exact e
  cod := fun x q e => by
    rw [upd_ne (ne_of_none e h)]
    exact e
  frz := fun x o ps e => by
    rw [upd_ne (ne_of_none e h)]
    exact e
theorem Ext.tup {a : Addr} {o : HO} (h : H a = none) : Ext M H M (upd H a o) where
  pre := ⟨[], by simp⟩
  new := fun x _ hx n => absurd hx n
  fr := fun x o e _ _ => by
    rw [upd_ne (ne_of_none e h)]
    exact e
  cod := fun x q e => by
    rw [upd_ne (ne_of_none e h)]
    exact e
  frz := fun x o ps e => by
    rw [upd_ne (ne_of_none e h)]
    exact e
theorem RelO.ext {a : Addr} {o : MO} (r : RelS nm K mg M S H) (e : Ext M H M' H') (k : H' a = H a) (h : RelO nm K mg M H a o) : RelO nm K mg M' H' a o := h.mo (e.mo r) k
/-- a new tuple, another new thing that is not named -/
theorem RelS.tup {a : Addr} {o : HO} (r : RelS nm K mg M S H) (h : H a = none) : RelS nm K mg M S (upd H a o) :=
  ⟨r.len, r.nd, fun n b ob h1 h2 => (r.obj n b ob h1 h2).ext r (Ext.tup h) (upd_ne fun e => r.fresh h (by rw [← e]; exact List.mem_of_getElem? h1))⟩
theorem RelS.push {a : Addr} {o : HO} {mo : MO} (r : RelS nm K mg M S H) (h : H a = none) (ho : RelO nm K mg (M ++ [a]) (upd H a o) a mo) : RelS nm K mg (M ++ [a]) (S ++ [mo]) (upd H a o) := by
  refine ⟨by simp [r.len], ?_, fun n b ob h1 h2 => ?_⟩
  · refine List.nodup_append.mpr ⟨r.nd, by simp, fun x hx y hy e => ?_⟩
    have : y = a := by simpa using hy
    subst this
    subst e
    exact r.fresh h hx
  · by_cases hn : n < M.length
    · rw [List.getElem?_append_left hn] at h1
      rw [List.getElem?_append_left (by rw [← r.len]; exact hn)] at h2
      exact (r.obj n b ob h1 h2).ext r (Ext.push h) (upd_ne fun e => r.fresh h (by rw [← e]; exact List.mem_of_getElem? h1))
    · have hn1 : n < (M ++ [a]).length := (List.getElem?_eq_some_iff.mp h1).1
      rw [List.length_append, List.length_singleton] at hn1
      have e : n = M.length := by omega
      subst e
      rw [List.getElem?_append_right (Nat.le_refl _), Nat.sub_self] at h1
      rw [r.len, List.getElem?_append_right (Nat.le_refl _), Nat.sub_self] at h2
      cases h1
      cases h2
      exact ho
/-- an object that is there already gets a place, as it then is -/
theorem Mo.adopt {a : Addr} {o o' : HO} (h : H a = some o') (n : ∀ vs, o' ≠ .tup vs) (n2 : ∀ b u, o' ≠ .frz b u) (n3 : ∀ q, o' ≠ LamX.CodeO a q := by intro q z; cases z) : Mo K M H (M ++ [a]) (upd H a o) := by
  refine ⟨fun m b hb => ?_, fun b vs hb => ?_, fun b q hb => ?_⟩
  · rw [List.getElem?_append_left (List.getElem?_eq_some_iff.mp hb).1]
    exact hb
  · rcases hb with (hb | ⟨ob, hb⟩) | hb
    · exact .inl (.inl (by rw [upd_ne (ne_of hb h (fun z => n vs z.symm))]; exact hb))
    · exact .inl (.inr ⟨ob, by rw [upd_ne (ne_of hb h (fun z => n2 ob (.tup vs) z.symm))]; exact hb⟩)
    · exact .inr hb
  · have nb : b ≠ a := fun z => by
      rw [z, h] at hb
      exact n3 q (Option.some.inj hb)
    rw [upd_ne nb]
    exact hb
theorem RelS.adopt {a : Addr} {o o' : HO} {mo : MO} (r : RelS nm K mg M S H) (na : a ∉ M) (h : H a = some o') (n : ∀ vs, o' ≠ .tup vs) (n2 : ∀ b u, o' ≠ .frz b u) (ho : RelO nm K mg (M ++ [a]) (upd H a o) a mo) (n3 : ∀ q, o' ≠ LamX.CodeO a q := by intro q z; cases z) : RelS nm K mg (M ++ [a]) (S ++ [mo]) (upd H a o) := by
  refine ⟨by simp [r.len], ?_, fun m b ob h1 h2 => ?_⟩
  · refine List.nodup_append.mpr ⟨r.nd, by simp, fun x hx y hy e => ?_⟩
    have : y = a := by simpa using hy
    subst this
    subst e
    exact na hx
  · by_cases hn : m < M.length
    · rw [List.getElem?_append_left hn] at h1
      rw [List.getElem?_append_left (by rw [← r.len]; exact hn)] at h2
      exact (r.obj m b ob h1 h2).mo (Mo.adopt h n n2 n3) (upd_ne fun e => na (by rw [← e]; exact List.mem_of_getElem? h1))
    · have hn1 : m < (M ++ [a]).length := (List.getElem?_eq_some_iff.mp h1).1
      rw [List.length_append, List.length_singleton] at hn1
      have e : m = M.length := by omega
      subst e
      rw [List.getElem?_append_right (Nat.le_refl _), Nat.sub_self] at h1
      rw [r.len, List.getElem?_append_right (Nat.le_refl _), Nat.sub_self] at h2
      cases h1
      cases h2
      exact ho
/-- .. seen from where it was new -/
theorem Ext.adopt {M1 : List Addr} {H1 : Hp} {a : Addr} {o o0 : HO} (h0 : H a = none) (e : Ext M (upd H a o0) M1 H1) (na : a ∉ M) : Ext M H (M1 ++ [a]) (upd H1 a o) := by
  have e0 : Ext M H M1 H1 := (Ext.tup h0).trans e
  have nx : ∀ {x : Addr} {u : HO}, H x = some u → x ≠ a := fun {x u} hx z => by rw [z, h0] at hx; cases hx
  refine ⟨?_, fun x u hx n eu => ?_, fun x u hx n t => ?_, fun x q hx => ?_, fun x u ps hx => ?_⟩
  · obtain ⟨T, rfl⟩ := e.pre
    exact ⟨T ++ [a], by rw [List.append_assoc]⟩
  · rcases List.mem_append.mp hx with z | z
    · exact e0.new x u z n eu
    · have : x = a := by simpa using z
      exact absurd this (nx eu)
  · rw [upd_ne (nx hx)]
    exact e0.fr x u hx n t
  · rw [upd_ne (nx hx)]
    exact e0.cod x q hx
  · rw [upd_ne (nx hx)]
    exact e0.frz x u ps hx
theorem Ext.kept {M1 : List Addr} {H1 : Hp} {a : Addr} {o0 : HO} (e : Ext M (upd H a o0) M1 H1) (na : a ∉ M) (nt : ∀ ps, o0 ≠ .tbl ps := by intro ps z; cases z) : H1 a = some o0 ∧ a ∉ M1 := ⟨e.fr a _ upd_same na nt, fun hm => by
  obtain ⟨ps, z⟩ := e.new a _ hm na upd_same
  exact nt ps z⟩
theorem RelS.last (r : RelS nm K mg M S H) {a : Addr} : (M ++ [a])[S.length]? = some a := by
  rw [← r.len, List.getElem?_append_right (Nat.le_refl _), Nat.sub_self]
  rfl
/-- an object is changed -/
theorem Ext.set {a : Addr} {o o0 : HO} (h : a ∈ M) (h0 : H a = some o0) (hf : ∀ u ps, o0 ≠ .frz u (.dK ps)) (hk : ∀ q, o0 ≠ LamX.CodeO a q := by intro q z; cases z) : Ext M H M (upd H a o) where
  pre := ⟨[], by simp⟩
  new := fun x _ hx n => absurd hx n
  fr := fun x o e n _ => by
    rw [upd_ne (fun z => n (by rw [z]; exact h))]
    exact e
  cod := fun x q e => by
    rw [upd_ne (fun z => hk q (by rw [z, h0] at e; rw [Option.some.inj e]))]
    exact e
  frz := fun x u ps e => by
    rw [upd_ne (fun z => by rw [z, h0] at e; cases e; exact hf u ps rfl)]
    exact e
theorem RelS.set {n : Nat} {a : Addr} {o o0 : HO} {mo : MO} (r : RelS nm K mg M S H) (hn : M[n]? = some a) (h0 : H a = some o0) (hf : ∀ u ps, o0 ≠ .frz u (.dK ps)) (ho : RelO nm K mg M (upd H a o) a mo) (hk : ∀ q, o0 ≠ LamX.CodeO a q := by intro q z; cases z) : RelS nm K mg M (S.set n mo) (upd H a o) := by
  refine ⟨by simp [r.len], r.nd, fun m b ob h1 h2 => ?_⟩
  by_cases e : m = n
  · subst e
    rw [hn] at h1
    cases h1
    rw [List.getElem?_set_self (by rw [← r.len]; exact (List.getElem?_eq_some_iff.mp hn).1)] at h2
    cases h2
    exact ho
  · rw [List.getElem?_set_ne (Ne.symm e)] at h2
    refine (r.obj m b ob h1 h2).ext r (Ext.set (List.mem_of_getElem? hn) h0 hf hk) (upd_ne fun z => e ?_)
    subst z
    exact nd_ix r.nd h1 hn
end
end PF
end
section
set_option linter.all false
set_option Elab.async false
set_option linter.all false
set_option maxRecDepth 100003
set_option maxHeartbeats 2000003
set_option autoImplicit false
namespace PF
open PySem L2
theorem bind_inv {α β : Type} {o : Out α} {k : α → M β} {b : β} {S' : Sto} (h : o.bind k = .ok b S') : ∃ a S1, o = .ok a S1 ∧ k a S1 = .ok b S' := by
  cases o with
  | ok a S => exact ⟨a, S, rfl, h⟩
  | err e S => cases h
  | bad => cases h
section
variable (nm : Nm) (X : Cx)
/-- what follows of a value -/
def KD (M : List Addr) (H : Hp) (S' : Sto) (d : D) (Q : VK) : Prop := ∀ M' H' v, Ext M H M' H' → RelS nm X.K X.mg M' S' H' → RelD X.K M' H' d v → Q v H'
def rE (f : E) : TE := fun σ H Q => ∃ M ρ S d S', RelS nm X.K X.mg M S H ∧ RelE X.K M H ρ σ ∧ f ρ S = .ok d S' ∧ KD nm X M H S' d Q
def rT (f : T) : TT := fun σ H Q => ∃ M ρ S b S', RelS nm X.K X.mg M S H ∧ RelE X.K M H ρ σ ∧ f ρ S = .ok b S' ∧ ∀ M' H', Ext M H M' H' → RelS nm X.K X.mg M' S' H' → Q b H'
def rA (f : A) : TA := fun σ H Q => ∃ M ρ S ds S', RelS nm X.K X.mg M S H ∧ RelE X.K M H ρ σ ∧ f ρ S = .ok ds S' ∧ ∀ M' H' vs, Ext M H M' H' → RelS nm X.K X.mg M' S' H' → RelDs X.K M' H' ds vs → Q vs H'
def rO (f : O) : TO := fun σ H Q => ∃ M ρ S o S', RelS nm X.K X.mg M S H ∧ RelE X.K M H ρ σ ∧ f ρ S = .ok o S' ∧ ∀ M' H', Ext M H M' H' → RelS nm X.K X.mg M' S' H' → Q o H'
/-- what follows a statement -/
def KS (M : List Addr) (H : Hp) (S' : Sto) (r : Fl × Env) (D : Ends) : Prop := ∀ M' H' σ', Ext M H M' H' → RelS nm X.K X.mg M' S' H' → RelE X.K M' H' r.2 σ' →
  match r.1 with
  | .nx => D.nx σ' H'
  | .bk => D.bk σ' H'
  | .ct => D.ct σ' H'
  | .rt d => ∀ v, RelD X.K M' H' d v → D.rt v H'
def rS (f : St) : TS := fun D σ H => ∃ M ρ S r S', RelS nm X.K X.mg M S H ∧ RelE X.K M H ρ σ ∧ f ρ S = .ok r S' ∧ KS nm X M H S' r D
abbrev PX (e : Expr) (f : E) : Prop := PE X e (rE nm X f)
abbrev PXT (e : Expr) (f : T) : Prop := PT X e (rT nm X f)
abbrev PXW (e : Expr) (f : T) : Prop := PW X e (rT nm X f)
abbrev PXA (es : List Expr) (f : A) : Prop := PA X es (rA nm X f)
abbrev PXO (e : Option Expr) (f : O) : Prop := PO X e (rO nm X f)
abbrev PXS (s : Stmt) (f : St) : Prop := PS X s (rS nm X f)
abbrev PXSs (s : List Stmt) (f : St) : Prop := PSs X s (rS nm X f)
/-- a two-place operation on values by the layer's reading r, by PF's g -/
def Op2 (r : R2) (g : D → D → M D) : Prop := ∀ (M : List Addr) (S : Sto) (H : Hp) (x y : D) (vx vy : V) (d : D) (S' : Sto) (Q : VK), RelS nm X.K X.mg M S H → RelD X.K M H x vx → RelD X.K M H y vy → g x y S = .ok d S' → KD nm X M H S' d Q → r vx vy H Q
def OpN (r : List V → Hp → VK → Prop) (g : Fn) : Prop := ∀ (M : List Addr) (S : Sto) (H : Hp) (xs : List D) (vs : List V) (d : D) (S' : Sto) (Q : VK), RelS nm X.K X.mg M S H → RelDs X.K M H xs vs → g xs S = .ok d S' → KD nm X M H S' d Q → r vs H Q
end
theorem PE.imp {X : Cx} {e : Expr} {t u : TE} (h : PE X e t) (i : ∀ σ H Q, u σ H Q → t σ H Q) : PE X e u := ⟨fun pins s σ H Q I q => h.run pins s σ H Q I (i σ H Q q)⟩
theorem PT.imp {X : Cx} {e : Expr} {t u : TT} (h : PT X e t) (i : ∀ σ H Q, u σ H Q → t σ H Q) : PT X e u := ⟨fun pins s σ H Q I q => h.run pins s σ H Q I (i σ H Q q)⟩
theorem PW.imp {X : Cx} {e : Expr} {t u : TT} (h : PW X e t) (i : ∀ σ H Q, u σ H Q → t σ H Q) : PW X e u := ⟨fun wh pins s σ H Q I q => h.run wh pins s σ H Q I (i σ H Q q)⟩
theorem PA.imp {X : Cx} {e : List Expr} {t u : TA} (h : PA X e t) (i : ∀ σ H Q, u σ H Q → t σ H Q) : PA X e u := ⟨fun pos pins s σ H Q I q => h.run pos pins s σ H Q I (i σ H Q q)⟩
theorem PO.imp {X : Cx} {e : Option Expr} {t u : TO} (h : PO X e t) (i : ∀ σ H Q, u σ H Q → t σ H Q) : PO X e u := ⟨fun pins s σ H Q I q => h.run pins s σ H Q I (i σ H Q q)⟩
theorem PS.imp {X : Cx} {e : Stmt} {t u : TS} (h : PS X e t) (i : ∀ σ H D, u D σ H → t D σ H) : PS X e u := ⟨fun pins s σ H D I q => h.run pins s σ H D I (i σ H D q)⟩
theorem PSs.imp {X : Cx} {e : List Stmt} {t u : TS} (h : PSs X e t) (i : ∀ σ H D, u D σ H → t D σ H) : PSs X e u := ⟨fun pins s σ H D I q => h.run pins s σ H D I (i σ H D q)⟩
section
variable {nm : Nm} {X : Cx} {M M' : List Addr} {H H' : Hp} {S S' S1 : Sto} {ρ : Env} {σ : L2.St} {Q : VK} {d : D}
theorem KD.ext (k : KD nm X M H S' d Q) (e : Ext M H M' H') : KD nm X M' H' S' d Q := fun M2 H2 v e2 r q => k M2 H2 v (e.trans e2) r q
theorem KS.ext {r : Fl × Env} {D : Ends} (k : KS nm X M H S' r D) (e : Ext M H M' H') : KS nm X M' H' S' r D := fun M2 H2 v e2 r q => k M2 H2 v (e.trans e2) r q
theorem KD.here (k : KD nm X M H S' d Q) {v : V} (r : RelS nm X.K X.mg M S' H) (q : RelD X.K M H d v) : Q v H := k M H v Ext.refl r q
/-- a part's reading, then the rest -/
theorem rE.go {f : E} {P : VK} (r : RelS nm X.K X.mg M S H) (e : RelE X.K M H ρ σ) (h : f ρ S = .ok d S1)
    (k : ∀ M1 H1 v, Ext M H M1 H1 → RelS nm X.K X.mg M1 S1 H1 → RelD X.K M1 H1 d v → P v H1) : rE nm X f σ H P := ⟨M, ρ, S, d, S1, r, e, h, k⟩
/-- a new list -/
theorem KD.push {a : Addr} {ds : List D} {vs : List V} (k : KD nm X M H (S ++ [.lst ds]) (.ref S.length) Q) (r : RelS nm X.K X.mg M S H) (q : RelDs X.K M H ds vs) (h : H a = none) : Q (.ref a) (upd H a (.lst vs)) := by
  refine k _ _ _ (Ext.push h) (r.push h ⟨vs, upd_same, RelDs.ext r (Ext.push h) q⟩) ?_
  unfold RelD
  exact ⟨a, rfl, r.last⟩
/-- a new tuple -/
theorem KD.tup {a : Addr} {ds : List D} {vs : List V} (k : KD nm X M H S (.tup ds) Q) (r : RelS nm X.K X.mg M S H) (q : RelDs X.K M H ds vs) (h : H a = none) : Q (.ref a) (upd H a (.tup vs)) := by
  refine k _ _ _ (Ext.tup h) (r.tup h) ?_
  unfold RelD
  exact ⟨a, vs, rfl, .inl (.inl upd_same), RelDs.ext r (Ext.tup h) q⟩
theorem px_var {i : Nat} {x : Str} {pos : Pos} (hN : X.N[i]? = some x) (hv : Vis X.env.scope x) (hd : (x == ("__debug__" : Str)) = false) (hcd : (x == ("__classdict__" : Str)) = false) : PX nm X (.Name x pos) (eVar i) := by
  refine PE.imp (pe_var hN hv hd hcd) fun σ H Q ⟨M, ρ, S, d, S', r, e, h, k⟩ => ?_
  unfold eVar at h
  cases q : ρ[i]? with
  | none => rw [q] at h; cases h
  | some o =>
    rw [q] at h
    cases o with
    | none => cases h
    | some d' =>
      cases h
      obtain ⟨v, h1, h2⟩ := e.at_ i _ q
      exact ⟨v, h1, k.here r h2⟩
/-- constants -/
inductive Cst : D → V → Prop
  | non : Cst .non .non
  | bl (b : Bool) : Cst (.bl b) (.bl b)
  | int (i : Int) : Cst (.int i) (.int i)
  | str {s : List Nat} {x : Str} (h : strOf s = x) : Cst (.str s) (.str x)
theorem Cst.rel {K : PySem.W.Frag} {v : V} (c : Cst d v) : RelD K M H d v := by
  cases c <;> unfold RelD <;> first | rfl | (congr; exact Eq.symm ‹_›)
theorem px_c {e : Expr} {v : V} (h : PE X e (tC v)) (c : Cst d v) : PX nm X e (eC d) :=
  PE.imp h fun σ H Q ⟨M, ρ, S, d', S', r, e, h, k⟩ => by
    unfold eC at h
    cases h
    exact k.here r c.rel
theorem px_int {i : Int} {j : Nat} {pos : Pos} : PX nm X (.Constant (.int i) j pos) (eC (.int i)) := px_c pe_int (.int i)
theorem px_bl {b : Bool} {j : Nat} {pos : Pos} : PX nm X (.Constant (.bool b) j pos) (eC (.bl b)) := px_c pe_bl (.bl b)
theorem px_non {j : Nat} {pos : Pos} : PX nm X (.Constant .none j pos) (eC .non) := px_c pe_non .non
theorem px_str {s : List Nat} {x : Str} {j : Nat} {pos : Pos} (h : strOf s = x) : PX nm X (.Constant (.str x) j pos) (eC (.str s)) := px_c pe_str (.str h)
/-- a module's constant -/
theorem px_glob {x : Str} {v : V} {u : Value} {pos : Pos} (hg : Gl X x) (hm : X.mg x = some u) (r : RelV v u) (c : Cst d v) (hd : (x == ("__debug__" : Str)) = false) : PX nm X (.Name x pos) (eC d) := px_c (pe_glob hg hm r hd) c
theorem px_e2 {r : R2} {g : D → D → PF.M D} {a b : Expr} {fa fb : E} {e : Expr} (h : PE X e (tOp r (rE nm X fa) (rE nm X fb))) (hg : Op2 nm X r g) : PX nm X e (e2 g fa fb) :=
  PE.imp h fun σ H Q ⟨M, ρ, S, d, S', rs, re, h, k⟩ => by
    unfold e2 at h
    obtain ⟨x, S1, h1, h⟩ := bind_inv h
    obtain ⟨y, S2, h2, h⟩ := bind_inv h
    refine rE.go rs re h1 fun M1 H1 vx e1 r1 q1 => ?_
    refine rE.go r1 (re.ext rs e1) h2 fun M2 H2 vy e2 r2 q2 => ?_
    exact hg M2 S2 H2 x y vx vy d S' Q r2 (RelD.ext r1 e2 q1) q2 h (k.ext (e1.trans e2))
theorem px_op {op : Operator} {r : R2} {g : D → D → PF.M D} {a b : Expr} {fa fb : E} {pos : Pos} (ho : OpR X (binaryOp op) r) (hg : Op2 nm X r g) (ha : PX nm X a fa) (hb : PX nm X b fb) : PX nm X (.BinOp a op b pos) (e2 g fa fb) := px_e2 (a := a) (b := b) (pe_op ho ha hb) hg
theorem px_cmp {op : CmpOp} {r : R2} {g : D → D → PF.M D} {a b : Expr} {fa fb : E} {pos : Pos} (ho : OpR X (compareOp op) r) (hg : Op2 nm X r g) (ha : PX nm X a fa) (hb : PX nm X b fb) (hm : behindInMarks op b = false) : PX nm X (.Compare a [op] [b] pos) (e2 g fa fb) := px_e2 (a := a) (b := b) (pe_cmpR ho ha hb hm) hg
theorem pxt_of {e : Expr} {f : E} (h : PT X e (tTest (rE nm X f))) : PXT nm X e (tE f) :=
  PT.imp h fun σ H Q ⟨M, ρ, S, b, S', rs, re, h, k⟩ => by
    unfold tE at h
    obtain ⟨x, S1, h1, h⟩ := bind_inv h
    refine rE.go rs re h1 fun M1 H1 v e1 r1 q1 => ?_
    cases x with
    | bl c => cases h; unfold RelD at q1; exact ⟨_, q1, k M1 H1 e1 r1⟩
    | _ => cases h
theorem PT.ofE {e : Expr} {t : TE} (h : PE X e t) (he : ∀ whole, isTrue e X.env whole = (do let v ← whole; standAt e.pos; holding [v] (truthy v))) : PT X e (tTest t) := pt_val h he
/-- a call, a name, .. as a test -/
theorem pxt_val {e : Expr} {f : E} (h : PX nm X e f) (he : ∀ whole, isTrue e X.env whole = (do let v ← whole; standAt e.pos; holding [v] (truthy v))) : PXT nm X e (tE f) := pxt_of (PT.ofE h he)
theorem pxt_cmp {op : CmpOp} {r : R2} {g : D → D → PF.M D} {a b : Expr} {fa fb : E} {pos : Pos} (ho : OpR X (compareOp op) r) (hg : Op2 nm X r g) (ha : PX nm X a fa) (hb : PX nm X b fb) (hm : behindInMarks op b = false) : PXT nm X (.Compare a [op] [b] pos) (tE (e2 g fa fb)) :=
  PT.imp (pt_cmpR ho ha hb hm) fun σ H Q ⟨M, ρ, S, b, S', rs, re, h, k⟩ => by
    unfold tE at h
    obtain ⟨z, S3, h0, h⟩ := bind_inv h
    unfold e2 at h0
    obtain ⟨x, S1, h1, h0⟩ := bind_inv h0
    obtain ⟨y, S2, h2, h0⟩ := bind_inv h0
    refine rE.go rs re h1 fun M1 H1 vx e1 r1 q1 => ?_
    refine rE.go r1 (re.ext rs e1) h2 fun M2 H2 vy e2 r2 q2 => ?_
    refine hg M2 S2 H2 x y vx vy z S3 _ r2 (RelD.ext r1 e2 q1) q2 h0 fun M3 H3 v e3 r3 q3 => ?_
    cases z with
    | bl c => cases h; unfold RelD at q3; exact ⟨_, q3, k M3 H3 ((e1.trans e2).trans e3) r3⟩
    | _ => cases h
/-- is None -/
theorem px_isN {a : Expr} {fa : E} {pos pos' : Pos} {j : Nat} (ha : PX nm X a fa) : PX nm X (.Compare a [.Is] [.Constant .none j pos'] pos) (e1 gIsN fa) :=
  PE.imp (pe_cmp (pc_isN ha) rfl) fun σ H Q ⟨M, ρ, S, d, S', rs, re, h, k⟩ => by
    unfold e1 at h
    obtain ⟨x, S1, h1, h⟩ := bind_inv h
    refine rE.go rs re h1 fun M1 H1 v e1 r1 q1 => ?_
    unfold gIsN at h
    cases h
    refine k _ _ _ e1 r1 ?_
    unfold RelD
    cases x <;> unfold RelD at q1 <;> first
      | (subst q1; rfl)
      | (obtain ⟨a, vs, q1, _⟩ := q1; subst q1; rfl)
      | (obtain ⟨a, q1, _⟩ := q1; subst q1; rfl)
/-- .. as tests -/
theorem pxt_b {e : Expr} {f : E} {t : TE} (h : PT X e (tB t)) (i : ∀ σ H Q, rE nm X f σ H Q → t σ H Q) : PXT nm X e (tE f) := pxt_of (PT.imp h fun σ H Q q => i σ H _ q)
theorem pxt_isN {a : Expr} {fa : E} {pos pos' : Pos} {j : Nat} (ha : PX nm X a fa) : PXT nm X (.Compare a [.Is] [.Constant .none j pos'] pos) (tE (e1 gIsN fa)) :=
  pxt_b (pt_cmp (pc_isN ha) rfl) fun σ H Q ⟨M, ρ, S, d, S', rs, re, h, k⟩ => by
    unfold e1 at h
    obtain ⟨x, S1, h1, h⟩ := bind_inv h
    refine rE.go rs re h1 fun M1 H1 v e1 r1 q1 => ?_
    unfold gIsN at h
    cases h
    refine k _ _ _ e1 r1 ?_
    unfold RelD
    cases x <;> unfold RelD at q1 <;> first
      | (subst q1; rfl)
      | (obtain ⟨a, vs, q1, _⟩ := q1; subst q1; rfl)
      | (obtain ⟨a, q1, _⟩ := q1; subst q1; rfl)
theorem pxa_nil : PXA nm X [] aNil := PA.imp pa_nil fun σ H Q ⟨M, ρ, S, d, S', rs, re, h, k⟩ => by
  unfold aNil at h
  cases h
  exact k M H [] Ext.refl rs .nil
theorem pxa_cons {e : Expr} {es : List Expr} {f : E} {r : A} (ha : PX nm X e f) (hr : PXA nm X es r) (hs : starEach (e :: es) X.env = (false, eval e X.env) :: starEach es X.env) : PXA nm X (e :: es) (aCons f r) :=
  PA.imp (pa_cons ha hr hs) fun σ H Q ⟨M, ρ, S, d, S', rs, re, h, k⟩ => by
    unfold aCons at h
    obtain ⟨x, S1, h1, h⟩ := bind_inv h
    obtain ⟨xs, S2, h2, h⟩ := bind_inv h
    cases h
    refine rE.go rs re h1 fun M1 H1 v e1 r1 q1 => ?_
    refine ⟨M1, ρ, S1, xs, _, r1, re.ext rs e1, h2, fun M2 H2 vs e2 r2 q2 => ?_⟩
    exact k M2 H2 (v :: vs) (e1.trans e2) r2 (.cons (RelD.ext r1 e2 q1) q2)
theorem LIM_eq : LIM = sizeLine := by rw [sizeLine_eq]; rfl
theorem px_tup {es : List Expr} {f : A} {j : Nat} {pos : Pos} (h : PXA nm X es f) (hn : es.length ≤ 1000) (hl : ∀ ρ S ds S', f ρ S = .ok ds S' → ds.length = es.length) : PX nm X (.Tuple es j pos) (eTup f) :=
  PE.imp (pe_tup h) fun σ H Q ⟨M, ρ, S, d, S', rs, re, h, k⟩ => by
    unfold eTup at h
    obtain ⟨xs, S1, h1, h⟩ := bind_inv h
    cases h
    refine ⟨M, ρ, S, xs, _, rs, re, h1, fun M1 H1 vs e1 r1 q1 => ⟨?_, fun p hp => ?_⟩⟩
    · rw [← q1.length, hl _ _ _ _ h1, sizeLine_eq]; omega
    · exact (k.ext e1).tup r1 q1 hp
theorem px_lst {es : List Expr} {f : A} {pos : Pos} (h : PXA nm X es f) (hn : es.length ≤ 1000) (hl : ∀ ρ S ds S', f ρ S = .ok ds S' → ds.length = es.length) : PX nm X (.List es pos) (eLst f) :=
  PE.imp (pe_lst h) fun σ H Q ⟨M, ρ, S, d, S', rs, re, h, k⟩ => by
    unfold eLst at h
    obtain ⟨xs, S1, h1, h⟩ := bind_inv h
    cases h
    refine ⟨M, ρ, S, xs, _, rs, re, h1, fun M1 H1 vs e1 r1 q1 => ⟨?_, fun p hp => ?_⟩⟩
    · rw [← q1.length, hl _ _ _ _ h1, sizeLine_eq]; omega
    · exact (k.ext e1).push r1 q1 hp
theorem len_nil (ρ : Env) (S : Sto) (ds : List D) (S' : Sto) (h : aNil ρ S = .ok ds S') : ds.length = 0 := by unfold aNil at h; cases h; rfl
theorem len_cons {f : E} {r : A} {n : Nat} (hl : ∀ ρ S ds S', r ρ S = .ok ds S' → ds.length = n) (ρ : Env) (S : Sto) (ds : List D) (S' : Sto) (h : aCons f r ρ S = .ok ds S') : ds.length = n + 1 := by
  unfold aCons at h
  obtain ⟨x, S1, h1, h⟩ := bind_inv h
  obtain ⟨xs, S2, h2, h⟩ := bind_inv h
  cases h
  simp [hl _ _ _ _ h2]
theorem rT.go {f : T} {P : Bool → Hp → Prop} {b : Bool} (r : RelS nm X.K X.mg M S H) (e : RelE X.K M H ρ σ) (h : f ρ S = .ok b S1)
    (k : ∀ M1 H1, Ext M H M1 H1 → RelS nm X.K X.mg M1 S1 H1 → P b H1) : rT nm X f σ H P := ⟨M, ρ, S, b, S1, r, e, h, k⟩
theorem pxw_or1 {a : Expr} {f : T} {pos : Pos} (ha : PXT nm X a f) : PXW nm X (.BoolOp .Or [a] pos) f := pw_or1 ha
theorem pxw_or {a b : Expr} {rest : List Expr} {f g : T} {pos : Pos} (ha : PXT nm X a f) (hb : PXW nm X (.BoolOp .Or (b :: rest) pos) g) : PXW nm X (.BoolOp .Or (a :: b :: rest) pos) (PF.tOr f g) :=
  PW.imp (pw_or ha hb) fun σ H Q ⟨M, ρ, S, d, S', rs, re, h, k⟩ => by
    unfold PF.tOr at h
    obtain ⟨c, S1, h1, h⟩ := bind_inv h
    refine rT.go rs re h1 fun M1 H1 e1 r1 => ?_
    cases c with
    | false => exact iteF (rT.go r1 (re.ext rs e1) h fun M2 H2 e2 r2 => k M2 H2 (e1.trans e2) r2)
    | true => cases h; exact iteT (k M1 H1 e1 r1)
theorem pxt_w {e : Expr} {f : T} (h : PXW nm X e f) : PXT nm X e f := h.pt
theorem pxt_not {a : Expr} {f : T} {pos : Pos} (ha : PXT nm X a f) : PXT nm X (.UnaryOp .Not a pos) (PF.tNot f) :=
  PT.imp (pt_not ha) fun σ H Q ⟨M, ρ, S, d, S', rs, re, h, k⟩ => by
    unfold PF.tNot at h
    obtain ⟨c, S1, h1, h⟩ := bind_inv h
    cases h
    exact rT.go rs re h1 fun M1 H1 e1 r1 => k M1 H1 e1 r1
theorem px_one {op : BoolOp} {a : Expr} {f : E} {pos : Pos} (ha : PX nm X a f) : PX nm X (.BoolOp op [a] pos) f := pe_one ha
theorem px_and {a b : Expr} {rest : List Expr} {f g : E} {pos : Pos} (ha : PX nm X a f) (hb : PX nm X (.BoolOp .And (b :: rest) pos) g) : PX nm X (.BoolOp .And (a :: b :: rest) pos) (eAnd f g) :=
  PE.imp (pe_and ha hb) fun σ H Q ⟨M, ρ, S, d, S', rs, re, h, k⟩ => by
    unfold eAnd at h
    obtain ⟨x, S1, h1, h⟩ := bind_inv h
    refine rE.go rs re h1 fun M1 H1 v e1 r1 q1 => ?_
    cases x with
    | bl c =>
      have q2 := q1
      unfold RelD at q2
      refine ⟨c, q2, ?_⟩
      cases c with
      | true => exact iteT (rE.go r1 (re.ext rs e1) h fun M2 H2 v2 e2 r2 q => k M2 H2 v2 (e1.trans e2) r2 q)
      | false => cases h; exact iteF (k M1 H1 _ e1 r1 (by unfold RelD; rfl))
    | _ => cases h
theorem px_not {a : Expr} {f : E} {pos : Pos} (ha : PX nm X a f) : PX nm X (.UnaryOp .Not a pos) (eNot f) :=
  PE.imp (pe_not ha) fun σ H Q ⟨M, ρ, S, d, S', rs, re, h, k⟩ => by
    unfold eNot at h
    obtain ⟨x, S1, h1, h⟩ := bind_inv h
    refine rE.go rs re h1 fun M1 H1 v e1 r1 q1 => ?_
    cases x with
    | bl c => cases h; unfold RelD at q1; exact ⟨c, q1, k M1 H1 _ e1 r1 (by unfold RelD; rfl)⟩
    | _ => cases h
theorem px_if {c a b : Expr} {t : T} {f g : E} {pos : Pos} (hc : PXT nm X c t) (ha : PX nm X a f) (hb : PX nm X b g) : PX nm X (.IfExp c a b pos) (eIf t f g) :=
  PE.imp (pe_ifExp hc ha hb) fun σ H Q ⟨M, ρ, S, d, S', rs, re, h, k⟩ => by
    unfold eIf at h
    obtain ⟨c, S1, h1, h⟩ := bind_inv h
    refine rT.go rs re h1 fun M1 H1 e1 r1 => ?_
    cases c with
    | true => exact iteT (rE.go r1 (re.ext rs e1) h fun M2 H2 v2 e2 r2 q => k M2 H2 v2 (e1.trans e2) r2 q)
    | false => exact iteF (rE.go r1 (re.ext rs e1) h fun M2 H2 v2 e2 r2 q => k M2 H2 v2 (e1.trans e2) r2 q)
end
end PF
end
section
set_option linter.all false
set_option Elab.async false
set_option linter.all false
set_option maxRecDepth 100003
set_option maxHeartbeats 2000003
set_option autoImplicit false
namespace PF
open PySem L2
section
variable {nm : Nm} {X : Cx} {M M' : List Addr} {H H' : Hp} {S S' S1 : Sto} {ρ : Env} {σ : L2.St} {Q : VK} {d : D}
theorem RelD.int {K : PySem.W.Frag} {i : Int} {v : V} (h : RelD K M H (.int i) v) : v = .int i := by unfold RelD at h; exact h
theorem RelD.bl {K : PySem.W.Frag} {i : Bool} {v : V} (h : RelD K M H (.bl i) v) : v = .bl i := by unfold RelD at h; exact h
theorem RelD.str {K : PySem.W.Frag} {i : List Nat} {v : V} (h : RelD K M H (.str i) v) : v = .str (strOf i) := by unfold RelD at h; exact h
theorem RelD.tup {K : PySem.W.Frag} {ds : List D} {v : V} (h : RelD K M H (.tup ds) v) : ∃ a vs, v = .ref a ∧ SqT K H a vs ∧ RelDs K M H ds vs := by unfold RelD at h; exact h
theorem RelD.ref {K : PySem.W.Frag} {n : Nat} {v : V} (h : RelD K M H (.ref n) v) : ∃ a, v = .ref a ∧ M[n]? = some a := by unfold RelD at h; exact h
theorem RelD.mkI {K : PySem.W.Frag} {i : Int} : RelD K M H (.int i) (.int i) := by unfold RelD; rfl
theorem RelD.mkB {K : PySem.W.Frag} {i : Bool} : RelD K M H (.bl i) (.bl i) := by unfold RelD; rfl
theorem RelD.mkN {K : PySem.W.Frag} : RelD K M H .non .non := by unfold RelD; rfl
theorem RelD.mkS {K : PySem.W.Frag} {i : List Nat} : RelD K M H (.str i) (.str (strOf i)) := by unfold RelD; rfl
theorem strOf_len (s : List Nat) : (strOf s).length = s.length := rfl
theorem strOf_app (a b : List Nat) : strOf a ++ strOf b = strOf (a ++ b) := by
  show (⟨a.toArray ++ b.toArray⟩ : Str) = ⟨(a ++ b).toArray⟩
  simp
theorem strOf_inj {a b : List Nat} (h : strOf a = strOf b) : a = b := by
  have h2 : a.toArray = b.toArray := by injection h
  simpa using congrArg Array.toList h2
theorem strOf_toList (a : List Nat) : (strOf a).cps.toList = a := by simp [strOf]
theorem strOf_cps (x : Str) : strOf x.cps.toList = x := by cases x; simp [strOf]
theorem op2_cmp {p : Int → Int → Bool} : Op2 nm X (rI0 fun i j => .bl (p i j)) (gCmp p) := by
  intro M S H x y vx vy d S' Q rs hx hy h k
  unfold gCmp at h
  cases x <;> cases y <;> first
    | (cases h; rw [hx.int, hy.int]; exact ⟨_, _, rfl, rfl, k.here rs .mkB⟩)
    | cases h
theorem op2_sub : Op2 nm X (rI0 fun i j => .int (i - j)) gSub := by
  intro M S H x y vx vy d S' Q rs hx hy h k
  unfold gSub at h
  cases x <;> cases y <;> first
    | (cases h; rw [hx.int, hy.int]; exact ⟨_, _, rfl, rfl, k.here rs .mkI⟩)
    | cases h
theorem op2_fdiv : Op2 nm X (rI CDiv fun i j => .int (i / j)) gFdiv := by
  intro M S H x y vx vy d S' Q rs hx hy h k
  unfold gFdiv at h
  cases x <;> cases y <;> first
    | (dsimp only at h
       split at h
       · rename_i c
         cases h; rw [hx.int, hy.int]; exact ⟨_, _, rfl, rfl, c, k.here rs .mkI⟩
       · cases h)
    | cases h
theorem op2_mod : Op2 nm X (rI (fun _ j => 0 < j) fun i j => .int (i % j)) gMod := by
  intro M S H x y vx vy d S' Q rs hx hy h k
  unfold gMod at h
  cases x <;> cases y <;> first
    | (dsimp only at h
       split at h
       · rename_i c
         cases h; rw [hx.int, hy.int]; exact ⟨_, _, rfl, rfl, c, k.here rs .mkI⟩
       · cases h)
    | cases h
theorem px_neg {a : Expr} {f : E} {pos : Pos} (ha : PX nm X a f) : PX nm X (.UnaryOp .USub a pos) (e1 gNeg f) :=
  PE.imp (pe_un un_neg ha) fun σ H Q ⟨M, ρ, S, d, S', rs, re, h, k⟩ => by
    unfold e1 at h
    obtain ⟨x, S1, h1, h⟩ := bind_inv h
    refine rE.go rs re h1 fun M1 H1 v e1 r1 q1 => ?_
    unfold gNeg at h
    cases x with
    | int i => cases h; rw [q1.int]; exact ⟨_, rfl, k _ _ _ e1 r1 .mkI⟩
    | _ => cases h
/-- two lists of the store, written -/
theorem lst_wr (rs : RelS nm X.K X.mg M S H) {n : Nat} {a : Addr} {ds : List D} (hn : M[n]? = some a) (h : S[n]? = some (.lst ds)) : ∃ vs, H a = some (.lst vs) ∧ RelDs X.K M H ds vs := rs.obj n a _ hn h
def rAddA (K : PySem.W.Frag) : R2 := fun x y H Q => (rI0 (fun i j => .int (i + j)) x y H Q ∨ (∃ i j, x = .str i ∧ y = .str j ∧ i.length + j.length ≤ sizeLine ∧ Q (.str (i ++ j)) H)) ∨ (rCatA K x y H Q ∨ rCat x y H Q)
theorem op_addA : OpR X (binaryOp .Add) (rAddA X.K) := OpR.or (OpR.or op_add op_add_str) (OpR.or op_catA op_cat)
theorem op2_add : Op2 nm X (rAddA X.K) gAdd := by
  intro M S H x y vx vy d S' Q rs hx hy h k
  unfold gAdd at h
  cases x <;> cases y <;> dsimp only at h <;> try cases h
  · rw [hx.int, hy.int]
    exact .inl (.inl ⟨_, _, rfl, rfl, k.here rs .mkI⟩)
  · split at h
    · rename_i c
      cases h
      rw [hx.str, hy.str]
      refine .inl (.inr ⟨_, _, rfl, rfl, by rw [← LIM_eq]; exact c, ?_⟩)
      rw [strOf_app]
      exact k.here rs .mkS
    · cases h
  · split at h
    · rename_i c
      cases h
      obtain ⟨a, vs, rfl, ha, qa⟩ := hx.tup
      obtain ⟨b, us, rfl, hb, qb⟩ := hy.tup
      refine .inr (.inl ⟨a, b, vs, us, rfl, rfl, ha, hb, by rw [← qa.length, ← qb.length, ← LIM_eq]; exact c, fun e => ?_, fun _ e => ?_, fun _ _ p hp => ?_⟩)
      · subst e
        have e2 := qa.length
        refine k.here rs ?_
        rw [List.length_nil, List.length_eq_zero_iff] at e2
        subst e2
        exact hy
      · subst e
        have e2 := qb.length
        refine k.here rs ?_
        rw [List.length_nil, List.length_eq_zero_iff] at e2
        subst e2
        rw [List.append_nil]
        exact hx
      · exact k.tup rs (qa.append qb) hp
    · cases h
  · rename_i m n
    cases h1 : wrOf m S with
    | none => rw [h1] at h; cases h
    | some as =>
      rw [h1] at h
      cases h2 : wrOf n S with
      | none => rw [h2] at h; cases h
      | some bs =>
        rw [h2] at h
        dsimp only at h
        split at h
        · rename_i c
          cases h
          obtain ⟨a, rfl, ha⟩ := hx.ref
          obtain ⟨b, rfl, hb⟩ := hy.ref
          have g1 : S[m]? = some (.lst as) := by unfold wrOf at h1; split at h1 <;> cases h1; assumption
          have g2 : S[n]? = some (.lst bs) := by unfold wrOf at h2; split at h2 <;> cases h2; assumption
          obtain ⟨vs, ka, qa⟩ := lst_wr rs ha g1
          obtain ⟨us, kb, qb⟩ := lst_wr rs hb g2
          refine .inr (.inr ⟨a, b, vs, us, rfl, rfl, ka, kb, by rw [← qa.length, ← qb.length, ← LIM_eq]; exact c, fun p hp => ?_⟩)
          exact k.push rs (qa.append qb) hp
        · cases h
theorem RelDs.rep {K : PySem.W.Frag} {ds : List D} {vs : List V} (h : RelDs K M H ds vs) : ∀ k : Nat, RelDs K M H (rep ds k) (List.replicate k vs).flatten
  | 0 => by simp [PF.rep, RelDs.nil]
  | k + 1 => by
    have ih := RelDs.rep h k
    unfold PF.rep at ih ⊢
    rw [List.replicate_succ, List.replicate_succ, List.flatten_cons, List.flatten_cons]
    exact h.append ih
def rMulA (K : PySem.W.Frag) : R2 := fun x y H Q => rI CMul (fun i j => .int (i * j)) x y H Q ∨ (rRep x y H Q ∨ rRepT K x y H Q)
theorem op_mulA : OpR X (binaryOp .Mult) (rMulA X.K) := OpR.or op_mul (OpR.or op_rep op_repT)
theorem op2_mul : Op2 nm X (rMulA X.K) gMul := by
  intro M S H x y vx vy d S' Q rs hx hy h k
  unfold gMul at h
  cases x <;> cases y <;> dsimp only at h <;> try cases h
  · split at h
    · rename_i c
      cases h
      rw [hx.int, hy.int]
      exact .inl ⟨_, _, rfl, rfl, c, k.here rs .mkI⟩
    · cases h
  · split at h
    · rename_i c
      cases h
      obtain ⟨a, vs, rfl, ha, qa⟩ := hx.tup
      rw [hy.int]
      refine .inr (.inr ⟨a, _, vs, rfl, rfl, ha, ?_, c.2.1, c.2.2.1, ?_, fun p hp => ?_⟩)
      · intro e
        subst e
        have e2 := qa.length
        rw [List.length_nil, List.length_eq_zero_iff] at e2
        exact c.1 e2
      · rw [← qa.length]; exact c.2.2.2
      · exact k.tup rs (qa.rep _) hp
    · cases h
  · rename_i m z
    cases h1 : wrOf m S with
    | none => rw [h1] at h; cases h
    | some as =>
      rw [h1] at h
      dsimp only at h
      split at h
      · rename_i c
        cases h
        obtain ⟨a, rfl, ha⟩ := hx.ref
        rw [hy.int]
        have g1 : S[m]? = some (.lst as) := by unfold wrOf at h1; split at h1 <;> cases h1; assumption
        obtain ⟨vs, ka, qa⟩ := lst_wr rs ha g1
        refine .inr (.inl ⟨a, z, vs, rfl, rfl, ka, by omega, by omega, by rw [← qa.length, ← LIM_eq]; exact c.2.2, fun p hp => ?_⟩)
        exact k.push rs (qa.rep _) hp
      · cases h
end
end PF
end
section
set_option linter.all false
set_option Elab.async false
set_option linter.all false
set_option maxRecDepth 100003
set_option maxHeartbeats 2000003
set_option autoImplicit false
namespace PF
open PySem L2
mutual
def J.py : J → PyData
  | .non => .none
  | .bl b => .bool b
  | .int i => .int i
  | .str s => .str (strOf s)
  | .tup js => .tuple (J.pys js)
  | .lst js => .list (J.pys js)
def J.pys : List J → List PyData
  | [] => []
  | j :: js => J.py j :: J.pys js
end
mutual
theorem J.eqv_py : ∀ a b : J, PyData.eqv a.py b.py = J.eqv a b
  | .non, b => by cases b <;> simp [J.py, PyData.eqv, J.eqv]
  | .bl x, b => by
    cases b <;> simp [J.py, PyData.eqv, J.eqv, b2i]
  | .int x, b => by
    cases b <;> simp [J.py, PyData.eqv, J.eqv, b2i]
  | .str x, b => by
    cases b <;> simp [J.py, PyData.eqv, J.eqv]
    rename_i y
    rw [Bool.eq_iff_iff]
    simp only [beq_iff_eq]
    exact ⟨strOf_inj, fun e => by rw [e]⟩
  | .tup x, b => by
    cases b <;> simp [J.py, PyData.eqv, J.eqv]
    exact J.eqvs_py _ _
  | .lst x, b => by
    cases b <;> simp [J.py, PyData.eqv, J.eqv]
    exact J.eqvs_py _ _
theorem J.eqvs_py : ∀ a b : List J, PyData.eqvAll (J.pys a) (J.pys b) = J.eqvs a b
  | [], [] => by simp [J.pys, PyData.eqvAll, J.eqvs]
  | [], _ :: _ => by simp [J.pys, PyData.eqvAll, J.eqvs]
  | _ :: _, [] => by simp [J.pys, PyData.eqvAll, J.eqvs]
  | x :: xs, y :: ys => by simp [J.pys, PyData.eqvAll, J.eqvs, J.eqv_py x y, J.eqvs_py xs ys]
end
theorem allSome_cons {α β : Type} {f : α → Option β} {x : α} {xs : List α} {r : List β} (h : allSome f (x :: xs) = some r) : ∃ y ys, r = y :: ys ∧ f x = some y ∧ allSome f xs = some ys := by
  unfold allSome at h
  split at h
  · cases h
  · split at h
    · cases h
    · cases h
      exact ⟨_, _, rfl, by assumption, by assumption⟩
section
variable {nm : Nm} {X : Cx} {M M' : List Addr} {H H' : Hp} {S S' S1 : Sto} {ρ : Env} {σ : L2.St} {Q : VK} {d : D}
/-- what a tree tells: the data as it lies, its texts' signs, its depth -/
structure Told (K : PySem.W.Frag) (H : Hp) (n : Nat) (v : V) (j : J) : Prop where
  dp : Dp K H v j.py
  lay : j.py.canLay0 = true
  deep : j.py.depth ≤ n
structure Tolds (K : PySem.W.Frag) (H : Hp) (n : Nat) (vs : List V) (js : List J) : Prop where
  dp : DpAll K H vs (J.pys js)
  lay : PyData.canLayAll0 (J.pys js) = true
  deep : PyData.depthAll (J.pys js) ≤ n
theorem told_all {n : Nat} {f : D → Option J} (hf : ∀ d v j, RelD X.K M H d v → f d = some j → Told X.K H n v j) : ∀ {ds : List D} {vs : List V} {js : List J}, RelDs X.K M H ds vs → allSome f ds = some js → Tolds X.K H n vs js
  | [], _, _, h, e => by
    unfold RelDs at h
    subst h
    unfold allSome at e
    cases e
    exact ⟨.nil, by simp [J.pys, PyData.canLayAll0], by simp [J.pys, PyData.depthAll]⟩
  | d :: ds, _, _, h, e => by
    unfold RelDs at h
    obtain ⟨v, q, rfl, h1, h2⟩ := h
    obtain ⟨y, ys, rfl, e1, e2⟩ := allSome_cons e
    have a := hf d v y h1 e1
    have b := told_all hf h2 e2
    refine ⟨.cons a.dp b.dp, ?_, ?_⟩
    · simp [J.pys, PyData.canLayAll0, a.lay, b.lay]
    · have := a.deep
      have := b.deep
      simp only [J.pys, PyData.depthAll]
      omega
theorem told_of (rs : RelS nm X.K X.mg M S H) : ∀ (n : Nat) (d : D) (v : V) (j : J), RelD X.K M H d v → tree S n d = some j → Told X.K H n v j := by
  intro n
  induction n with
  | zero =>
    intro d v j h e
    cases d with
    | non => unfold tree at e; cases e; unfold RelD at h; subst h; exact ⟨.non, by simp [J.py, PyData.canLay0], by simp [J.py, PyData.depth]⟩
    | bl b => unfold tree at e; cases e; rw [h.bl]; exact ⟨.bl _, by simp [J.py, PyData.canLay0], by simp [J.py, PyData.depth]⟩
    | int b => unfold tree at e; cases e; rw [h.int]; exact ⟨.int _, by simp [J.py, PyData.canLay0], by simp [J.py, PyData.depth]⟩
    | str s =>
      unfold tree at e
      split at e
      · rename_i c
        cases e
        rw [h.str]
        refine ⟨.str _, ?_, by simp [J.py, PyData.depth]⟩
        simp only [J.py, PyData.canLay0, PyData.strOk, strOf]
        simpa using c
      · cases e
    | tup ds => unfold tree at e; cases e
    | ref n => unfold tree at e; cases e
  | succ n ih =>
    intro d v j h e
    cases d with
    | non => unfold tree at e; cases e; unfold RelD at h; subst h; exact ⟨.non, by simp [J.py, PyData.canLay0], by simp [J.py, PyData.depth]⟩
    | bl b => unfold tree at e; cases e; rw [h.bl]; exact ⟨.bl _, by simp [J.py, PyData.canLay0], by simp [J.py, PyData.depth]⟩
    | int b => unfold tree at e; cases e; rw [h.int]; exact ⟨.int _, by simp [J.py, PyData.canLay0], by simp [J.py, PyData.depth]⟩
    | str s =>
      unfold tree at e
      split at e
      · rename_i c
        cases e
        rw [h.str]
        refine ⟨.str _, ?_, by simp [J.py, PyData.depth]⟩
        simp only [J.py, PyData.canLay0, PyData.strOk, strOf]
        simpa using c
      · cases e
    | tup ds =>
      unfold tree at e
      split at e
      · rename_i js ej
        cases e
        obtain ⟨a, vs, rfl, ha, qa⟩ := h.tup
        have t := told_all (n := n) ih qa ej
        refine ⟨.tup ha t.dp, ?_, ?_⟩
        · simp only [J.py, PyData.canLay0]; exact t.lay
        · have := t.deep
          simp only [J.py, PyData.depth]
          omega
      · cases e
    | ref m =>
      unfold tree at e
      split at e
      · rename_i ds el
        split at e
        · rename_i js ej
          cases e
          obtain ⟨a, rfl, ha⟩ := h.ref
          obtain ⟨vs, ka, qa⟩ := rs.lst ha el
          have t := told_all (n := n) ih qa ej
          refine ⟨.lst ka t.dp, ?_, ?_⟩
          · simp only [J.py, PyData.canLay0]; exact t.lay
          · have := t.deep
            simp only [J.py, PyData.depth]
            omega
        · cases e
      · cases e
theorem Told.shaped {K : PySem.W.Frag} {v : V} {j : J} (t : Told K H EQD v j) : SeqAt.shaped j.py = true := by
  unfold SeqAt.shaped
  rw [t.lay, decide_eq_true (Nat.le_trans t.deep (by decide))]
  rfl
theorem Tolds.shaped {K : PySem.W.Frag} {vs : List V} {js : List J} (t : Tolds K H EQD vs js) : SeqAt.shaped (.list (J.pys js)) = true := by
  unfold SeqAt.shaped
  have h1 : (PyData.list (J.pys js)).canLay0 = true := by simp only [PyData.canLay0]; exact t.lay
  have h2 : (PyData.list (J.pys js)).depth ≤ 64 := by
    simp only [PyData.depth]
    exact Nat.le_trans (Nat.succ_le_succ t.deep) (by decide)
  rw [h1, decide_eq_true h2]
  rfl
def rEqA (K : PySem.W.Frag) : R2 := fun x y H Q => rEq x y H Q ∨ rEqD K x y H Q
def rNeA (K : PySem.W.Frag) : R2 := fun x y H Q => rNe x y H Q ∨ rNeD K x y H Q
theorem op_eqA (hu : X.A.units + 64 < cLine) : OpR X (compareOp .Eq) (rEqA X.K) := OpR.or op_eq (op_eqD hu)
theorem op_neA (hu : X.A.units + 64 < cLine) : OpR X (compareOp .NotEq) (rNeA X.K) := OpR.or op_ne (op_neD hu)
/-- an answer of ==, by one of the two readings -/
theorem eqF_ans (rs : RelS nm X.K X.mg M S H) {x y : D} {vx vy : V} {b : Bool} (hx : RelD X.K M H x vx) (hy : RelD X.K M H y vy) (h : eqF S x y = some b) :
    (scal vx vy = true ∧ b = decide (vx = vy)) ∨ ∃ d e, Dp X.K H vx d ∧ Dp X.K H vy e ∧ SeqAt.shaped d = true ∧ SeqAt.shaped e = true ∧ b = PyData.eqv d e := by
  have gen : eqT S x y = some b → ∃ d e, Dp X.K H vx d ∧ Dp X.K H vy e ∧ SeqAt.shaped d = true ∧ SeqAt.shaped e = true ∧ b = PyData.eqv d e := fun h => by
    unfold eqT at h
    split at h
    · rename_i j1 j2 e1 e2
      cases h
      have t1 := told_of rs EQD x vx j1 hx e1
      have t2 := told_of rs EQD y vy j2 hy e2
      exact ⟨_, _, t1.dp, t2.dp, t1.shaped, t2.shaped, (J.eqv_py j1 j2).symm⟩
    · cases h
  cases x with
  | non =>
    have ex : vx = .non := by unfold RelD at hx; exact hx
    cases y with
    | non =>
      have ey : vy = .non := by unfold RelD at hy; exact hy
      unfold eqF at h; cases h; subst ex; subst ey; exact .inl ⟨rfl, by simp⟩
    | bl j => unfold eqF at h; cases h; subst ex; rw [hy.bl]; exact .inl ⟨rfl, by simp⟩
    | int j => unfold eqF at h; cases h; subst ex; rw [hy.int]; exact .inl ⟨rfl, by simp⟩
    | str j => unfold eqF at h; cases h; subst ex; rw [hy.str]; exact .inl ⟨rfl, by simp⟩
    | tup j => exact .inr (gen h)
    | ref j => exact .inr (gen h)
  | bl i =>
    have ex := hx.bl
    cases y with
    | non =>
      have ey : vy = .non := by unfold RelD at hy; exact hy
      unfold eqF at h; cases h; subst ex; subst ey; exact .inl ⟨rfl, by simp⟩
    | bl j => unfold eqF at h; cases h; subst ex; rw [hy.bl]; exact .inl ⟨rfl, by simp [Bool.beq_eq_decide_eq]⟩
    | int j => exact .inr (gen h)
    | str j => unfold eqF at h; cases h; subst ex; rw [hy.str]; exact .inl ⟨rfl, by simp⟩
    | tup j => exact .inr (gen h)
    | ref j => exact .inr (gen h)
  | int i =>
    have ex := hx.int
    cases y with
    | non =>
      have ey : vy = .non := by unfold RelD at hy; exact hy
      unfold eqF at h; cases h; subst ex; subst ey; exact .inl ⟨rfl, by simp⟩
    | bl j => exact .inr (gen h)
    | int j => unfold eqF at h; cases h; subst ex; rw [hy.int]; exact .inl ⟨rfl, by simp [Bool.beq_eq_decide_eq]⟩
    | str j => unfold eqF at h; cases h; subst ex; rw [hy.str]; exact .inl ⟨rfl, by simp⟩
    | tup j => exact .inr (gen h)
    | ref j => exact .inr (gen h)
  | str i =>
    have ex := hx.str
    cases y with
    | non =>
      have ey : vy = .non := by unfold RelD at hy; exact hy
      unfold eqF at h; cases h; subst ex; subst ey; exact .inl ⟨rfl, by simp⟩
    | bl j => unfold eqF at h; cases h; subst ex; rw [hy.bl]; exact .inl ⟨rfl, by simp⟩
    | int j => unfold eqF at h; cases h; subst ex; rw [hy.int]; exact .inl ⟨rfl, by simp⟩
    | str j =>
      unfold eqF at h; cases h; subst ex; rw [hy.str]
      refine .inl ⟨rfl, ?_⟩
      rw [Bool.eq_iff_iff]
      simp only [beq_iff_eq, decide_eq_true_eq]
      exact ⟨fun e => by rw [e], fun e => strOf_inj (by injection e)⟩
    | tup j => exact .inr (gen h)
    | ref j => exact .inr (gen h)
  | tup i => exact .inr (gen (by unfold eqF at h; cases y <;> exact h))
  | ref i => exact .inr (gen (by unfold eqF at h; cases y <;> exact h))
theorem op2_eq : Op2 nm X (rEqA X.K) gEq := by
  intro M S H x y vx vy d S' Q rs hx hy h k
  unfold gEq at h
  split at h
  · rename_i b hb
    cases h
    rcases eqF_ans rs hx hy hb with ⟨h1, e⟩ | ⟨d, e, h1, h2, h3, h4, eb⟩
    · exact .inl ⟨h1, by rw [← e]; exact k.here rs .mkB⟩
    · exact .inr ⟨d, e, h1, h2, h3, h4, by rw [← eb]; exact k.here rs .mkB⟩
  · cases h
theorem op2_ne : Op2 nm X (rNeA X.K) gNe := by
  intro M S H x y vx vy d S' Q rs hx hy h k
  unfold gNe at h
  split at h
  · rename_i b hb
    cases h
    rcases eqF_ans rs hx hy hb with ⟨h1, e⟩ | ⟨d, e, h1, h2, h3, h4, eb⟩
    · exact .inl ⟨h1, by rw [← e]; exact k.here rs .mkB⟩
    · exact .inr ⟨d, e, h1, h2, h3, h4, by rw [← eb]; exact k.here rs .mkB⟩
  · cases h
end
end PF
end
section
set_option linter.all false
set_option Elab.async false
set_option linter.all false
set_option maxRecDepth 100003
set_option maxHeartbeats 2000003
set_option autoImplicit false
namespace PF
open PySem L2
section
variable {nm : Nm} {X : Cx} {M M' : List Addr} {H H' : Hp} {S S' S1 : Sto} {ρ : Env} {σ : L2.St} {Q : VK} {d : D}
theorem wr_lst {n : Nat} {ds : List D} (h : wrOf n S = some ds) : S[n]? = some (.lst ds) := by unfold wrOf at h; split at h <;> cases h; assumption
theorem dic_of {n : Nat} {kvs : List (D × D)} (h : dicOf n S = some kvs) : S[n]? = some (.dic kvs) := by unfold dicOf at h; split at h <;> cases h; assumption
/-- a flat value -/
theorem flat_of {x : D} {v : V} (h : x.scal = true) (r : RelD X.K M H x v) : flatV v = true := by
  cases x with
  | non => unfold RelD at r; subst r; rfl
  | bl b => rw [r.bl]; rfl
  | int b => rw [r.int]; rfl
  | str b => rw [r.str]; rfl
  | tup b => cases h
  | ref b => cases h
theorem flats_of : ∀ {ds : List D} {vs : List V}, ds.all D.scal = true → RelDs X.K M H ds vs → vs.all flatV = true
  | [], _, _, r => by unfold RelDs at r; subst r; rfl
  | d :: ds, _, h, r => by
    unfold RelDs at r
    obtain ⟨v, q, rfl, r1, r2⟩ := r
    rw [List.all_cons, Bool.and_eq_true] at h
    rw [List.all_cons, flat_of h.1 r1, flats_of h.2 r2]
    rfl
/-- == of flat values by trees -/
theorem eqV_of {n m : Nat} {x y : D} {vx vy : V} {a b : J} (hx : x.scal = true) (hy : y.scal = true) (rx : RelD X.K M H x vx) (ry : RelD X.K M H y vy) (ex : tree S n x = some a) (ey : tree S m y = some b) : eqV vy vx = J.eqv b a := by
  have tr : ∀ {k : Nat} {z : D} {vz : V} {c : J}, z.scal = true → RelD X.K M H z vz → tree S k z = some c → (vz = .non ∧ c = .non) ∨ (∃ t, vz = .bl t ∧ c = .bl t) ∨ (∃ t, vz = .int t ∧ c = .int t) ∨ (∃ t, vz = .str (strOf t) ∧ c = .str t) := by
    intro k z vz c hz rz ez
    cases z with
    | non => unfold RelD at rz; unfold tree at ez; cases ez; exact .inl ⟨rz, rfl⟩
    | bl t => unfold tree at ez; cases ez; exact .inr (.inl ⟨t, rz.bl, rfl⟩)
    | int t => unfold tree at ez; cases ez; exact .inr (.inr (.inl ⟨t, rz.int, rfl⟩))
    | str t =>
      unfold tree at ez
      split at ez
      · cases ez; exact .inr (.inr (.inr ⟨t, rz.str, rfl⟩))
      · cases ez
    | tup t => cases hz
    | ref t => cases hz
  rcases tr hx rx ex with ⟨rfl, rfl⟩ | ⟨t, rfl, rfl⟩ | ⟨t, rfl, rfl⟩ | ⟨t, rfl, rfl⟩ <;>
  rcases tr hy ry ey with ⟨rfl, rfl⟩ | ⟨u, rfl, rfl⟩ | ⟨u, rfl, rfl⟩ | ⟨u, rfl, rfl⟩ <;>
  simp [eqV, J.eqv, b2i]
  rw [Bool.eq_iff_iff]
  simp only [beq_iff_eq]
  exact ⟨strOf_inj, fun e => by rw [e]⟩
theorem inV_of {x : D} {vx : V} {a : J} (hx : x.scal = true) (rx : RelD X.K M H x vx) (ex : tree S EQD x = some a) : ∀ {ds : List D} {vs : List V} {js : List J}, ds.all D.scal = true → RelDs X.K M H ds vs → allSome (tree S EQD) ds = some js → inV vx vs = js.any fun z => J.eqv z a
  | [], _, _, _, r, e => by unfold RelDs at r; subst r; unfold allSome at e; cases e; rfl
  | d :: ds, _, _, h, r, e => by
    unfold RelDs at r
    obtain ⟨v, q, rfl, r1, r2⟩ := r
    obtain ⟨y, ys, rfl, e1, e2⟩ := allSome_cons e
    rw [List.all_cons, Bool.and_eq_true] at h
    unfold inV
    rw [List.any_cons, List.any_cons, eqV_of hx h.1 rx r1 ex e1]
    congr 1
    exact inV_of hx rx ex h.2 r2 e2
theorem any_py (a : J) : ∀ js : List J, (J.pys js).any (fun z => PyData.eqv z a.py) = js.any fun z => J.eqv z a
  | [] => rfl
  | j :: js => by
    unfold J.pys
    rw [List.any_cons, List.any_cons, J.eqv_py, any_py a js]
def rInA (K : PySem.W.Frag) : R2 := fun x y H Q => (rIn K false x y H Q ∨ rInD K x y H Q) ∨ (∃ c z, x = .str ⟨#[c]⟩ ∧ y = .str z ∧ Q (.bl (decide (c ∈ z.cps.toList))) H)
def rNotInA (K : PySem.W.Frag) : R2 := fun x y H Q => (rIn K true x y H Q ∨ rNotInD K x y H Q) ∨ (∃ c z, x = .str ⟨#[c]⟩ ∧ y = .str z ∧ Q (.bl (!decide (c ∈ z.cps.toList))) H)
end
end PF
end
section
set_option linter.all false
set_option Elab.async false
set_option linter.all false
set_option maxRecDepth 100003
set_option maxHeartbeats 2000003
set_option autoImplicit false
namespace PF
open PySem L2
section
variable {nm : Nm} {X : Cx} {M M' : List Addr} {H H' : Hp} {S S' S1 : Sto} {ρ : Env} {σ : L2.St} {Q : VK} {d : D}
theorem inB_ans (rs : RelS nm X.K X.mg M S H) {x y : D} {vx vy : V} {b : Bool} (hx : RelD X.K M H x vx) (hy : RelD X.K M H y vy) (h : inB x y S = some b) :
    (∃ p xs, vy = .ref p ∧ SqT X.K H p xs ∧ flatV vx = true ∧ xs.all flatV = true ∧ b = inV vx xs) ∨
    (∃ d ds, Dp X.K H vx d ∧ Dp X.K H vy (.list ds) ∧ SeqAt.shaped d = true ∧ SeqAt.shaped (.list ds) = true ∧ b = ds.any fun z => PyData.eqv z d) ∨
    (∃ c z, vx = .str ⟨#[c]⟩ ∧ vy = .str z ∧ b = decide (c ∈ z.cps.toList)) := by
  unfold inB at h
  cases y with
  | tup ds =>
    dsimp only at h
    split at h
    · rename_i c
      rw [Bool.and_eq_true] at c
      obtain ⟨a, vs, rfl, ha, qa⟩ := hy.tup
      unfold inTree at h
      split at h
      · rename_i j js e1 e2
        cases h
        exact .inl ⟨a, vs, rfl, ha, flat_of c.1 hx, flats_of c.2 qa, (inV_of c.1 hx e1 c.2 qa e2).symm⟩
      · cases h
    · cases h
  | str s =>
    cases x with
    | str t =>
      cases t with
      | nil => cases h
      | cons c r =>
        cases r with
        | nil =>
          cases h
          refine .inr (.inr ⟨c, strOf s, ?_, hy.str, ?_⟩)
          · rw [hx.str]; rfl
          · rw [strOf_toList, Bool.eq_iff_iff]
            simp
        | cons _ _ => cases h
    | _ => cases h
  | ref n =>
    dsimp only at h
    split at h
    · rename_i ds el
      unfold inTree at h
      split at h
      · rename_i j js e1 e2
        cases h
        obtain ⟨a, rfl, ha⟩ := hy.ref
        obtain ⟨vs, ka, qa⟩ := rs.lst ha el
        have t1 := told_of rs EQD x vx j hx e1
        have t2 := told_all (n := EQD) (told_of rs EQD) qa e2
        exact .inr (.inl ⟨_, _, t1.dp, .lst ka t2.dp, t1.shaped, t2.shaped, (any_py j js).symm⟩)
      · cases h
    · cases h
  | _ => cases h
theorem op_inA (hu : X.A.units + 65 < cLine) : OpR X (compareOp .In) (rInA X.K) := OpR.or (OpR.or op_in_seq (op_inD hu)) op_in_sign
theorem op_notInA (hu : X.A.units + 65 < cLine) : OpR X (compareOp .NotIn) (rNotInA X.K) := OpR.or (OpR.or op_notIn_seq (op_notInD hu)) op_notIn_sign
theorem op2_in : Op2 nm X (rInA X.K) gIn := by
  intro M S H x y vx vy d S' Q rs hx hy h k
  unfold gIn at h
  split at h
  · rename_i b hb
    cases h
    rcases inB_ans rs hx hy hb with ⟨p, xs, e1, e2, e3, e4, e⟩ | ⟨d, ds, e1, e2, e3, e4, e⟩ | ⟨c, z, e1, e2, e⟩
    · exact .inl (.inl ⟨p, xs, e1, .inr e2, e3, e4, by rw [if_neg Bool.false_ne_true, ← e]; exact k.here rs .mkB⟩)
    · exact .inl (.inr ⟨d, ds, e1, e2, e3, e4, by rw [← e]; exact k.here rs .mkB⟩)
    · exact .inr ⟨c, z, e1, e2, by rw [← e]; exact k.here rs .mkB⟩
  · cases h
theorem op2_notIn : Op2 nm X (rNotInA X.K) gNotIn := by
  intro M S H x y vx vy d S' Q rs hx hy h k
  unfold gNotIn at h
  split at h
  · rename_i b hb
    cases h
    rcases inB_ans rs hx hy hb with ⟨p, xs, e1, e2, e3, e4, e⟩ | ⟨d, ds, e1, e2, e3, e4, e⟩ | ⟨c, z, e1, e2, e⟩
    · exact .inl (.inl ⟨p, xs, e1, .inr e2, e3, e4, by rw [if_pos rfl, ← e]; exact k.here rs .mkB⟩)
    · exact .inl (.inr ⟨d, ds, e1, e2, e3, e4, by rw [← e]; exact k.here rs .mkB⟩)
    · exact .inr ⟨c, z, e1, e2, by rw [← e]; exact k.here rs .mkB⟩
  · cases h
theorem at_rel {K : PySem.W.Frag} {ds : List D} {vs : List V} {i : Int} (q : RelDs K M H ds vs) (h : at? ds i = some d) : ∃ v, atI vs i = some v ∧ RelD K M H d v := by
  unfold at? at h
  cases e : PF.ixN ds.length i with
  | none => rw [e] at h; cases h
  | some j =>
    rw [e] at h
    obtain ⟨v, h1, h2⟩ := q.get (show ds[j]? = some d from h)
    refine ⟨v, ?_, h2⟩
    unfold atI
    rw [← q.length, show L2.ixN ds.length i = some j from e]
    exact h1
theorem op2_ix : Op2 nm X (rIx X.K) gIx := by
  intro M S H x y vx vy d S' Q rs hx hy h k
  unfold gIx at h
  cases x with
  | tup ds =>
    cases y with
    | int i =>
      dsimp only at h
      split at h
      · rename_i e
        cases h
        obtain ⟨a, vs, rfl, ha, qa⟩ := hx.tup
        obtain ⟨v, h1, h2⟩ := at_rel qa e
        rw [hy.int]
        exact .inr (.inl ⟨a, vs, i, v, rfl, rfl, ha, h1, k.here rs h2⟩)
      · cases h
    | _ => cases h
  | str s =>
    cases y with
    | int i =>
      dsimp only at h
      split at h
      · rename_i c
        split at h
        · rename_i cc e
          cases h
          rw [hx.str, hy.int]
          refine .inr (.inr ⟨strOf s, i, cc, rfl, rfl, by rw [strOf_len, ← LIM_eq]; exact c, ?_, k.here rs .mkS⟩)
          rw [strOf_toList]
          exact e
        · cases h
      · cases h
    | _ => cases h
  | ref n =>
    cases y with
    | int i =>
      dsimp only at h
      split at h
      · rename_i ds el
        split at h
        · rename_i e
          cases h
          obtain ⟨a, rfl, ha⟩ := hx.ref
          obtain ⟨vs, ka, qa⟩ := rs.lst ha el
          obtain ⟨v, h1, h2⟩ := at_rel qa e
          rw [hy.int]
          exact .inl ⟨a, vs, i, v, rfl, rfl, ka, h1, k.here rs h2⟩
        · cases h
      · cases h
    | _ => cases h
  | _ => cases h
theorem px_ix {a b : Expr} {f g : E} {pos : Pos} (ha : PX nm X a f) (hb : PX nm X b g) (hs : PlainIx b) : PX nm X (.Subscript a b pos) (e2 gIx f g) := px_e2 (a := a) (b := b) (pe_ix ix_seq ha hb hs) op2_ix
theorem pxo_none : PXO nm X none oNone := PO.imp po_none fun σ H Q ⟨M, ρ, S, d, S', rs, re, h, k⟩ => by
  unfold oNone at h
  cases h
  exact k M H Ext.refl rs
theorem pxo_some {a : Expr} {f : E} (ha : PX nm X a f) : PXO nm X (some a) (oSome f) := PO.imp (po_some ha) fun σ H Q ⟨M, ρ, S, d, S', rs, re, h, k⟩ => by
  unfold oSome at h
  obtain ⟨x, S1, h1, h⟩ := bind_inv h
  refine rE.go rs re h1 fun M1 H1 v e1 r1 q1 => ?_
  cases x with
  | int i => cases h; exact ⟨i, q1.int, k M1 H1 e1 r1⟩
  | _ => cases h
theorem SlR.or {r r' : V → Option Int → Option Int → Hp → VK → Prop} (h : SlR X r) (h' : SlR X r') : SlR X fun x lo hi H Q => r x lo hi H Q ∨ r' x lo hi H Q := by
  intro pins s σ H x v vl vu lo hi sl Q I rx hs pl pu q
  rcases q with q | q
  · exact h pins s σ H x v vl vu lo hi sl Q I rx hs pl pu q
  · exact h' pins s σ H x v vl vu lo hi sl Q I rx hs pl pu q
theorem sIx_eq (n d : Nat) (o : Option Int) : HT.sIx n d o = PF.sIx n d o := by cases o <;> rfl
theorem cut_rel {K : PySem.W.Frag} {ds : List D} {vs : List V} (q : RelDs K M H ds vs) (lo hi : Option Int) : RelDs K M H (cut ds lo hi) (cutV vs lo hi) := by
  unfold cut cutV
  rw [sIx_eq, sIx_eq, ← q.length]
  exact (q.drop _).take _
theorem cutS_of (z : List Nat) (i j : Option Int) : cutS (strOf z) i j = strOf (cut z i j) := by
  unfold cutS cut strOf
  rw [sIx_eq, sIx_eq]
  simp [Str.length]
theorem px_slice {a : Expr} {lo hi : Option Expr} {f : E} {l u : O} {p2 pos : Pos} (ha : PX nm X a f) (hl : PXO nm X lo l) (hh : PXO nm X hi u) : PX nm X (.Subscript a (.Slice lo hi none p2) pos) (eSlice f l u) :=
  PE.imp (pe_slice (SlR.or (SlR.or sl_list sl_tupA) sl_str) ha hl hh) fun σ H Q ⟨M, ρ, S, d, S', rs, re, h, k⟩ => by
    unfold eSlice at h
    obtain ⟨x, S1, h1, h⟩ := bind_inv h
    obtain ⟨i, S2, h2, h⟩ := bind_inv h
    obtain ⟨j, S3, h3, h⟩ := bind_inv h
    refine rE.go rs re h1 fun M1 H1 v e1 r1 q1 => ?_
    refine ⟨M1, ρ, S1, i, S2, r1, re.ext rs e1, h2, fun M2 H2 e2 r2 => ?_⟩
    refine ⟨M2, ρ, S2, j, S3, r2, (re.ext rs e1).ext r1 e2, h3, fun M3 H3 e3 r3 => ?_⟩
    have q3 := RelD.ext r2 e3 (RelD.ext r1 e2 q1)
    have kk := k.ext ((e1.trans e2).trans e3)
    unfold gSlice at h
    cases x with
    | tup ds =>
      cases h
      obtain ⟨a, vs, rfl, ha, qa⟩ := q3.tup
      refine .inl (.inr ⟨a, vs, rfl, ha, fun w => ?_, fun w p hp => kk.tup r3 (cut_rel qa i j) hp⟩)
      refine kk.here r3 ?_
      have e : cutV vs i j = vs := by
        unfold cutV
        rw [w.1, w.2]
        simp
      have z := cut_rel qa i j
      rw [e] at z
      unfold RelD
      exact ⟨a, vs, rfl, ha, z⟩
    | ref n =>
      dsimp only at h
      split at h
      · rename_i ds el
        cases h
        obtain ⟨a, rfl, ha⟩ := q3.ref
        obtain ⟨vs, ka, qa⟩ := r3.lst ha el
        exact .inl (.inl ⟨a, vs, rfl, ka, fun p hp => kk.push r3 (cut_rel qa i j) hp⟩)
      · cases h
    | str z =>
      dsimp only at h
      split at h
      · rename_i c
        cases h
        rw [q3.str]
        refine .inr ⟨strOf z, rfl, by rw [strOf_len, ← LIM_eq]; exact c, ?_⟩
        rw [cutS_of]
        exact kk.here r3 .mkS
      · cases h
    | _ => cases h
theorem rA.go {f : A} {P : List V → Hp → Prop} {ds : List D} (r : RelS nm X.K X.mg M S H) (e : RelE X.K M H ρ σ) (h : f ρ S = .ok ds S1)
    (k : ∀ M1 H1 vs, Ext M H M1 H1 → RelS nm X.K X.mg M1 S1 H1 → RelDs X.K M1 H1 ds vs → P vs H1) : rA nm X f σ H P := ⟨M, ρ, S, ds, S1, r, e, h, k⟩
theorem px_cb {e : Expr} {r : List V → Hp → VK → Prop} {fa : A} {g : Fn} (h : PE X e (tCB r (rA nm X fa))) (hg : OpN nm X r g) : PX nm X e (eCall g fa) :=
  PE.imp h fun σ H Q ⟨M, ρ, S, d, S', rs, re, h, k⟩ => by
    unfold eCall at h
    obtain ⟨xs, S1, h1, h⟩ := bind_inv h
    exact rA.go rs re h1 fun M1 H1 vs e1 r1 q1 => hg M1 S1 H1 xs vs d S' Q r1 q1 h (k.ext e1)
theorem RelDs.one {K : PySem.W.Frag} {x : D} {vs : List V} (h : RelDs K M H [x] vs) : ∃ v, vs = [v] ∧ RelD K M H x v := by
  unfold RelDs at h
  obtain ⟨v, q, rfl, h1, h2⟩ := h
  unfold RelDs at h2
  subst h2
  exact ⟨v, rfl, h1⟩
theorem RelDs.two {K : PySem.W.Frag} {x y : D} {vs : List V} (h : RelDs K M H [x, y] vs) : ∃ v u, vs = [v, u] ∧ RelD K M H x v ∧ RelD K M H y u := by
  unfold RelDs at h
  obtain ⟨v, q, rfl, h1, h2⟩ := h
  obtain ⟨u, rfl, h3⟩ := h2.one
  exact ⟨v, u, rfl, h1, h3⟩
theorem seq_of (rs : RelS nm X.K X.mg M S H) {x : D} {v : V} {ds : List D} (q : RelD X.K M H x v) (h : seqOf x S = some ds) : ∃ a vs, v = .ref a ∧ (SqL X.K H a vs ∨ SqT X.K H a vs) ∧ RelDs X.K M H ds vs := by
  unfold seqOf at h
  cases x with
  | tup es => cases h; obtain ⟨a, vs, rfl, ha, qa⟩ := q.tup; exact ⟨a, vs, rfl, .inr ha, qa⟩
  | ref n =>
    obtain ⟨a, rfl, ha⟩ := q.ref
    obtain ⟨vs, ka, qa⟩ := rs.lst ha (show lstOf n S = some ds from h)
    exact ⟨a, vs, rfl, .inl ka, qa⟩
  | _ => cases h
theorem CallR.or {f : Value} {r r' : List V → Hp → VK → Prop} (h : CallR X f r) (h' : CallR X f r') : CallR X f fun xs H Q => r xs H Q ∨ r' xs H Q := by
  intro pins s σ H xs us Q I rv q
  rcases q with q | q
  · exact h pins s σ H xs us Q I rv q
  · exact h' pins s σ H xs us Q I rv q
theorem opn_len : OpN nm X (fun xs H Q => ∃ x n, xs = [x] ∧ LenV X.K x H n ∧ Q (.int n) H) fLen := by
  intro M S H xs vs d S' Q rs q h k
  unfold fLen at h
  split at h
  · rename_i ds
    cases h
    obtain ⟨v, rfl, q1⟩ := q.one
    obtain ⟨a, vs, rfl, ha, qa⟩ := q1.tup
    exact ⟨_, ds.length, rfl, .inr ⟨vs, ha, qa.length⟩, k.here rs .mkI⟩
  · rename_i s
    split at h
    · rename_i c
      cases h
      obtain ⟨v, rfl, q1⟩ := q.one
      rw [q1.str]
      exact ⟨_, s.length, rfl, ⟨by rw [strOf_len, ← LIM_eq]; exact c, rfl⟩, k.here rs .mkI⟩
    · cases h
  · rename_i n
    split at h
    · rename_i ds el
      cases h
      obtain ⟨v, rfl, q1⟩ := q.one
      obtain ⟨a, rfl, ha⟩ := q1.ref
      obtain ⟨vs, ka, qa⟩ := rs.lst ha el
      exact ⟨_, ds.length, rfl, .inl ⟨vs, ka, qa.length⟩, k.here rs .mkI⟩
    · cases h
  · cases h
theorem opn_int : OpN nm X (fun xs H Q => (∃ i, xs = [.int i] ∧ Q (.int i) H) ∨ ∃ k, xs = [.bl k] ∧ Q (.int (if k then 1 else 0)) H) fInt := by
  intro M S H xs vs d S' Q rs q h k
  unfold fInt at h
  split at h
  · cases h
    obtain ⟨v, rfl, q1⟩ := q.one
    rw [q1.int]
    exact .inl ⟨_, rfl, k.here rs .mkI⟩
  · cases h
    obtain ⟨v, rfl, q1⟩ := q.one
    rw [q1.bl]
    exact .inr ⟨_, rfl, k.here rs .mkI⟩
  · cases h
theorem opn_min : OpN nm X (fun xs H Q => ∃ i j, xs = [.int i, .int j] ∧ Q (.int (if j < i then j else i)) H) fMin := by
  intro M S H xs vs d S' Q rs q h k
  unfold fMin at h
  split at h
  · cases h
    obtain ⟨v, u, rfl, q1, q2⟩ := q.two
    rw [q1.int, q2.int]
    exact ⟨_, _, rfl, k.here rs .mkI⟩
  · cases h
theorem opn_list : OpN nm X (fun xs H Q => ∃ p ys, xs = [.ref p] ∧ (SqL X.K H p ys ∨ SqT X.K H p ys) ∧ ∀ l, H l = none → Q (.ref l) (upd H l (.lst ys))) fList := by
  intro M S H xs vs d S' Q rs q h k
  unfold fList at h
  split at h
  · split at h
    · rename_i ds es
      cases h
      obtain ⟨v, rfl, q1⟩ := q.one
      obtain ⟨a, vs, rfl, ha, qa⟩ := seq_of rs q1 es
      exact ⟨a, vs, rfl, ha, fun l hl => k.push rs qa hl⟩
    · cases h
  · cases h
theorem opn_tuple : OpN nm X (fun xs H Q => ∃ p ys, xs = [.ref p] ∧ ((SqL X.K H p ys ∧ ∀ l, H l = none → Q (.ref l) (upd H l (.tup ys))) ∨ (SqT X.K H p ys ∧ Q (.ref p) H))) fTuple := by
  intro M S H xs vs d S' Q rs q h k
  unfold fTuple at h
  split at h
  · split at h
    · rename_i ds es
      cases h
      obtain ⟨v, rfl, q1⟩ := q.one
      obtain ⟨a, vs, rfl, ha, qa⟩ := seq_of rs q1 es
      refine ⟨a, vs, rfl, ?_⟩
      rcases ha with ha | ha
      · exact .inl ⟨ha, fun l hl => k.tup rs qa hl⟩
      · refine .inr ⟨ha, k.here rs ?_⟩
        unfold RelD
        exact ⟨a, vs, rfl, ha, qa⟩
    · cases h
  · cases h
def kName : Kind → String
  | .tup => "tuple" | .int => "int" | .bool => "bool" | .str => "str" | .lst => "list"
theorem sqT_ty {K : PySem.W.Frag} {a : Addr} {vs : List V} (h : SqT K H a vs) : TyX K H (.ref a) (.type "tuple") := by
  rcases h with (h | ⟨o, h⟩) | ⟨o, its, n, h, c, _⟩
  · exact .base (.tup h)
  · exact .fTuple h
  · exact .kTuple h c
theorem sqL_ty {K : PySem.W.Frag} {a : Addr} {vs : List V} (h : SqL K H a vs) : TyX K H (.ref a) (.type "list") := by
  rcases h with (h | ⟨o, h⟩) | ⟨o, its, n, h, c, _⟩
  · exact .base (.lst h)
  · exact .base (.frz h)
  · exact .kList h c
theorem isK_ans (rs : RelS nm X.K X.mg M S H) {x : D} {v : V} {k : Kind} {b : Bool} (q : RelD X.K M H x v) (h : isK k x S = some b) : ∃ t, TyX X.K H v (.type t) ∧ kitB t (kName k) = some b := by
  unfold isK at h
  cases x with
  | non => cases h; unfold RelD at q; subst q; exact ⟨_, .base .non, by cases k <;> decide +kernel⟩
  | bl c => cases h; rw [q.bl]; exact ⟨_, .base (.bl c), by cases k <;> decide +kernel⟩
  | int c => cases h; rw [q.int]; exact ⟨_, .base (.int c), by cases k <;> decide +kernel⟩
  | str c => cases h; rw [q.str]; exact ⟨_, .base (.str _), by cases k <;> decide +kernel⟩
  | tup ds => cases h; obtain ⟨a, vs, rfl, ha, qa⟩ := q.tup; exact ⟨_, sqT_ty ha, by cases k <;> decide +kernel⟩
  | ref n =>
    dsimp only at h
    split at h
    · rename_i ds el
      cases h
      obtain ⟨a, rfl, ha⟩ := q.ref
      obtain ⟨vs, ka, qa⟩ := rs.lst ha el
      exact ⟨_, sqL_ty ka, by cases k <;> decide +kernel⟩
    · cases h
theorem boot_ty (k : Kind) : bootBuiltins (kName k : Str) = some (.type (kName k)) := by cases k <;> decide +kernel
/-- isinstance(x, T) -/
theorem px_isi {a : Expr} {f : E} (k : Kind) {p p2 pos : Pos} {kn : String} (ek : kn = kName k) (ha : PX nm X a f) (hg : Gl X "isinstance") (hm : X.mg "isinstance" = none) (hg2 : Gl X (Str.ofString kn)) (hm2 : X.mg (Str.ofString kn) = none)
    (he : starEach [a, .Name (Str.ofString kn) p2] X.env = (false, eval a X.env) :: starEach [.Name (Str.ofString kn) p2] X.env) (he2 : starEach [.Name (Str.ofString kn) p2] X.env = (false, eval (.Name (Str.ofString kn) p2) X.env) :: starEach [] X.env)
    (hpl : (backTo pos (starEach [.Name (Str.ofString kn) p2] X.env)).any (·.1) = false) :
    PX nm X (.Call (.Name "isinstance" p) [a, .Name (Str.ofString kn) p2] [] pos) (e1 (gIs k) f) := by
  subst ek
  have h2 : PE X (.Name (Str.ofString (kName k)) p2) (tC (.ty (kName k))) := pe_bltn (u := .type (kName k)) hg2 hm2 (boot_ty k) rfl (by cases k <;> decide +kernel) (by cases k <;> decide +kernel)
  refine PE.imp (pe_callB call_isi hg hm (by decide +kernel) (pa_cons ha (pa_cons h2 pa_nil he2) he) (by decide +kernel) (by decide +kernel) he hpl) fun σ H Q ⟨M, ρ, S, d, S', rs, re, h, kk⟩ => ?_
  unfold e1 at h
  obtain ⟨x, S1, h1, h⟩ := bind_inv h
  refine rE.go rs re h1 fun M1 H1 v e1 r1 q1 => ?_
  unfold gIs at h
  split at h
  · rename_i b eb
    cases h
    obtain ⟨t, ty, ek⟩ := isK_ans r1 q1 eb
    exact ⟨v, .ty (kName k), .type t, .type (kName k), b, rfl, .ty _, ty, kit_ty ek, kk _ _ _ e1 r1 .mkB⟩
  · cases h
end
end PF
end
section
set_option linter.all false
set_option Elab.async false
set_option linter.all false
set_option maxRecDepth 100003
set_option maxHeartbeats 2000003
set_option autoImplicit false
namespace PF
open PySem L2
section
variable {nm : Nm} {X : Cx} {M M' : List Addr} {H H' : Hp} {S S' S1 : Sto} {ρ : Env} {σ : L2.St} {Q : VK} {d : D}
/-- a list is another one -/
theorem KD.setL {n : Nat} {a : Addr} {ds : List D} {vs : List V} {r : D} {v : V} (k : KD nm X M H (S.set n (.lst ds)) r Q) (rs : RelS nm X.K X.mg M S H) (hn : M[n]? = some a) {us : List V} (h0 : H a = some (.lst us)) (q : RelDs X.K M H ds vs) (qr : RelD X.K M H r v) : Q v (upd H a (.lst vs)) := by
  have e : Ext M H M (upd H a (.lst vs)) := Ext.set (List.mem_of_getElem? hn) h0 (fun _ _ z => nomatch z)
  exact k _ _ _ e (rs.set hn h0 (fun _ _ z => nomatch z) ⟨vs, upd_same, RelDs.ext rs e q⟩) (RelD.ext rs e qr)
theorem tyV_of (rs : RelS nm X.K X.mg M S H) {x : D} {v : V} (q : RelD X.K M H x v) (h : isL x S = true) : tyV X.K "list" v H := by
  unfold isL at h
  cases x with
  | ref n =>
    obtain ⟨a, rfl, ha⟩ := q.ref
    cases e : wrOf n S with
    | none => simp [e] at h
    | some ds =>
      obtain ⟨vs, ka, qa⟩ := lst_wr rs ha (wr_lst e)
      exact .inl ⟨rfl, vs, .inl (.inl ka)⟩
  | _ => cases h
def OpM1 (nm : Nm) (X : Cx) (r : V → List V → Hp → VK → Prop) (g : D → D → PF.M D) : Prop := ∀ (M : List Addr) (S : Sto) (H : Hp) (x y : D) (vx vy : V) (d : D) (S' : Sto) (Q : VK), RelS nm X.K X.mg M S H → RelD X.K M H x vx → RelD X.K M H y vy → g x y S = .ok d S' → KD nm X M H S' d Q → r vx [vy] H Q
theorem px_m1 {e : Expr} {r : V → List V → Hp → VK → Prop} {g : D → D → PF.M D} {f fa : E} (h : PE X e (tBM X.K "list" r (rE nm X f) (tCons (rE nm X fa) tNil))) (hg : OpM1 nm X r g) : PX nm X e (eM1 g f fa) :=
  PE.imp h fun σ H Q ⟨M, ρ, S, d, S', rs, re, h, k⟩ => by
    unfold eM1 at h
    obtain ⟨x, S1, h1, h⟩ := bind_inv h
    refine rE.go rs re h1 fun M1 H1 v e1 r1 q1 => ?_
    split at h
    · rename_i c
      obtain ⟨y, S2, h2, h⟩ := bind_inv h
      refine ⟨tyV_of r1 q1 c, ?_⟩
      refine rE.go r1 (re.ext rs e1) h2 fun M2 H2 vy e2 r2 q2 => ?_
      exact hg M2 S2 H2 x y v vy d S' Q r2 (RelD.ext r1 e2 q1) q2 h (k.ext (e1.trans e2))
    · cases h
theorem opm_append : OpM1 nm X rAppend mAppend := by
  intro M S H x y vx vy d S' Q rs hx hy h k
  unfold mAppend at h
  cases x with
  | ref n =>
    dsimp only at h
    split at h
    · rename_i ds e
      split at h
      · rename_i c
        cases h
        obtain ⟨a, rfl, ha⟩ := hx.ref
        obtain ⟨vs, ka, qa⟩ := lst_wr rs ha (wr_lst e)
        refine ⟨a, vs, vy, rfl, rfl, ka, by rw [← qa.length, ← LIM_eq]; exact c, ?_⟩
        exact k.setL rs ha ka (qa.append (.cons hy .nil)) .mkN
      · cases h
    · cases h
  | _ => cases h
theorem opm_pop : OpM1 nm X rPopAt mPop := by
  intro M S H x y vx vy d S' Q rs hx hy h k
  unfold mPop at h
  cases x with
  | ref n =>
    cases y with
    | int i =>
      dsimp only at h
      split at h
      · rename_i ds e1
        split at h
        · rename_i c
          split at h
          · rename_i d' e2
            cases h
            obtain ⟨a, rfl, ha⟩ := hx.ref
            obtain ⟨vs, ka, qa⟩ := lst_wr rs ha (wr_lst e1)
            obtain ⟨v, h1, h2⟩ := qa.get e2
            rw [hy.int]
            have hl : i.toNat < vs.length := (List.getElem?_eq_some_iff.mp h1).1
            refine ⟨a, vs, i, i.toNat, v, rfl, rfl, ka, by omega, by omega, ?_, h1, ?_⟩
            · exact PySem.StrLaws.seqIndex_nonneg c.1 (by omega)
            · exact k.setL rs ha ka (qa.eraseIdx _) h2
          · cases h
        · cases h
      · cases h
    | _ => cases h
  | _ => cases h
theorem RelDs.dropLast {K : PySem.W.Frag} {ds : List D} {vs : List V} (q : RelDs K M H ds vs) : RelDs K M H ds.dropLast vs.dropLast := by
  rw [List.dropLast_eq_take, List.dropLast_eq_take, ← q.length]
  exact q.take _
theorem keyD_inj : ∀ {a b : Key}, keyD a = keyD b → a = b
  | .inl a, .inl b, h => by
    have e : a = b := by injection h
    rw [e]
  | .inl a, .inr b, h => by unfold keyD at h; exact nomatch h
  | .inr a, .inl b, h => by unfold keyD at h; exact nomatch h
  | .inr a, .inr b, h => by
    have e : a.cps.toList = b.cps.toList := by injection h
    congr 1
    rw [← strOf_cps a, ← strOf_cps b, e]
theorem key_of_D {x : D} {v : V} (h : keyOk x = true) (q : RelD X.K M H x v) : ∃ k : Key, x = keyD k ∧ v = kV k := by
  cases x with
  | int i => exact ⟨.inl i, rfl, q.int⟩
  | str s => exact ⟨.inr (strOf s), by show D.str s = D.str (strOf s).cps.toList; rw [strOf_toList], q.str⟩
  | _ => cases h
theorem dget_rel {K : PySem.W.Frag} : ∀ {kvs : List (D × D)} {ps : List (Key × V)} (k : Key), RelKs K M H kvs ps →
    (dget kvs (keyD k) = none ∧ valV ps k = none) ∨ ∃ d v, dget kvs (keyD k) = some d ∧ valV ps k = some v ∧ RelD K M H d v
  | [], _, k, q => by
    have e : _ = [] := q
    subst e
    exact .inl ⟨rfl, rfl⟩
  | p :: r, _, k, q => by
    obtain ⟨k', v, qs, rfl, hk, hv, q⟩ := q
    unfold dget valV
    rw [List.find?_cons, List.find?_cons]
    by_cases e : k' = k
    · subst e
      simp only [hk, decide_true]
      exact .inr ⟨p.2, v, rfl, rfl, hv⟩
    · have e1 : decide (p.1 = keyD k) = false := decide_eq_false (fun z => e (keyD_inj (hk.symm.trans z)))
      have e2 : decide (k' = k) = false := decide_eq_false e
      simp only [e1, e2]
      exact dget_rel k q
theorem RelKs.length {K : PySem.W.Frag} : ∀ {kvs : List (D × D)} {ps : List (Key × V)}, RelKs K M H kvs ps → kvs.length = ps.length
  | [], _, q => by have e : _ = [] := q; subst e; rfl
  | p :: r, _, q => by
    obtain ⟨k', v, qs, rfl, hk, hv, q⟩ := q
    simp [RelKs.length q]
theorem RelKs.any {K : PySem.W.Frag} (k : Key) : ∀ {kvs : List (D × D)} {ps : List (Key × V)}, RelKs K M H kvs ps → (kvs.any fun p => decide (p.1 = keyD k)) = ps.any fun p => decide (p.1 = k)
  | [], _, q => by have e : _ = [] := q; subst e; rfl
  | p :: r, _, q => by
    obtain ⟨k', v, qs, rfl, hk, hv, q⟩ := q
    rw [List.any_cons, List.any_cons, RelKs.any k q, hk]
    congr 1
    exact decide_eq_decide.mpr ⟨fun e => keyD_inj e, fun e => by have e : k' = k := e; rw [e]⟩
theorem RelKs.map {K : PySem.W.Frag} {d : D} {w : V} (k : Key) (r : RelD K M H d w) : ∀ {kvs : List (D × D)} {ps : List (Key × V)}, RelKs K M H kvs ps → RelKs K M H (kvs.map fun p => if p.1 = keyD k then (p.1, d) else p) (ps.map fun p => if p.1 = k then (p.1, w) else p)
  | [], _, q => by have e : _ = [] := q; subst e; exact rfl
  | p :: t, _, q => by
    obtain ⟨k', v, qs, rfl, hk, hv, q⟩ := q
    rw [List.map_cons, List.map_cons]
    by_cases e : k' = k
    · subst e
      rw [if_pos hk, if_pos rfl]
      exact ⟨k', w, _, rfl, hk, r, RelKs.map k' r q⟩
    · rw [if_neg (fun z => e (keyD_inj (hk.symm.trans z))), if_neg e]
      exact ⟨k', v, _, rfl, hk, hv, RelKs.map k r q⟩
theorem RelKs.snoc {K : PySem.W.Frag} {d : D} {w : V} (k : Key) (r : RelD K M H d w) : ∀ {kvs : List (D × D)} {ps : List (Key × V)}, RelKs K M H kvs ps → RelKs K M H (kvs ++ [(keyD k, d)]) (ps ++ [(k, w)])
  | [], _, q => by have e : _ = [] := q; subst e; exact ⟨k, w, [], rfl, rfl, r, rfl⟩
  | p :: t, _, q => by
    obtain ⟨k', v, qs, rfl, hk, hv, q⟩ := q
    exact ⟨k', v, _, rfl, hk, hv, RelKs.snoc k r q⟩
theorem RelKs.put {K : PySem.W.Frag} {kvs : List (D × D)} {ps : List (Key × V)} {d : D} {w : V} (k : Key) (q : RelKs K M H kvs ps) (r : RelD K M H d w) : RelKs K M H (dput kvs (keyD k) d) (putK ps k w) := by
  unfold dput putK
  rw [q.any k]
  split
  · exact q.map k r
  · exact q.snoc k r
theorem dic_rel (rs : RelS nm X.K X.mg M S H) {n : Nat} {a : Addr} {kvs : List (D × D)} (hn : M[n]? = some a) (h : dicOf n S = some kvs) : ∃ ps, H a = some (.dK ps) ∧ RelKs X.K M H kvs ps := rs.obj n a _ hn (dic_of h)
/-- d[k] -/
theorem px_dx {o i : Expr} {f g : E} {pos : Pos} (hu : X.A.units + 1 < cLine) (ho : PX nm X o f) (hi : PX nm X i g) (hs : NoSl i) : PX nm X (.Subscript o i pos) (e2 gDx f g) :=
  PE.imp (pe_dget hu ho hi hs) fun σ H Q ⟨M, ρ, S, d, S', rs, re, h, k⟩ => by
    unfold e2 at h
    obtain ⟨x, S1, h1, h⟩ := bind_inv h
    obtain ⟨y, S2, h2, h⟩ := bind_inv h
    refine rE.go rs re h1 fun M1 H1 vx e1 r1 q1 => ?_
    refine rE.go r1 (re.ext rs e1) h2 fun M2 H2 vy e2 r2 q2 => ?_
    have q1 := RelD.ext r1 e2 q1
    unfold gDx at h
    cases x with
    | ref n =>
      dsimp only at h
      split at h
      · rename_i kvs ek
        split at h
        · rename_i c
          split at h
          · rename_i d' ed
            cases h
            obtain ⟨a, rfl, ha⟩ := q1.ref
            obtain ⟨ps, ka, qa⟩ := dic_rel r2 ha ek
            obtain ⟨kk, rfl, rfl⟩ := key_of_D c q2
            rcases dget_rel kk qa with ⟨z, _⟩ | ⟨d2, v2, z1, z2, z3⟩
            · rw [z] at ed; cases ed
            · rw [z1] at ed
              cases ed
              refine ⟨a, v2, rfl, ?_, (k.ext (e1.trans e2)).here r2 z3⟩
              rw [← z2]
              exact DGet.k ka
          · cases h
        · cases h
      · cases h
    | _ => cases h
/-- k in d, k not in d -/
theorem inD_ans (rs : RelS nm X.K X.mg M S H) {x y : D} {vx vy : V} {b : Bool} (hx : RelD X.K M H x vx) (hy : RelD X.K M H y vy) (h : inD x y S = some b) : ∃ a o, vy = .ref a ∧ DGet H a vx o ∧ b = o.isSome := by
  unfold inD at h
  cases y with
  | ref n =>
    dsimp only at h
    split at h
    · rename_i kvs ek
      split at h
      · rename_i c
        cases h
        obtain ⟨a, rfl, ha⟩ := hy.ref
        obtain ⟨ps, ka, qa⟩ := dic_rel rs ha ek
        obtain ⟨kk, rfl, rfl⟩ := key_of_D c hx
        refine ⟨a, valV ps kk, rfl, DGet.k ka, ?_⟩
        rcases dget_rel kk qa with ⟨z1, z2⟩ | ⟨d2, v2, z1, z2, z3⟩
        · rw [z1, z2]; rfl
        · rw [z1, z2]; rfl
      · cases h
    · cases h
  | _ => cases h
theorem pxt_notInD {i o : Expr} {f g : E} {pos : Pos} (hu : X.A.units + 1 < cLine) (hi : PX nm X i f) (ho : PX nm X o g) (hm : behindInMarks .NotIn o = false) : PXT nm X (.Compare i [.NotIn] [o] pos) (tE (e2 gNotInD f g)) :=
  pxt_b (pt_cmp (pc_dnotin hu hi ho) hm) fun σ H Q ⟨M, ρ, S, d, S', rs, re, h, k⟩ => by
    unfold e2 at h
    obtain ⟨x, S1, h1, h⟩ := bind_inv h
    obtain ⟨y, S2, h2, h⟩ := bind_inv h
    refine rE.go rs re h1 fun M1 H1 vx e1 r1 q1 => ?_
    refine rE.go r1 (re.ext rs e1) h2 fun M2 H2 vy e2 r2 q2 => ?_
    unfold gNotInD at h
    split at h
    · rename_i b eb
      cases h
      obtain ⟨a, o, z1, z2, z3⟩ := inD_ans r2 (RelD.ext r1 e2 q1) q2 eb
      exact ⟨a, o, z1, z2, by rw [← z3]; exact (k.ext (e1.trans e2)).here r2 .mkB⟩
    · cases h
/-- {k: v, ..} -/
theorem putAll_rel {K : PySem.W.Frag} : ∀ {kvs more : List (D × D)} {ps qs : List (Key × V)}, RelKs K M H kvs ps → RelKs K M H more qs → RelKs K M H (putAll kvs more) (mergeK ps qs)
  | kvs, [], ps, _, q, r => by have e : _ = [] := r; subst e; exact q
  | kvs, p :: more, ps, _, q, r => by
    obtain ⟨k', v, qs, rfl, hk, hv, r⟩ := r
    obtain ⟨pk, pd⟩ := p
    have hk' : pk = keyD k' := hk
    subst hk'
    have hv : RelD K M H pd v := hv
    exact putAll_rel (kvs := dput kvs (keyD k') pd) (ps := putK ps k' v) (q.put k' hv) r
theorem evPairs_len : ∀ {ps : List (E × E)} {ρ : Env} {S S' : Sto} {q : List (D × D)}, evPairs ps ρ S = .ok q S' → q.length = ps.length
  | [], _, _, _, _, h => by unfold evPairs at h; cases h; rfl
  | (k, v) :: r, _, _, _, _, h => by
    unfold evPairs at h
    obtain ⟨x, S1, h1, h⟩ := bind_inv h
    obtain ⟨y, S2, h2, h⟩ := bind_inv h
    split at h
    · obtain ⟨q, S3, h3, h⟩ := bind_inv h
      cases h
      simp [evPairs_len h3]
    · cases h
theorem pairs_read : ∀ {ps : List (E × E)} {M : List Addr} {H : Hp} {S S' : Sto} {ρ : Env} {σ : L2.St} {q : List (D × D)} {R : List (V × V) → Hp → Prop}, RelS nm X.K X.mg M S H → RelE X.K M H ρ σ → evPairs ps ρ S = .ok q S' →
    (∀ M' H' kvs, Ext M H M' H' → RelS nm X.K X.mg M' S' H' → RelKs X.K M' H' q kvs → R (kvs.map fun kv => (kV kv.1, kv.2)) H') → tPairs (ps.map fun p => (rE nm X p.1, rE nm X p.2)) σ H R
  | [], M, H, _, _, _, _, _, _, rs, re, h, k => by
    unfold evPairs at h
    cases h
    exact k M H [] Ext.refl rs rfl
  | (a, b) :: r, M, H, _, _, _, _, _, _, rs, re, h, k => by
    unfold evPairs at h
    obtain ⟨x, S1, h1, h⟩ := bind_inv h
    obtain ⟨y, S2, h2, h⟩ := bind_inv h
    split at h
    · rename_i c
      obtain ⟨q, S3, h3, h⟩ := bind_inv h
      cases h
      refine rE.go rs re h1 fun M1 H1 vx e1 r1 q1 => ?_
      refine rE.go r1 (re.ext rs e1) h2 fun M2 H2 vy e2 r2 q2 => ?_
      refine pairs_read r2 ((re.ext rs e1).ext r1 e2) h3 fun M3 H3 kvs e3 r3 q3 => ?_
      obtain ⟨kk, rfl, rfl⟩ := key_of_D c (RelD.ext r1 e2 q1)
      exact k M3 H3 ((kk, vy) :: kvs) ((e1.trans e2).trans e3) r3 ⟨kk, vy, kvs, rfl, rfl, RelD.ext r2 e3 q2, q3⟩
    · cases h
abbrev PXP (nm : Nm) (X : Cx) (pos : Pos) (keys : List (Option Expr)) (values : List Expr) (ps : List (E × E)) : Prop := PPs X pos keys values (ps.map fun p => (rE nm X p.1, rE nm X p.2))
theorem pxp_nil {pos : Pos} : PXP nm X pos [] [] [] := pps_nil
theorem pxp_cons {pos : Pos} {k v : Expr} {ks : List (Option Expr)} {vs : List Expr} {f g : E} {ps : List (E × E)} (hk : PX nm X k f) (hv : PX nm X v g) (hr : PXP nm X pos ks vs ps) : PXP nm X pos (some k :: ks) (v :: vs) ((f, g) :: ps) := pps_cons hk hv hr
theorem px_disp {pos : Pos} {keys : List (Option Expr)} {values : List Expr} {ps : List (E × E)} (h : PXP nm X pos keys values ps) (hall : keys.all (·.isSome) = true) (hl : keys.length = values.length) (h0 : keys ≠ []) (h15 : keys.length ≤ 15) (hp : ps.length ≤ 15) : PX nm X (.Dict keys values pos) (eDict ps) :=
  PE.imp (pe_disp h hall hl h0 h15) fun σ H Q ⟨M, ρ, S, d, S', rs, re, h, k⟩ => by
    unfold eDict at h
    obtain ⟨q, S1, h1, h⟩ := bind_inv h
    cases h
    intro p hp0
    have e0 : Ext M H M (upd H p (.dK [])) := Ext.tup hp0
    have r0 : RelS nm X.K X.mg M S (upd H p (.dK [])) := rs.tup hp0
    have np : p ∉ M := rs.fresh hp0
    refine pairs_read r0 (re.ext rs e0) h1 fun M1 H1 kvs e1 r1 q1 => ?_
    obtain ⟨hp1, np1⟩ := e1.kept np
    have hlen : kvs.length ≤ 15 := by rw [← q1.length, evPairs_len h1]; exact hp
    refine ⟨hp1, kvs, rfl, hlen, ?_⟩
    -- p is named from here on
    refine k _ _ _ (Ext.adopt hp0 e1 np) (r1.adopt np1 hp1 (fun _ z => nomatch z) (fun _ _ z => nomatch z) ⟨_, upd_same, putAll_rel (show RelKs X.K _ _ [] [] from rfl) (q1.mo (Mo.adopt hp1 (fun _ z => nomatch z) (fun _ _ z => nomatch z)))⟩) ?_
    unfold RelD
    exact ⟨p, rfl, r1.last⟩
end
end PF
end
section
set_option linter.all false
set_option Elab.async false
set_option linter.all false
set_option maxRecDepth 100003
set_option maxHeartbeats 2000003
set_option autoImplicit false
namespace PF
open PySem L2 PyProof.Rows
/-- what an iterator goes over -/
inductive Sr where
  | lst (a : Addr) | tup (a : Addr) | txt (x : Str)
def Sr.at_ (K : PySem.W.Frag) (H : Hp) : Sr → List V → Prop
  | .lst a, xs => SqL K H a xs
  | .tup a, xs => SqT K H a xs
  | .txt x, xs => xs = x.cps.toList.map fun c => V.str ⟨#[c]⟩
/-- its iterator at it, ahead of turn i -/
def Sr.own (it : Addr) : Sr → Nat → Heap → Prop
  | .lst a, i, h => h.IsListIter it a i
  | .tup a, i, h => h.IsTupleIter it a i
  | .txt x, i, h => ∃ t, h.IsStrIter it (strIterType x) x t i
def Sr.val : Sr → V
  | .lst a => .ref a
  | .tup a => .ref a
  | .txt x => .str x
theorem Sr.own_at {it : Addr} {sr : Sr} {i : Nat} {h h' : Heap} (o : sr.own it i h) (k : ∀ ob, h.get? it = some ob → h'.get? it = some ob) : sr.own it i h' := by
  cases sr with
  | lst a => exact Heap.IsListIter.at o k
  | tup a => exact Heap.IsTupleIter.at o k
  | txt x =>
    obtain ⟨t, o, ho, r⟩ := o
    exact ⟨t, o, k o ho, r⟩
theorem Sr.own_obj {it : Addr} {sr : Sr} {i : Nat} {h : Heap} (o : sr.own it i h) : ∃ ob, h.get? it = some ob ∧ (∃ fs, ob.data = .fields fs) ∧ ob.cls ≠ .type "list" ∧ ob.cls ≠ .type "tuple" := by
  cases sr with
  | lst a => obtain ⟨ob, ho, hc, hd⟩ := o; exact ⟨ob, ho, ⟨_, hd⟩, by rw [hc]; decide, by rw [hc]; decide⟩
  | tup a => obtain ⟨ob, ho, hc, hd⟩ := o; exact ⟨ob, ho, ⟨_, hd⟩, by rw [hc]; decide, by rw [hc]; decide⟩
  | txt x =>
    obtain ⟨t, ob, ho, hc, hd⟩ := o
    refine ⟨ob, ho, ⟨_, hd⟩, ?_, ?_⟩
    · rw [hc]; unfold strIterType; split <;> decide
    · rw [hc]; unfold strIterType; split <;> decide
theorem known_l {X : Cx} {pins : List (Addr × Obj)} {σ : L2.St} {H : Hp} {s : Shared} {a : Addr} {xs : List V} (I : Inv X pins σ H s) (h : SqL X.K H a xs) : (∃ o, H a = some o) ∨ ∃ o, X.base.get? a = some o := by
  rcases h with (h | ⟨o, h⟩) | ⟨o, its, n, h, _⟩
  · exact .inl ⟨_, h⟩
  · exact .inl ⟨_, h⟩
  · exact .inr ⟨o, I.ok.mod.kin a o h⟩
theorem known_t {X : Cx} {pins : List (Addr × Obj)} {σ : L2.St} {H : Hp} {s : Shared} {a : Addr} {xs : List V} (I : Inv X pins σ H s) (h : SqT X.K H a xs) : (∃ o, H a = some o) ∨ ∃ o, X.base.get? a = some o := by
  rcases h with (h | ⟨o, h⟩) | ⟨o, its, n, h, _⟩
  · exact .inl ⟨_, h⟩
  · exact .inl ⟨_, h⟩
  · exact .inr ⟨o, I.ok.mod.kin a o h⟩
/-- what it draws -/
theorem Sr.draws {X : Cx} {pins : List (Addr × Obj)} {σ : L2.St} {H : Hp} {s : Shared} {sr : Sr} {xs : List V} {it : Addr} {i : Nat} (I : Inv X pins σ H s) (hh : X.A.handled = none) (at_ : sr.at_ X.K H xs) (o : sr.own it i s.heap) :
    ∃ (fp : List Addr) (n : Nat) (P : Nat → Value → Prop) (St : Nat → Heap → Prop), Draws X.prog X.w X.A.in1 it fp n P St ∧ St i s.heap ∧ it ∈ fp ∧ n = xs.length ∧
      (∀ b ∈ fp, b = it ∨ ∃ ob, s.heap.get? b = some ob ∧ (ob.cls = .type "list" ∨ ob.cls = .type "tuple") ∧ ((∃ o, H b = some o) ∨ ∃ o, X.base.get? b = some o)) ∧ (∀ j u, P j u → ∃ x, xs[j]? = some x ∧ RelV x u) ∧ ∀ j h', St j h' → sr.own it j h' := by
  have hh' : X.A.in1.handled = none := hh
  cases sr with
  | lst a =>
    obtain ⟨its, rv, p, hz⟩ := I.list at_
    have hl : s.heap.IsList a its.toArray := p.isList
    have ne : a ≠ it := fun e => by
      obtain ⟨ob, ho, hc, _⟩ := o
      obtain ⟨ob2, ho2, hc2, _⟩ := hl
      rw [e, ho] at ho2
      cases ho2
      rw [hc] at hc2
      exact absurd hc2 (by decide)
    refine ⟨_, _, _, _, Draws.list hh' it a ne its.toArray, ⟨o, hl⟩, by simp, by rw [List.size_toArray]; exact rv.length.symm, fun b hb => ?_, fun j u hu => ?_, fun j h' st => st.1⟩
    · rcases List.mem_cons.mp hb with e | hb
      · exact .inl e
      · have e : b = a := by simpa using hb
        subst e
        obtain ⟨ob, ho, hc, _⟩ := hl
        exact .inr ⟨ob, ho, .inl hc, known_l I at_⟩
    · have hu' : its[j]? = some u := by simpa using hu
      cases e : xs[j]? with
      | none => rw [rv.none_of e] at hu'; cases hu'
      | some x =>
        obtain ⟨u2, h1, h2⟩ := rv.get e
        rw [h1] at hu'
        cases hu'
        exact ⟨x, rfl, h2⟩
  | tup a =>
    obtain ⟨its, rv, p, hz⟩ := I.tuple at_
    have hl : s.heap.IsTuple a its.toArray := p
    have ne : a ≠ it := fun e => by
      obtain ⟨ob, ho, hc, _⟩ := o
      obtain ⟨ob2, ho2, hc2, _⟩ := hl
      rw [e, ho] at ho2
      cases ho2
      rw [hc] at hc2
      exact absurd hc2 (by decide)
    refine ⟨_, _, _, _, Draws.tuple hh' it a ne its.toArray, ⟨o, hl⟩, by simp, by rw [List.size_toArray]; exact rv.length.symm, fun b hb => ?_, fun j u hu => ?_, fun j h' st => st.1⟩
    · rcases List.mem_cons.mp hb with e | hb
      · exact .inl e
      · have e : b = a := by simpa using hb
        subst e
        obtain ⟨ob, ho, hc, _⟩ := hl
        exact .inr ⟨ob, ho, .inr hc, known_t I at_⟩
    · have hu' : its[j]? = some u := by simpa using hu
      cases e : xs[j]? with
      | none => rw [rv.none_of e] at hu'; cases hu'
      | some x =>
        obtain ⟨u2, h1, h2⟩ := rv.get e
        rw [h1] at hu'
        cases hu'
        exact ⟨x, rfl, h2⟩
  | txt x =>
    obtain ⟨t, o⟩ := o
    have at' : xs = x.cps.toList.map fun c => V.str ⟨#[c]⟩ := at_
    subst at'
    refine ⟨_, _, _, _, Draws.text hh' it x t, o, by simp, by simp, fun b hb => .inl (by simpa using hb), fun j u hu => ?_, fun j h' st => ⟨t, st⟩⟩
    obtain ⟨c, tk, h1, rfl⟩ := hu
    exact ⟨V.str ⟨#[c]⟩, by simp [h1], ⟨tk, rfl⟩⟩
theorem Sr.inj {X : Cx} {pins : List (Addr × Obj)} {σ : L2.St} {H : Hp} {s : Shared} {sr : Sr} {xs ys : List V} (I : Inv X pins σ H s) (h : sr.at_ X.K H xs) (h' : sr.at_ X.K H ys) : xs = ys := by
  cases sr with
  | lst a => exact I.list_inj h h'
  | tup a => exact I.tuple_inj h h'
  | txt x => exact (show xs = _ from h).trans (show ys = _ from h').symm
/-- it begins -/
theorem Sr.begins {X : Cx} {pins : List (Addr × Obj)} {σ : L2.St} {H : Hp} {s : Shared} {sr : Sr} {xs : List V} {u : Value} (I : Inv X pins σ H s) (at_ : sr.at_ X.K H xs) (ru : RelV sr.val u) :
    ∃ (o : Obj) (P : Heap → Prop), Begins u o P ∧ P s.heap ∧ ∀ (it : Addr) (h' : Heap), h'.get? it = some o → sr.own it 0 h' := by
  cases sr with
  | lst a =>
    cases ru
    obtain ⟨its, rv, p, hz⟩ := I.list at_
    exact ⟨_, _, begins_list a its.toArray, p.isList, fun it h' e => ⟨_, e, rfl, rfl⟩⟩
  | tup a =>
    cases ru
    obtain ⟨its, rv, p, hz⟩ := I.tuple at_
    exact ⟨_, _, begins_tuple a its.toArray, p, fun it h' e => ⟨_, e, rfl, rfl⟩⟩
  | txt x =>
    obtain ⟨t, rfl⟩ := ru
    exact ⟨_, _, begins_text x t, trivial, fun it h' e => ⟨t, _, e, rfl, rfl⟩⟩
/-- each item in a new pair -/
def ItE (K : PySem.W.Frag) (sr : Sr) : It :=
  ⟨fun i H => ∃ xs : List V, sr.at_ K H xs ∧ i < xs.length, fun i H v H' => ∃ T x, v = .ref T ∧ H T = none ∧ H' = upd H T (.tup [.int (i : Nat), x]) ∧ ∀ xs : List V, sr.at_ K H xs → xs[i]? = some x, fun i H => ∃ xs : List V, sr.at_ K H xs ∧ xs.length = i⟩
theorem turn_enumE {P : Program} {w : World} {K : PySem.W.Frag} {elts : List Expr} {kk : Nat} {tpos : Pos} (sr : Sr) (e it : Addr) :
    Turn P w K (.Tuple elts kk tpos) (ItE K sr) [e, it] e (fun i h => (∃ old, IsEnum h e it ((i : Nat) : Int) old) ∧ sr.own it i h ∧ e ≠ it) where
  mem := by simp
  obj := fun i h st b hb => by
    obtain ⟨⟨old, he⟩, ho, _⟩ := st
    have e' : b = e ∨ b = it := by simpa using hb
    rcases e' with z | z
    · rw [z]; exact ⟨_, he, fun v q => nomatch q⟩
    · obtain ⟨ob, h1, ⟨fs, h2⟩, _⟩ := Sr.own_obj (sr := sr) (i := i) ho
      rw [z]; exact ⟨ob, h1, fun v q => by rw [h2] at q; cases q⟩
  keep := fun i h h' st k => let ⟨⟨old, he⟩, hi, hne⟩ := st; ⟨⟨old, k e (by simp) _ he⟩, Sr.own_at (sr := sr) hi fun o q => k it (by simp) o q, hne⟩
  item := by
    intro X hP hw hK hc i pins s σ H E I hf st hg
    subst hP hw hK
    obtain ⟨⟨old, he⟩, hit, hne⟩ := st
    obtain ⟨xs, hq, hx⟩ := hg
    obtain ⟨fp, n, P, St, D, hst, mem, hn, hfp, hP, hSt⟩ := Sr.draws I (I.ok.hd hc) hq hit
    have hel : e < s.heap.objs.size := Heap.lt_size he
    have hil : it < s.heap.objs.size := by obtain ⟨_, q, _⟩ := Sr.own_obj (sr := sr) (i := i) hit; exact Heap.lt_size q
    have hef : e ∉ fp := fun hm => by
      rcases hfp e hm with z | ⟨ob, h1, h2⟩
      · exact hne z
      · rw [he] at h1
        cases h1
        rcases h2.1 with h2 | h2
        · exact absurd (show Value.type "enumerate" = .type "list" from h2) (by decide)
        · exact absurd (show Value.type "enumerate" = .type "tuple" from h2) (by decide)
    refine wpAny_pyNext_enum_itemD D he hst (by omega) hne hef fun u h' tk hu ho hit' hT hsz hk => ?_
    obtain ⟨x, hxu, ru⟩ := hP i u hu
    refine ⟨_, rfl, wpAny_letOwnedTupleGo_enum (s := { s with heap := h', toks := tk + 1 }) ho fun h'' he' sb => ?_⟩
    have hT2 : h''.get? s.heap.objs.size = some { cls := .type "tuple", data := .seq #[.int i tk, u] } := (sb.2 _ (Nat.ne_of_gt hel)).trans hT
    have new : ObjOk X.prog X.w (upd H s.heap.objs.size (.tup [.int (i : Nat), x])) h'' s.heap.objs.size (.tup [.int (i : Nat), x]) :=
      ⟨by show 2 ≤ sizeLine; decide, [.int i tk, u], .cons ⟨_, rfl⟩ (.cons ru .nil), ⟨_, hT2, rfl, _, rfl⟩⟩
    have I1 : Inv X pins σ (upd H s.heap.objs.size (.tup [.int (i : Nat), x])) { s with heap := h'', toks := tk + 1 } :=
      I.turnedNew (ch := [e, it]) (fun b ob hb q => (sb.2 b (fun z => hb (by simp [z]))).trans (hk b ob (fun z => hb (by simp [z])) (fun z => hb (by simp [z])) q)) hf (Nat.le_refl _) new
    refine ⟨.ref s.heap.objs.size, _, I1, rfl, ⟨_, x, rfl, I.hok.fresh (Nat.le_refl _), rfl, fun ws hw => by rw [Sr.inj I hw hq]; exact hxu⟩, ⟨⟨u, ?_⟩, Sr.own_at (hSt _ _ hit') fun o q => (sb.2 it (Ne.symm hne)).trans q, hne⟩, fun b hb => ?_⟩
    · have e1 : ((i + 1 : Nat) : Int) = (i : Int) + 1 := by omega
      rw [e1]; exact he'
    · have hb' : b < s.heap.objs.size := by
        have e' : b = e ∨ b = it := by simpa using hb
        rcases e' with z | z
        · rw [z]; exact hel
        · rw [z]; exact hil
      rw [upd_ne (Nat.ne_of_lt hb')]
      exact (hf b hb).1
  done := by
    intro X hP hw hK hc i pins s σ H E I hf st hg
    subst hP hw hK
    obtain ⟨⟨old, he⟩, hit, hne⟩ := st
    obtain ⟨xs, hq, hx⟩ := hg
    obtain ⟨fp, n, P, St, D, hst, mem, hn, hfp, hP, hSt⟩ := Sr.draws I (I.ok.hd hc) hq hit
    obtain ⟨f0, f1, f2, f3, f4, f5⟩ := hf it (by simp)
    have en : i = n := by omega
    subst en
    exact wpAny_pyNext_enum_endD D he hst fun h' eb => ⟨rfl, I.turned (t' := s.toks) (fun b o hb q => eb b o hb q) f0 f1 f3 f4 f5⟩
  self := fun A i s Q E st h => let ⟨⟨_, he⟩, _⟩ := st; wpAny_pyIter_enum he h
set_option maxHeartbeats 4000003 in
theorem meets_enumerate_new1 {v : Value} {o : Obj} {H : Heap → Prop} (B : Begins v o H) :
    Meets (Builtin.«enumerate.__new__» ⟨[.type "enumerate", v], []⟩) (fun _ R s => H s.heap ∧
      R (.ok (.ret (.ref (s.heap.push o).objs.size))) { s with heap := (s.heap.push o).push { cls := .type "enumerate", data := .fields #[.none, .bool false, .ref s.heap.objs.size, rawInt 0, .none, .none] } }) :=
  .of_wp fun prog w A R s h => by
    obtain ⟨hp, g, d, tk, os⟩ := s; obtain ⟨h1, h⟩ := h
    have hsub := sub_enumerate
    have q1 : ∀ {A' : Around} {E : Value → Shared → Prop} {Q : Value → Shared → Prop}, Q (.ref hp.objs.size) ⟨hp.push o, g, d, tk, os⟩ → wpAny (model prog w) A' (pyIter v) Q E ⟨hp, g, d, tk, os⟩ :=
      fun q => B.iter prog w _ _ ⟨hp, g, d, tk, os⟩ _ h1 q
    wp_walk using q1
    refine wpAny_stack_any fun st => wpAny_pure ?_
    split
    · rename_i c _ _ _ _ _
      cases (c == Value.type "enumerate")
      · wp_walk using q1
        exact ⟨_, rfl, h⟩
      · wp_walk using q1
        exact ⟨_, rfl, h⟩
    · wp_walk using q1
      exact ⟨_, rfl, h⟩
theorem enum_begins1 {prog : Program} {w : World} {A : Around} {E : Value → Shared → Prop} {s : Shared} {v : Value} {o : Obj} {H : Heap → Prop} {Q : Value → Shared → Prop} (B : Begins v o H) (h1 : H s.heap)
    (h : ∀ h', IsEnum h' (s.heap.objs.size + 1) s.heap.objs.size 0 .none → h'.get? s.heap.objs.size = some o → h'.objs.size = s.heap.objs.size + 2 →
      (∀ b o, s.heap.get? b = some o → h'.get? b = some o) → Q (.ref (s.heap.objs.size + 1)) { s with heap := h' }) :
    wpAny (model prog w) A (call (.type "enumerate") [v]) Q E s := by
  refine callType_new F.called_enumerate (by decide) (F.typeCall_enumerate_1 _) (F.newCall_enumerate_1 _) (fun obj => F.args_object_init_2 obj _) F.entry_enumerate_new
    (meets_enumerate_new1 B) ⟨h1, ?_⟩
  have hz : (s.heap.push o).objs.size = s.heap.objs.size + 1 := Heap.size_push ..
  show _ ∧ _
  rw [hz]
  have he : IsEnum ((s.heap.push o).push { cls := .type "enumerate", data := .fields #[.none, .bool false, .ref s.heap.objs.size, rawInt 0, .none, .none] }) (s.heap.objs.size + 1) s.heap.objs.size 0 .none := by
    have := Heap.get?_push_size (s.heap.push o) (o := { cls := .type "enumerate", data := .fields #[.none, .bool false, .ref s.heap.objs.size, rawInt 0, .none, .none] }) rfl
    rw [hz] at this; exact this
  refine ⟨⟨_, he, rfl⟩, h _ he (Heap.get?_push_of_some _ (Heap.get?_push_size _ B.free)) (by rw [Heap.size_push, hz]) fun b o x => Heap.get?_push_of_some _ (Heap.get?_push_of_some _ x)⟩
def iEnumE (K : PySem.W.Frag) (ta : TA) : TI := fun σ H R => ta σ H fun vs H1 => ∃ sr xs, vs = [Sr.val sr] ∧ sr.at_ K H1 xs ∧ R (ItE K sr) H1
theorem pi_enumE {X : Cx} {e : Expr} {ta : TA} {p pos tpos : Pos} {elts : List Expr} {kk : Nat} (hg : Gl X "enumerate") (hm : X.mg "enumerate" = none) (ha : PA X [e] ta) (hs : starEach [e] X.env = [(false, eval e X.env)]) :
    PI X (.Tuple elts kk tpos) (.Call (.Name "enumerate" p) [e] [] pos) (iEnumE X.K ta) := by
  refine ⟨fun pins s σ H R I h => ?_⟩
  refine Call_ (ld_blt I hg hm boot_enumerate (PyProof.Rows.callWith_type1 (thn (ha.run pos pins s σ H _ I h) fun us s1 ⟨vs, H1, I1, r1, q1⟩ => ?_) hs rfl))
  obtain ⟨sr, xs, ex, hq, q⟩ := q1
  subst ex
  cases r1 with
  | cons r rr =>
    cases rr
    obtain ⟨o, P, B, hP, hown⟩ := Sr.begins I1 hq r
    refine enum_begins1 B hP fun h' he hit hsz hk => wpAny_pyIter_enum he ?_
    have I2 : Inv X pins σ H1 { s1 with heap := h' } := I1.kept (t' := s1.toks) hk
    refine ⟨s1.heap.objs.size + 1, [s1.heap.objs.size + 1, s1.heap.objs.size], _, _, H1, rfl, I2, turn_enumE sr (s1.heap.objs.size + 1) s1.heap.objs.size, ⟨⟨.none, he⟩, hown _ _ hit, Nat.succ_ne_self _⟩, fun b hb => ?_, q⟩
    have e' : b = s1.heap.objs.size + 1 ∨ b = s1.heap.objs.size := by simpa using hb
    have hle : s1.heap.objs.size ≤ b := by
      rcases e' with z | z
      · rw [z]; exact Nat.le_add_right _ _
      · rw [z]; exact Nat.le_refl _
    exact I1.fpOk hle (I1.hok.fresh hle)
end PF
end
section
set_option linter.all false
set_option Elab.async false
set_option linter.all false
set_option maxRecDepth 100003
set_option maxHeartbeats 2000003
set_option autoImplicit false
namespace PF
open PySem L2
section
variable {nm : Nm} {X : Cx} {M M' : List Addr} {H H' : Hp} {S S' S1 : Sto} {ρ : Env} {σ : L2.St} {Q : VK} {d : D}
/-- a target of names: the slots that it stores -/
def GOk (nm : Nm) (X : Cx) (tg : TG) (g : G) (is : List Nat) : Prop := ∀ (M : List Addr) (H : Hp) (S : Sto) (d : D) (x : V) (ρ ρ1 : Env) (σ : L2.St) (P : L2.St → Hp → Prop), RelS nm X.K X.mg M S H → RelD X.K M H d x → RelE X.K M H ρ σ → g d ρ = some ρ1 →
  (∀ σ1, RelE X.K M H ρ1 σ1 → (∀ vs : List Nat, (∀ i ∈ is, i ∈ vs) → L2.wipe σ1 vs = L2.wipe σ vs) → P σ1 H) → tg x σ H P
theorem RelE.set {K : PySem.W.Frag} {x : V} {i : Nat} (re : RelE K M H ρ σ) (q : RelD K M H d x) : RelE K M H (ρ.set i (some d)) (σ.set i (some x)) := by
  refine ⟨by simp [re.len], fun j d' hj => ?_⟩
  by_cases e : j = i
  · subst e
    by_cases hl : j < ρ.length
    · rw [List.getElem?_set_self hl] at hj
      cases hj
      exact ⟨x, by rw [List.getElem?_set_self (by rw [← re.len]; exact hl)], q⟩
    · rw [List.getElem?_eq_none (by simpa using hl)] at hj
      cases hj
  · rw [List.getElem?_set_ne (Ne.symm e)] at hj
    obtain ⟨v, h1, h2⟩ := re.at_ j d' hj
    exact ⟨v, by rw [List.getElem?_set_ne (Ne.symm e)]; exact h1, h2⟩
theorem wipe_set {i : Nat} {x : Option V} : ∀ {vs : List Nat} (σ : L2.St), i ∈ vs → L2.wipe (σ.set i x) vs = L2.wipe σ vs
  | [], _, h => by cases h
  | v :: vs, σ, h => by
    show (L2.wipe (σ.set i x) vs).set v none = (L2.wipe σ vs).set v none
    by_cases hv : i ∈ vs
    · rw [wipe_set σ hv]
    · have e : i = v := by rcases List.mem_cons.mp h with e | e; exact e; exact absurd e hv
      subst e
      have out : ∀ (ws : List Nat) (τ : L2.St), i ∉ ws → L2.wipe (τ.set i x) ws = (L2.wipe τ ws).set i x := by
        intro ws
        induction ws with
        | nil => intro τ _; rfl
        | cons w ws ih =>
          intro τ hw
          show (L2.wipe (τ.set i x) ws).set w none = ((L2.wipe τ ws).set w none).set i x
          rw [ih τ (fun z => hw (List.mem_cons_of_mem _ z))]
          have ne : i ≠ w := fun z => hw (z ▸ List.mem_cons_self)
          rw [List.set_comm _ _ ne]
      rw [out vs σ hv, List.set_set]
theorem wipe_wipe (vs : List Nat) (σ : L2.St) : L2.wipe (L2.wipe σ vs) vs = L2.wipe σ vs := by
  have gen : ∀ (ws : List Nat), (∀ i ∈ ws, i ∈ vs) → L2.wipe (L2.wipe σ ws) vs = L2.wipe σ vs := by
    intro ws
    induction ws with
    | nil => intro _; rfl
    | cons w ws ih =>
      intro h
      show L2.wipe ((L2.wipe σ ws).set w none) vs = _
      rw [wipe_set _ (h w List.mem_cons_self)]
      exact ih fun i hi => h i (List.mem_cons_of_mem _ hi)
  exact gen vs fun _ h => h
theorem RelE.wipe {K : PySem.W.Frag} (re : RelE K M H ρ σ) : ∀ vs : List Nat, RelE K M H (PF.wipe ρ vs) (L2.wipe σ vs)
  | [] => re
  | v :: vs => by
    have ih := RelE.wipe re vs
    show RelE K M H ((PF.wipe ρ vs).set v none) ((L2.wipe σ vs).set v none)
    refine ⟨by simp [ih.len], fun j d' hj => ?_⟩
    by_cases e : j = v
    · subst e
      by_cases hl : j < (PF.wipe ρ vs).length
      · rw [List.getElem?_set_self hl] at hj; cases hj
      · rw [List.getElem?_eq_none (by simpa using hl)] at hj; cases hj
    · rw [List.getElem?_set_ne (Ne.symm e)] at hj
      obtain ⟨u, h1, h2⟩ := ih.at_ j d' hj
      exact ⟨u, by rw [List.getElem?_set_ne (Ne.symm e)]; exact h1, h2⟩
theorem gok_name (i : Nat) : GOk nm X (L2.gName i) (PF.gName i) [i] := by
  intro M H S d x ρ ρ1 σ P rs q re h k
  cases h
  exact k _ (re.set q) fun vs hv => wipe_set σ (hv i List.mem_cons_self)
/-- names in a row -/
def gSlots : List Nat → TGs
  | [] => gNil
  | i :: is => gCons (L2.gName i) (gSlots is)
theorem setAll_len : ∀ {is : List Nat} {ds : List D} {ρ ρ1 : Env}, setAll is ds ρ = some ρ1 → ds.length = is.length
  | [], [], _, _, _ => rfl
  | i :: is, d :: ds, ρ, ρ1, h => by
    unfold setAll at h
    simp [setAll_len h]
  | [], _ :: _, _, _, h => by cases h
  | _ :: _, [], _, _, h => by cases h
theorem slots_read {K : PySem.W.Frag} : ∀ {is : List Nat} {ds : List D} {vs : List V} {ρ ρ1 : Env} {σ : L2.St} {P : L2.St → Hp → Prop}, RelDs K M H ds vs → RelE K M H ρ σ → setAll is ds ρ = some ρ1 →
    (∀ σ1, RelE K M H ρ1 σ1 → (∀ ws : List Nat, (∀ i ∈ is, i ∈ ws) → L2.wipe σ1 ws = L2.wipe σ ws) → P σ1 H) → gSlots is vs σ H P
  | [], [], _, _, _, σ, P, q, re, h, k => by
    unfold RelDs at q
    subst q
    cases h
    exact ⟨rfl, k σ re fun _ _ => rfl⟩
  | i :: is, d :: ds, _, ρ, ρ1, σ, P, q, re, h, k => by
    unfold RelDs at q
    obtain ⟨v, r, rfl, q1, q2⟩ := q
    unfold setAll at h
    refine ⟨v, r, rfl, ?_⟩
    show gSlots is r (σ.set i (some v)) H P
    refine slots_read q2 (re.set q1) h fun σ1 r1 w => k σ1 r1 fun ws hw => ?_
    rw [w ws fun j hj => hw j (List.mem_cons_of_mem _ hj), wipe_set σ (hw i List.mem_cons_self)]
  | [], _ :: _, _, _, _, _, _, _, _, h, _ => by cases h
  | _ :: _, [], _, _, _, _, _, _, _, h, _ => by cases h
theorem gok_tup {is : List Nat} : GOk nm X (L2.gTup X.K is.length (gSlots is)) (PF.gTup is) is := by
  intro M H S d x ρ ρ1 σ P rs q re h k
  unfold PF.gTup at h
  cases d with
  | tup ds =>
    obtain ⟨a, vs, rfl, ha, qa⟩ := q.tup
    exact ⟨a, vs, rfl, ha, by rw [← qa.length]; exact setAll_len h, slots_read qa re h k⟩
  | _ => cases h
structure WalkJ (nm : Nm) (X : Cx) (J : It) (M : List Addr) (H : Hp) (it : Iter) : Prop where
  go : ∀ (i : Nat) (M2 : List Addr) (H2 : Hp) (S2 : Sto), Ext M H M2 H2 → RelS nm X.K X.mg M2 S2 H2 → it.same S2 = true → i < it.all.length → J.go i H2
  yld : ∀ (i : Nat) (d : D) (M2 : List Addr) (H2 : Hp) (S2 : Sto) (x : V) (H3 : Hp), Ext M H M2 H2 → RelS nm X.K X.mg M2 S2 H2 → it.same S2 = true → it.all[i]? = some d → J.yld i H2 x H3 → Ext M2 H2 M2 H3 ∧ RelS nm X.K X.mg M2 S2 H3 ∧ RelD X.K M2 H3 d x
  stop : ∀ (i : Nat) (M2 : List Addr) (H2 : Hp) (S2 : Sto), Ext M H M2 H2 → RelS nm X.K X.mg M2 S2 H2 → it.same S2 = true → it.all.length = i → J.stop i H2
def rI (nm : Nm) (X : Cx) (f : I) : TI := fun σ H R => ∃ M ρ S it S', RelS nm X.K X.mg M S H ∧ RelE X.K M H ρ σ ∧ f ρ S = .ok it S' ∧ ∀ M' H' J, Ext M H M' H' → RelS nm X.K X.mg M' S' H' → WalkJ nm X J M' H' it → R J H'
abbrev PXI (nm : Nm) (X : Cx) (tg e : Expr) (f : I) : Prop := PI X tg e (rI nm X f)
theorem PI.imp {tg e : Expr} {t u : TI} (h : PI X tg e t) (i : ∀ σ H R, u σ H R → t σ H R) : PI X tg e u := ⟨fun pins s σ H R I q => h.run pins s σ H R I (i σ H R q)⟩
/-- a thing to be walked, as it lies -/
theorem sr_of (rs : RelS nm X.K X.mg M S H) {x : D} {v : V} {ds : List D} (q : RelD X.K M H x v) (h : seqZ x S = some ds) :
    ∃ sr : Sr, v = sr.val ∧ ∀ (M2 : List Addr) (H2 : Hp) (S2 : Sto), Ext M H M2 H2 → RelS nm X.K X.mg M2 S2 H2 → (chkOf x S).all (fun p => decide (lstOf p.1 S2 = some p.2)) = true → ∃ vs, sr.at_ X.K H2 vs ∧ RelDs X.K M2 H2 ds vs := by
  unfold seqZ at h
  cases x with
  | str s =>
    cases h
    refine ⟨.txt (strOf s), q.str, fun M2 H2 S2 e r c => ⟨_, rfl, ?_⟩⟩
    rw [strOf_toList]
    unfold charsD
    clear q c r e
    induction s with
    | nil => exact .nil
    | cons a t ih => exact .cons .mkS ih
  | tup es =>
    cases h
    obtain ⟨a, vs, rfl, ha, qa⟩ := q.tup
    exact ⟨.tup a, rfl, fun M2 H2 S2 e r c => ⟨vs, SqT.ext rs e ha, RelDs.ext rs e qa⟩⟩
  | ref n =>
    obtain ⟨a, rfl, ha⟩ := q.ref
    have h : lstOf n S = some ds := h
    refine ⟨.lst a, rfl, fun M2 H2 S2 e r c => ?_⟩
    have ec : chkOf (.ref n) S = [(n, ds)] := by simp [chkOf, h]
    rw [ec] at c
    have c' : lstOf n S2 = some ds := by simpa using c
    exact r.lst (e.get ha) c'
  | _ => cases h
/-- what two readings of a list or a tuple have in common: its length, its items, by a state in which it lies -/
theorem seqOf_Z {x : D} {ds : List D} (h : seqOf x S = some ds) : seqZ x S = some ds := by
  unfold seqZ
  cases x with
  | str s => cases h
  | _ => exact h
/-- over a list or a tuple -/
theorem pi_seq {l tg : Expr} {tl : TE} (hl : PE X l tl) : PI X tg l (fun σ H R => tl σ H fun x H1 => ∃ a, x = .ref a ∧ ((∃ xs, SqL X.K H1 a xs ∧ R (Itl X.K a) H1) ∨ ∃ xs, SqT X.K H1 a xs ∧ R (Itt X.K a) H1)) := by
  refine ⟨fun pins s σ H R I h => ?_⟩
  refine thn (hl.run pins s σ H _ I h) fun v s1 ⟨x, H1, I1, r1, q1⟩ => ?_
  obtain ⟨a, e, q1⟩ := q1
  subst e
  cases r1
  rcases q1 with ⟨xs, hq, q⟩ | ⟨xs, hq, q⟩
  · obtain ⟨its, rv, p, hz⟩ := I1.list hq
    refine wpAny_pyIter_list p.isList ?_
    refine ⟨s1.heap.objs.size, [s1.heap.objs.size], _, _, H1, rfl, I1.kept (t' := s1.toks) fun b o e => Heap.get?_push_of_some _ e, turn_list a _, ⟨_, Heap.get?_push_size _ rfl, rfl, rfl⟩, fun b hb => ?_, q⟩
    have e : b = s1.heap.objs.size := by simpa using hb
    subst e
    exact I1.fpOk (Nat.le_refl _) (I1.hok.fresh (Nat.le_refl _))
  · obtain ⟨its, rv, p, hz⟩ := I1.tuple hq
    refine wpAny_pyIter_tuple (show s1.heap.IsTuple a its.toArray from p) ?_
    refine ⟨s1.heap.objs.size, [s1.heap.objs.size], _, _, H1, rfl, I1.kept (t' := s1.toks) fun b o e => Heap.get?_push_of_some _ e, turn_tuple a _, ⟨_, Heap.get?_push_size _ rfl, rfl, rfl⟩, fun b hb => ?_, q⟩
    have e : b = s1.heap.objs.size := by simpa using hb
    subst e
    exact I1.fpOk (Nat.le_refl _) (I1.hok.fresh (Nat.le_refl _))
theorem pxi_seq {l tg : Expr} {f : E} (hl : PX nm X l f) : PXI nm X tg l (iSeq f) :=
  PI.imp (pi_seq hl) fun σ H R ⟨M, ρ, S, it, S', rs, re, h, k⟩ => by
    unfold iSeq at h
    obtain ⟨x, S1, h1, h⟩ := bind_inv h
    split at h
    · rename_i ds eds
      cases h
      refine rE.go rs re h1 fun M1 H1 v e1 r1 q1 => ?_
      obtain ⟨sr, ev, cur⟩ := sr_of r1 q1 (seqOf_Z eds)
      have cur' : ∀ (M2 : List Addr) (H2 : Hp) (S2 : Sto), Ext M1 H1 M2 H2 → RelS nm X.K X.mg M2 S2 H2 → (⟨chkOf x S', ds⟩ : Iter).same S2 = true → ∃ vs, sr.at_ X.K H2 vs ∧ RelDs X.K M2 H2 ds vs := fun M2 H2 S2 e r c => cur M2 H2 S2 e r c
      have c0 : (⟨chkOf x S', ds⟩ : Iter).same S' = true := by
        unfold Iter.same chkOf
        cases x with
        | ref n =>
          have eds : lstOf n S' = some ds := eds
          simp [eds]
        | _ => rfl
      obtain ⟨vs0, at0, _⟩ := cur' M1 H1 _ Ext.refl r1 c0
      cases sr with
      | lst a =>
        refine ⟨a, ev, .inl ⟨vs0, at0, k M1 H1 _ e1 r1 ⟨fun i M2 H2 S2 e r c hi => ?_, fun i d M2 H2 S2 x H3 e r c hd y => ?_, fun i M2 H2 S2 e r c hi => ?_⟩⟩⟩
        · obtain ⟨vs, ka, qa⟩ := cur' M2 H2 S2 e r c
          have hl : i < vs.length := by rw [← qa.length]; exact hi
          exact ⟨vs, vs[i], ka, by simp [hl]⟩
        · obtain ⟨vs, ka, qa⟩ := cur' M2 H2 S2 e r c
          obtain ⟨y1, y2⟩ := y
          subst y1
          obtain ⟨v, h1, h2⟩ := qa.get hd
          have h3 := y2 vs ka
          rw [h1] at h3
          cases h3
          exact ⟨Ext.refl, r, h2⟩
        · obtain ⟨vs, ka, qa⟩ := cur' M2 H2 S2 e r c
          exact ⟨vs, ka, by rw [← qa.length]; exact Nat.le_of_eq hi⟩
      | tup a =>
        refine ⟨a, ev, .inr ⟨vs0, at0, k M1 H1 _ e1 r1 ⟨fun i M2 H2 S2 e r c hi => ?_, fun i d M2 H2 S2 x H3 e r c hd y => ?_, fun i M2 H2 S2 e r c hi => ?_⟩⟩⟩
        · obtain ⟨vs, ka, qa⟩ := cur' M2 H2 S2 e r c
          have hl : i < vs.length := by rw [← qa.length]; exact hi
          exact ⟨vs, vs[i], ka, by simp [hl]⟩
        · obtain ⟨vs, ka, qa⟩ := cur' M2 H2 S2 e r c
          obtain ⟨y1, y2⟩ := y
          subst y1
          obtain ⟨v, h1, h2⟩ := qa.get hd
          have h3 := y2 vs ka
          rw [h1] at h3
          cases h3
          exact ⟨Ext.refl, r, h2⟩
        · obtain ⟨vs, ka, qa⟩ := cur' M2 H2 S2 e r c
          exact ⟨vs, ka, by rw [← qa.length]; exact Nat.le_of_eq hi⟩
      | txt z =>
        cases x with
        | str s => cases eds
        | tup es => obtain ⟨a, vs, ev2, _⟩ := q1.tup; rw [ev] at ev2; cases ev2
        | ref n => obtain ⟨a, ev2, _⟩ := q1.ref; rw [ev] at ev2; cases ev2
        | _ => cases eds
    · cases h
theorem range_get {lo hi : Int} {i : Nat} {d : D} (h : (rangeD lo hi)[i]? = some d) : i < (hi - lo).toNat ∧ d = .int (lo + (i : Int)) := by
  unfold rangeD at h
  rw [List.getElem?_map] at h
  cases e : (List.range (hi - lo).toNat)[i]? with
  | none => rw [e] at h; cases h
  | some j =>
    rw [e] at h
    cases h
    obtain ⟨h1, h2⟩ := List.getElem?_eq_some_iff.mp e
    rw [List.length_range] at h1
    rw [List.getElem_range] at h2
    subst h2
    exact ⟨h1, rfl⟩
theorem range_len (lo hi : Int) : (rangeD lo hi).length = (hi - lo).toNat := by unfold rangeD; simp
theorem walk_rng {lo hi : Int} {chk : List (Nat × List D)} : WalkJ nm X (Itr lo (hi - lo).toNat) M H ⟨chk, rangeD lo hi⟩ := by
  refine ⟨fun i M2 H2 S2 e r c hi => ?_, fun i d M2 H2 S2 x H3 e r c hd y => ?_, fun i M2 H2 S2 e r c hi => ?_⟩
  · have hi : i < (rangeD lo _).length := hi
    rw [range_len] at hi
    exact hi
  · obtain ⟨y1, y2⟩ := y
    subst y1
    obtain ⟨h1, h2⟩ := range_get hd
    subst h2
    rw [y2]
    exact ⟨Ext.refl, r, .mkI⟩
  · have hi : (rangeD lo _).length = i := hi
    rw [range_len] at hi
    exact Nat.le_of_eq hi
theorem pxi_range1 {a tg : Expr} {f : E} {p pos : Pos} (hg : Gl X "range") (hm : X.mg "range" = none) (ha : PX nm X a f) (hs : starEach [a] X.env = [(false, eval a X.env)]) : PXI nm X tg (.Call (.Name "range" p) [a] [] pos) (iRange1 f) :=
  PI.imp (pi_range1 hg hm (pa_cons ha pa_nil hs) hs) fun σ H R ⟨M, ρ, S, it, S', rs, re, h, k⟩ => by
    unfold iRange1 at h
    obtain ⟨x, S1, h1, h⟩ := bind_inv h
    refine rE.go rs re h1 fun M1 H1 v e1 r1 q1 => ?_
    cases x with
    | int j =>
      dsimp only at h
      split at h
      · rename_i c
        cases h
        have w := k M1 H1 (Itr 0 (j - 0).toNat) e1 r1 walk_rng
        rw [Int.sub_zero] at w
        exact ⟨j, by rw [q1.int], c.1, c.2, w⟩
      · cases h
    | _ => cases h
theorem enum_get : ∀ {ds : List D} {k i : Nat} {d : D}, (enumD k ds)[i]? = some d → ∃ e, ds[i]? = some e ∧ d = .tup [.int ((k + i : Nat) : Int), e]
  | [], _, _, _, h => by simp [enumD] at h
  | x :: xs, k, 0, d, h => by
    simp [enumD] at h
    exact ⟨x, rfl, h.symm⟩
  | x :: xs, k, i + 1, d, h => by
    simp only [enumD, List.getElem?_cons_succ] at h
    obtain ⟨e, h1, h2⟩ := enum_get h
    exact ⟨e, by simpa using h1, by rw [h2, show k + 1 + i = k + (i + 1) by omega]⟩
theorem enum_len : ∀ (ds : List D) (k : Nat), (enumD k ds).length = ds.length
  | [], _ => rfl
  | x :: xs, k => by simp [enumD, enum_len xs]
/-- a new pair that the turn makes -/
theorem pair_new {T : Addr} {a b : D} {x y : V} (r : RelS nm X.K X.mg M S H) (hT : H T = none) (q1 : RelD X.K M H a x) (q2 : RelD X.K M H b y) : Ext M H M (upd H T (.tup [x, y])) ∧ RelS nm X.K X.mg M S (upd H T (.tup [x, y])) ∧ RelD X.K M (upd H T (.tup [x, y])) (.tup [a, b]) (.ref T) := by
  refine ⟨Ext.tup hT, r.tup hT, ?_⟩
  unfold RelD
  exact ⟨T, [x, y], rfl, .inl (.inl upd_same), .cons (RelD.ext r (Ext.tup hT) q1) (.cons (RelD.ext r (Ext.tup hT) q2) .nil)⟩
theorem chk_now (x : D) (S : Sto) : (chkOf x S).all (fun p => decide (lstOf p.1 S = some p.2)) = true := by
  unfold chkOf
  cases x with
  | ref n =>
    cases e : lstOf n S with
    | none => simp [e]
    | some ds => simp [e]
  | _ => rfl
theorem pxi_enum {a : Expr} {f : E} {p pos tpos : Pos} {elts : List Expr} {kk : Nat} (hg : Gl X "enumerate") (hm : X.mg "enumerate" = none) (ha : PX nm X a f) (hs : starEach [a] X.env = [(false, eval a X.env)]) : PXI nm X (.Tuple elts kk tpos) (.Call (.Name "enumerate" p) [a] [] pos) (iEnum f) :=
  PI.imp (pi_enumE hg hm (pa_cons ha pa_nil hs) hs) fun σ H R ⟨M, ρ, S, it, S', rs, re, h, k⟩ => by
    unfold iEnum at h
    obtain ⟨x, S1, h1, h⟩ := bind_inv h
    split at h
    · rename_i ds eds
      cases h
      refine rE.go rs re h1 fun M1 H1 v e1 r1 q1 => ?_
      obtain ⟨sr, ev, cur⟩ := sr_of r1 q1 eds
      subst ev
      obtain ⟨vs0, at0, _⟩ := cur M1 H1 _ Ext.refl r1 (chk_now x _)
      refine ⟨sr, vs0, rfl, at0, k M1 H1 _ e1 r1 ⟨fun i M2 H2 S2 e r c hi => ?_, fun i d M2 H2 S2 x H3 e r c hd y => ?_, fun i M2 H2 S2 e r c hi => ?_⟩⟩
      · obtain ⟨vs, ka, qa⟩ := cur M2 H2 S2 e r c
        have hi : i < (enumD 0 ds).length := hi
        rw [enum_len, qa.length] at hi
        exact ⟨vs, ka, hi⟩
      · obtain ⟨vs, ka, qa⟩ := cur M2 H2 S2 e r c
        obtain ⟨T, u, rfl, hT, rfl, y4⟩ := y
        obtain ⟨d', h1, h2⟩ := enum_get hd
        obtain ⟨w, h3, h4⟩ := qa.get h1
        have h5 := y4 vs ka
        rw [h3] at h5
        cases h5
        rw [h2, Nat.zero_add]
        exact pair_new r hT .mkI h4
      · obtain ⟨vs, ka, qa⟩ := cur M2 H2 S2 e r c
        have hi : (enumD 0 ds).length = i := hi
        rw [enum_len, qa.length] at hi
        exact ⟨vs, ka, hi⟩
    · cases h
theorem pxs_for {iter tg : Expr} {body : List Stmt} {f : I} {tgg : TG} {g : G} {is : List Nat} {b : St} {pos : Pos} (hp : PassesOwn (model X.prog X.w) X.A X.env X.xe) (hc : X.calm = true) (hi : PXI nm X tg iter f) (hg : PG X tg tgg) (ok : GOk nm X tgg g is) (hb : PXSs nm X body b)
    (hs : ∀ x, foldedSetIterable iter X.env x = pure x) : PXS nm X (.For tg iter body [] pos) (sFor f g b) :=
  PS.imp (ps_for hp hc hi hg hb hs) fun σ H D ⟨M, ρ, S, r, S', rs, re, h, k⟩ => by
    unfold sFor at h
    obtain ⟨it, S1, h1, h⟩ := bind_inv h
    refine ⟨M, ρ, S, it, S1, rs, re, h1, fun M1 H1 J e1 r1 w => ?_⟩
    refine ⟨fun i m σ H => m = it.all.length - i ∧ i ≤ it.all.length ∧ ∃ M2 ρ2 S2, Ext M1 H1 M2 H ∧ RelS nm X.K X.mg M2 S2 H ∧ RelE X.K M2 H ρ2 σ ∧ forLoop it g b (it.all.drop i) ρ2 S2 = .ok r S', ⟨_, rfl, Nat.zero_le _, M1, ρ, S1, Ext.refl, r1, re.ext rs e1, h⟩, ?_⟩
    rintro i m σ2 H2 ⟨rfl, hi, M2, ρ2, S2, e2, r2, re2, hl⟩
    by_cases hlt : i < it.all.length
    · have hd : it.all.drop i = it.all[i] :: it.all.drop (i + 1) := List.drop_eq_getElem_cons hlt
      rw [hd] at hl
      unfold forLoop at hl
      split at hl
      · rename_i c
        refine .inr ⟨w.go i M2 H2 S2 e2 r2 c hlt, _, fun σ' H' n => n, fun x H3 y => ?_⟩
        obtain ⟨e3, r3, q3⟩ := w.yld i it.all[i] M2 H2 S2 x H3 e2 r2 c (by simp [hlt]) y
        split at hl
        · cases hl
        · rename_i ρ1 eg
          obtain ⟨rr, S3, h3, hl⟩ := bind_inv hl
          refine ok M2 H3 S2 _ x ρ2 ρ1 σ2 _ r3 q3 (re2.ext r2 e3) eg fun σ1 re1 _ => ?_
          refine ⟨M2, ρ1, S2, rr, S3, r3, re1, h3, fun M4 H4 σ4 e4 r4 re4 => ?_⟩
          have ee := (e2.trans e3).trans e4
          split <;> rename_i ef
          · rw [ef] at hl
            exact ⟨it.all.length - (i + 1), by omega, rfl, hlt, M4, rr.2, S3, ee, r4, re4, hl⟩
          · rw [ef] at hl
            cases hl
            exact k M4 H4 σ4 (e1.trans ee) r4 re4
          · rw [ef] at hl
            exact ⟨it.all.length - (i + 1), by omega, rfl, hlt, M4, rr.2, S3, ee, r4, re4, hl⟩
          · rw [ef] at hl
            cases hl
            exact k M4 H4 σ4 (e1.trans ee) r4 re4
      · cases hl
    · have ei : i = it.all.length := by omega
      have hd : it.all.drop i = [] := by rw [ei]; exact List.drop_length
      rw [hd] at hl
      unfold forLoop at hl
      split at hl
      · rename_i c
        cases hl
        exact .inl ⟨w.stop i M2 H2 _ e2 r2 c ei.symm, k M2 H2 σ2 (e1.trans e2) r2 re2⟩
      · cases hl
end
end PF
end
section
set_option linter.all false
set_option Elab.async false
set_option linter.all false
set_option maxRecDepth 100003
set_option maxHeartbeats 2000003
set_option autoImplicit false
namespace PF
open PySem L2
theorem upd_self {H : Hp} {a : Addr} {o : HO} (h : H a = some o) : upd H a o = H := by
  funext b
  unfold upd
  split
  · rename_i e
    rw [e, h]
  · rfl
section
variable {nm : Nm} {X : Cx} {M M' : List Addr} {H H' : Hp} {S S' S1 : Sto} {ρ : Env} {σ : L2.St} {Q : VK} {d : D}
/-- the reading of a comprehension's turns -/
theorem lc_read {J : It} {it : Iter} {tgg : TG} {g : G} {is vs : List Nat} {t : T} {e : E} {D0 : Addr} {ys : List D} {Qd : Hp → Prop} (hv : ∀ i ∈ is, i ∈ vs) (ok : GOk nm X tgg g is) (rs : RelS nm X.K X.mg M S H) (re : RelE X.K M H ρ σ) (w : WalkJ nm X J M H it)
    (h : compLoop it g t e (PF.wipe ρ vs) it.all S = .ok ys S') (hl : ys.length ≤ LIM) (hD : H D0 = none)
    (k : ∀ M' H' zs, Ext M H M' H' → RelS nm X.K X.mg M' S' H' → D0 ∉ M' → H' D0 = some (.lst zs) → RelDs X.K M' H' ys zs → Qd H') :
    ∃ W : Nat → Nat → Hp → Prop, (∃ m, W 0 m (upd H D0 (.lst []))) ∧ ∀ i m H, W i m H → (J.stop i H ∧ Qd H) ∨ (J.go i H ∧ ∃ Nx : Hp → Prop, (∀ H', Nx H' → ∃ m', m' < m ∧ W (i + 1) m' H') ∧ ∀ x H', J.yld i H x H' → tgg x (L2.wipe σ vs) H' fun σ2 H2 => L2.wipe σ2 vs = L2.wipe σ vs ∧ (rT nm X t) σ2 H2 fun b H3 =>
      if b = true then (rE nm X e) σ2 H3 fun y H4 => ∃ acc, H4 D0 = some (.lst acc) ∧ acc.length < sizeLine ∧ Nx (upd H4 D0 (.lst (acc ++ [y]))) else Nx H3) := by
  refine ⟨fun i m H2 => m = it.all.length - i ∧ i ≤ it.all.length ∧ ∃ M2 S2 done acc rest, Ext M H M2 H2 ∧ RelS nm X.K X.mg M2 S2 H2 ∧ D0 ∉ M2 ∧ H2 D0 = some (.lst acc) ∧ RelDs X.K M2 H2 done acc ∧ compLoop it g t e (PF.wipe ρ vs) (it.all.drop i) S2 = .ok rest S' ∧ ys = done ++ rest,
    ⟨_, rfl, Nat.zero_le _, M, S, [], [], ys, Ext.tup hD, rs.tup hD, rs.fresh hD, upd_same, .nil, h, rfl⟩, ?_⟩
  rintro i m H2 ⟨rfl, hi, M2, S2, done, acc, rest, e2, r2, nD, hacc, qa, hc, ey⟩
  by_cases hlt : i < it.all.length
  · have hd : it.all.drop i = it.all[i] :: it.all.drop (i + 1) := List.drop_eq_getElem_cons hlt
    rw [hd] at hc
    unfold compLoop at hc
    split at hc
    · rename_i c
      refine .inr ⟨w.go i M2 H2 S2 e2 r2 c hlt, _, fun H' n => n, fun x H3 y => ?_⟩
      obtain ⟨e3, r3, q3⟩ := w.yld i it.all[i] M2 H2 S2 x H3 e2 r2 c (by simp [hlt]) y
      split at hc
      · cases hc
      · rename_i ρ1 eg
        obtain ⟨b, S3, h3, hc⟩ := bind_inv hc
        refine ok M2 H3 S2 _ x _ ρ1 _ _ r3 q3 (((re.ext rs e2).ext r2 e3).wipe vs) eg fun σ1 re1 wi => ⟨by rw [wi vs hv, wipe_wipe], ?_⟩
        refine ⟨M2, ρ1, S2, b, S3, r3, re1, h3, fun M4 H4 e4 r4 => ?_⟩
        have acc3 : H3 D0 = some (.lst acc) := e3.fr D0 _ hacc nD (fun _ z => nomatch z)
        have kp4 : H4 D0 = some (.lst acc) := e4.fr D0 _ acc3 nD (fun _ z => nomatch z)
        have nD4 : D0 ∉ M4 := fun hm => by
          obtain ⟨ps, z⟩ := e4.new D0 _ hm nD acc3
          cases z
        cases b with
        | true =>
          refine iteT ?_
          rw [if_pos rfl] at hc
          obtain ⟨y, S5, h5, hc⟩ := bind_inv hc
          obtain ⟨ys', S6, h6, hc⟩ := bind_inv hc
          cases hc
          refine ⟨M4, ρ1, S3, y, S5, r4, re1.ext r3 e4, h5, fun M5 H5 v e5 r5 q5 => ?_⟩
          have kp5 : H5 D0 = some (.lst acc) := e5.fr D0 _ kp4 nD4 (fun _ z => nomatch z)
          have nD5 : D0 ∉ M5 := fun hm => by
            obtain ⟨ps, z⟩ := e5.new D0 _ hm nD4 kp4
            cases z
          have qa5 := RelDs.ext r4 e5 (RelDs.ext r3 e4 (RelDs.ext r2 e3 qa))
          have hlen : acc.length < sizeLine := by
            rw [← qa.length, ← LIM_eq]
            rw [ey, List.length_append, List.length_cons] at hl
            omega
          refine ⟨acc, kp5, hlen, it.all.length - (i + 1), by omega, rfl, hlt, M5, S5, done ++ [y], acc ++ [v], ys', ?_, ?_, nD5, upd_same, ?_, h6, by rw [ey]; simp⟩
          · have ee := ((e2.trans e3).trans e4).trans e5
            refine ⟨ee.pre, ee.new, fun a o ha n t => ?_, fun a q ha => ?_, fun a o ps ha => ?_⟩
            · have ne : a ≠ D0 := fun z => by rw [z, hD] at ha; cases ha
              rw [upd_ne ne]
              exact ee.fr a o ha n t
            · have ne : a ≠ D0 := fun z => by rw [z, hD] at ha; cases ha
              rw [upd_ne ne]
              exact ee.cod a q ha
            · have ne : a ≠ D0 := fun z => by rw [z, hD] at ha; cases ha
              rw [upd_ne ne]
              exact ee.frz a o ps ha
          · refine ⟨r5.len, r5.nd, fun n a o h1 h2 => (r5.obj n a o h1 h2).mo ⟨fun _ _ z => z, fun b us z => ?_, fun b q z => by rw [upd_ne (ne_of z kp5 (fun q => nomatch q))]; exact z⟩ (upd_ne fun z => nD5 (by rw [← z]; exact List.mem_of_getElem? h1))⟩
            rcases z with (z | ⟨o, z⟩) | z
            · exact .inl (.inl (by rw [upd_ne (ne_of z kp5 (fun q => nomatch q))]; exact z))
            · exact .inl (.inr ⟨o, by rw [upd_ne (ne_of z kp5 (fun q => nomatch q))]; exact z⟩)
            · exact .inr z
          · have mo : Mo X.K M5 H5 M5 (upd H5 D0 (.lst (acc ++ [v]))) := ⟨fun _ _ z => z, fun b us z => by
              rcases z with (z | ⟨o, z⟩) | z
              · exact .inl (.inl (by rw [upd_ne (ne_of z kp5 (fun q => nomatch q))]; exact z))
              · exact .inl (.inr ⟨o, by rw [upd_ne (ne_of z kp5 (fun q => nomatch q))]; exact z⟩)
              · exact .inr z, fun b q z => by rw [upd_ne (ne_of z kp5 (fun q => nomatch q))]; exact z⟩
            exact (qa5.append (.cons q5 .nil)).mo mo
        | false =>
          refine iteF ?_
          rw [if_neg Bool.false_ne_true] at hc
          exact ⟨it.all.length - (i + 1), by omega, rfl, hlt, M4, S3, done, acc, rest, (e2.trans e3).trans e4, r4, nD4, kp4, RelDs.ext r3 e4 (RelDs.ext r2 e3 qa), hc, ey⟩
    · cases hc
  · have ei : i = it.all.length := by omega
    have hd : it.all.drop i = [] := by rw [ei]; exact List.drop_length
    rw [hd] at hc
    unfold compLoop at hc
    split at hc
    · rename_i c
      cases hc
      rw [List.append_nil] at ey
      subst ey
      exact .inl ⟨w.stop i M2 H2 _ e2 r2 c ei.symm, k M2 H2 acc e2 r2 nD hacc qa⟩
    · cases hc
/-- a list that the comprehension made gets its place -/
theorem name_new {D0 : Addr} {zs : List V} {ys : List D} {M1 : List Addr} {H1 : Hp} (hD : H D0 = none) (e : Ext M H M1 H1) (r : RelS nm X.K X.mg M1 S H1) (nD : D0 ∉ M1) (hz : H1 D0 = some (.lst zs)) (q : RelDs X.K M1 H1 ys zs) :
    Ext M H (M1 ++ [D0]) H1 ∧ RelS nm X.K X.mg (M1 ++ [D0]) (S ++ [.lst ys]) H1 := by
  have es := upd_self hz
  have mo : Mo X.K M1 H1 (M1 ++ [D0]) (upd H1 D0 (.lst zs)) := Mo.adopt hz (fun _ z => nomatch z) (fun _ _ z => nomatch z)
  have r2 := r.adopt nD hz (fun _ z => nomatch z) (fun _ _ z => nomatch z) (o := .lst zs) (mo := .lst ys) ⟨zs, upd_same, q.mo mo⟩
  rw [es] at r2
  refine ⟨⟨?_, fun x o hx n ex => ?_, e.fr, e.cod, e.frz⟩, r2⟩
  · obtain ⟨T, rfl⟩ := e.pre
    exact ⟨T ++ [D0], by rw [List.append_assoc]⟩
  · rcases List.mem_append.mp hx with z | z
    · exact e.new x o z n ex
    · have : x = D0 := by simpa using z
      rw [this, hD] at ex
      cases ex
theorem px_lc {elt tg iter : Expr} {ifs : List Expr} {scope : Scope} {own : List (Str × Nat)} {pos : Pos} {f : I} {tgg : TG} {g : G} {is : List Nat} {t : T} {e : E} (hc : X.calm = true) (hN : X.N.Nodup) (hi : PXI nm X tg iter f) (okb : BlkOk X.N X.env.scope scope own) (hv : ∀ i ∈ is, i ∈ own.map (·.2)) (ok : GOk nm X tgg g is)
    (hg : ∀ (s : Shared) (H : Hp) (C : Addr) (cl : List (Str × Addr)) (fp : List Addr), PG (X.blk s H scope (compEnvC scope cl C X.env) fp) tg tgg)
    (ht : ∀ (s : Shared) (H : Hp) (C : Addr) (cl : List (Str × Addr)) (fp : List Addr), PTs (X.blk s H scope (compEnvC scope cl C X.env) fp) ifs (rT nm X t))
    (he : ∀ (s : Shared) (H : Hp) (C : Addr) (cl : List (Str × Addr)) (fp : List Addr), PE (X.blk s H scope (compEnvC scope cl C X.env) fp) elt (rE nm X e)) (hs : ∀ x, foldedSetIterable iter X.env x = pure x) :
    PX nm X (.ListComp elt [⟨tg, iter, ifs, 0⟩] scope pos) (eComp f (own.map (·.2)) g t e) :=
  PE.imp (pe_lc hc hN hi okb hg ht he hs) fun σ H Q ⟨M, ρ, S, d, S', rs, re, h, k⟩ => by
    unfold eComp at h
    obtain ⟨it, S1, h1, h⟩ := bind_inv h
    obtain ⟨ys, S2, h2, h⟩ := bind_inv h
    split at h
    · rename_i c
      cases h
      refine ⟨M, ρ, S, it, S1, rs, re, h1, fun M1 H1 J e1 r1 w D0 hD => ?_⟩
      refine lc_read hv ok r1 (re.ext rs e1) w h2 c hD fun M3 H3 zs e3 r3 nD hz q => ?_
      obtain ⟨e4, r4⟩ := name_new hD e3 r3 nD hz q
      refine k _ _ _ (e1.trans e4) r4 ?_
      unfold RelD
      exact ⟨D0, rfl, r3.last⟩
    · cases h
/-- name = [..], the name a local -/
theorem pxs_setLc {i : Nat} {y : Str} {py : Pos} {elt tg iter : Expr} {ifs : List Expr} {scope : Scope} {own : List (Str × Nat)} {pos spos : Pos} {f : I} {tgg : TG} {g : G} {is : List Nat} {t : T} {e : E} (hc : X.calm = true) (hN : X.N.Nodup) (hy : X.N[i]? = some y) (hyl : X.env.scope.names.lookup y = some .local)
    (hsw : swapsWith (.ListComp elt [⟨tg, iter, ifs, 0⟩] scope pos) (some (.Name y py)) spos.line X.env = pure true) (hi : PXI nm X tg iter f) (okb : BlkOk X.N X.env.scope scope own) (hv : ∀ i ∈ is, i ∈ own.map (·.2)) (ok : GOk nm X tgg g is)
    (hg : ∀ (s : Shared) (H : Hp) (C : Addr) (cl : List (Str × Addr)) (fp : List Addr), PG (X.blk s H scope (compEnvC scope cl C X.env) fp) tg tgg)
    (ht : ∀ (s : Shared) (H : Hp) (C : Addr) (cl : List (Str × Addr)) (fp : List Addr), PTs (X.blk s H scope (compEnvC scope cl C X.env) fp) ifs (rT nm X t))
    (he : ∀ (s : Shared) (H : Hp) (C : Addr) (cl : List (Str × Addr)) (fp : List Addr), PE (X.blk s H scope (compEnvC scope cl C X.env) fp) elt (rE nm X e)) (hs : ∀ x, foldedSetIterable iter X.env x = pure x) :
    PXS nm X (.Assign [.Name y py] (.ListComp elt [⟨tg, iter, ifs, 0⟩] scope pos) spos) (sSet i (eComp f (own.map (·.2)) g t e)) :=
  PS.imp (ps_setLc hc hN hy hyl hsw hi okb hg ht he hs) fun σ H D ⟨M, ρ, S, r, S', rs, re, h, k⟩ => by
    unfold sSet at h
    obtain ⟨x, S0, h0, h⟩ := bind_inv h
    cases h
    unfold eComp at h0
    obtain ⟨it, S1, h1, h0⟩ := bind_inv h0
    obtain ⟨ys, S2, h2, h0⟩ := bind_inv h0
    split at h0
    · rename_i c
      cases h0
      refine ⟨M, ρ, S, it, S1, rs, re, h1, fun M1 H1 J e1 r1 w D0 hD => ?_⟩
      refine lc_read hv ok r1 (re.ext rs e1) w h2 c hD fun M3 H3 zs e3 r3 nD hz q => ?_
      obtain ⟨e4, r4⟩ := name_new hD e3 r3 nD hz q
      refine k _ _ _ (e1.trans e4) r4 ?_
      refine RelE.set ((re.ext rs e1).ext r1 e4) ?_
      unfold RelD
      exact ⟨D0, rfl, r3.last⟩
    · cases h0
theorem pxts_nil : PTs X [] (rT nm X tYes) := ⟨fun pins s σ H Q I h => (pts_nil (X := X)).run pins s σ H Q I (by
  obtain ⟨M, ρ, S, b, S', rs, re, h, k⟩ := h
  unfold PF.tYes at h
  cases h
  exact k M H Ext.refl rs)⟩
theorem pxts_one {c : Expr} {t : T} (h : PXT nm X c t) : PTs X [c] (rT nm X t) := pts_one h
theorem pxss_nil : PXSs nm X [] sNext := PSs.imp pss_nil fun σ H D ⟨M, ρ, S, r, S', rs, re, h, k⟩ => by
  unfold sNext at h
  cases h
  exact k M H σ Ext.refl rs re
theorem pxss_cons {st : Stmt} {rest : List Stmt} {a b : St} (h1 : PXS nm X st a) (h2 : PXSs nm X rest b) : PXSs nm X (st :: rest) (sSeq a b) :=
  PSs.imp (pss_cons h1 h2) fun σ H D ⟨M, ρ, S, r, S', rs, re, h, k⟩ => by
    unfold sSeq at h
    obtain ⟨r1, S1, h1, h⟩ := bind_inv h
    refine ⟨M, ρ, S, r1, S1, rs, re, h1, fun M1 H1 σ1 e1 rs1 re1 => ?_⟩
    cases ef : r1.1 with
    | nx =>
      rw [ef] at h
      exact ⟨M1, r1.2, S1, r, S', rs1, re1, h, fun M2 H2 σ2 e2 => k M2 H2 σ2 (e1.trans e2)⟩
    | bk => rw [ef] at h; cases h; exact k M1 H1 σ1 e1 rs1 re1
    | ct => rw [ef] at h; cases h; exact k M1 H1 σ1 e1 rs1 re1
    | rt d => rw [ef] at h; cases h; exact k M1 H1 σ1 e1 rs1 re1
theorem pxss_one {st : Stmt} {a : St} (h1 : PXS nm X st a) : PXSs nm X [st] a := pss_one h1
theorem pxs_set {i : Nat} {x : Str} {e : Expr} {f : E} {pos pos' : Pos} (hN : X.N.Nodup) (hi : X.N[i]? = some x) (hx : Loc X.env.scope x) (he : PX nm X e f) (hs : swapsWith e (some (.Name x pos')) pos.line X.env = pure false) (hf : X.fn x = true ∨ X.env.scope.names.lookup x = some .local) : PXS nm X (.Assign [.Name x pos'] e pos) (sSet i f) :=
  PS.imp (ps_set hN hi hx he hs hf) fun σ H D ⟨M, ρ, S, r, S', rs, re, h, k⟩ => by
    unfold sSet at h
    obtain ⟨x, S1, h1, h⟩ := bind_inv h
    cases h
    exact rE.go rs re h1 fun M1 H1 v e1 r1 q1 => k M1 H1 _ e1 r1 ((re.ext rs e1).set q1)
theorem pxs_asg {tg e : Expr} {f : E} {tgg : TG} {g : G} {is : List Nat} {pos : Pos} (he : PX nm X e f) (hg : PG X tg tgg) (ok : GOk nm X tgg g is) (hs : swapsWithSole [tg] e pos.line X.env = pure false) (hw : swappedStores [tg] e X.env = pure none) (h1 : (assignEach [tg] X.env).map (·.2) = [assign tg X.env]) : PXS nm X (.Assign [tg] e pos) (sAsg g f) :=
  PS.imp (ps_asg he hg hs hw h1) fun σ H D ⟨M, ρ, S, r, S', rs, re, h, k⟩ => by
    unfold sAsg at h
    obtain ⟨x, S1, h1, h⟩ := bind_inv h
    split at h
    · rename_i ρ1 eg
      cases h
      refine rE.go rs re h1 fun M1 H1 v e1 r1 q1 => ?_
      exact ok M1 H1 _ x v ρ ρ1 σ _ r1 q1 (re.ext rs e1) eg fun σ1 re1 _ => k M1 H1 σ1 e1 r1 re1
    · cases h
theorem pxs_expr {e : Expr} {f : E} {pos : Pos} (he : PX nm X e f) (hs : swapsWith e none pos.line X.env = pure false) : PXS nm X (.Expr e pos) (sExpr f) :=
  PS.imp (ps_expr he hs) fun σ H D ⟨M, ρ, S, r, S', rs, re, h, k⟩ => by
    unfold sExpr at h
    obtain ⟨x, S1, h1, h⟩ := bind_inv h
    cases h
    exact rE.go rs re h1 fun M1 H1 v e1 r1 q1 => k M1 H1 σ e1 r1 (re.ext rs e1)
theorem pxs_ret {e : Expr} {f : E} {pos : Pos} (he : PX nm X e f) : PXS nm X (.Return (some e) pos) (sRet f) :=
  PS.imp (ps_ret he) fun σ H D ⟨M, ρ, S, r, S', rs, re, h, k⟩ => by
    unfold sRet at h
    obtain ⟨x, S1, h1, h⟩ := bind_inv h
    cases h
    exact rE.go rs re h1 fun M1 H1 v e1 r1 q1 => k M1 H1 σ e1 r1 (re.ext rs e1) v q1
theorem pxs_if {c : Expr} {a b : List Stmt} {t : T} {f g : St} {pos : Pos} (hc : PXT nm X c t) (ha : PXSs nm X a f) (hb : PXSs nm X b g) : PXS nm X (.If c a b pos) (sIf t f g) :=
  PS.imp (ps_if hc ha hb) fun σ H D ⟨M, ρ, S, r, S', rs, re, h, k⟩ => by
    unfold sIf at h
    obtain ⟨c, S1, h1, h⟩ := bind_inv h
    refine rT.go rs re h1 fun M1 H1 e1 r1 => ?_
    cases c with
    | true => exact iteT ⟨M1, ρ, S1, r, S', r1, re.ext rs e1, h, fun M2 H2 σ2 e2 => k M2 H2 σ2 (e1.trans e2)⟩
    | false => exact iteF ⟨M1, ρ, S1, r, S', r1, re.ext rs e1, h, fun M2 H2 σ2 e2 => k M2 H2 σ2 (e1.trans e2)⟩
/-- xs[i] = v -/
theorem pxs_sub {o i v : Expr} {fo fi fv : E} {pos pos' : Pos} (ho : PX nm X o fo) (hi : PX nm X i fi) (hv : PX nm X v fv)
    (ha : ∀ v, assign (.Subscript o i pos') X.env v = (do
      let ov ← holding [v] (eval o X.env)
      let iv ← holding [v, ov] (eval i X.env)
      standAt pos'
      holding [v, ov, iv] (PySem.setItem ov iv v)
      release [v, ov, iv] []))
    (hs : swapsWithSole [.Subscript o i pos'] v pos.line X.env = pure false) (hw : swappedStores [.Subscript o i pos'] v X.env = pure none) (h1 : (assignEach [.Subscript o i pos'] X.env).map (·.2) = [assign (.Subscript o i pos') X.env]) :
    PXS nm X (.Assign [.Subscript o i pos'] v pos) (sSub fo fi fv) :=
  PS.imp (ps_asg hv (pg_sub ho hi set_list ha) hs hw h1) fun σ H D ⟨M, ρ, S, r, S', rs, re, h, k⟩ => by
    unfold sSub at h
    obtain ⟨x, S1, h1, h⟩ := bind_inv h
    obtain ⟨a, S2, h2, h⟩ := bind_inv h
    obtain ⟨y, S3, h3, h⟩ := bind_inv h
    refine rE.go rs re h1 fun M1 H1 vx e1 r1 q1 => ?_
    refine rE.go r1 (re.ext rs e1) h2 fun M2 H2 va e2 r2 q2 => ?_
    refine rE.go r2 ((re.ext rs e1).ext r1 e2) h3 fun M3 H3 vy e3 r3 q3 => ?_
    have q1 := RelD.ext r2 e3 (RelD.ext r1 e2 q1)
    have q2 := RelD.ext r2 e3 q2
    have re3 := ((re.ext rs e1).ext r1 e2).ext r2 e3
    split at h
    · rename_i S4 e4
      cases h
      unfold PF.setItem at e4
      cases a with
      | ref n =>
        cases y with
        | int i =>
          dsimp only at e4
          split at e4
          · rename_i ds ed
            split at e4
            · rename_i j ej
              cases e4
              obtain ⟨b, rfl, hb⟩ := q2.ref
              obtain ⟨vs, ka, qa⟩ := lst_wr r3 hb (wr_lst ed)
              have ex : Ext M3 H3 M3 (upd H3 b (.lst (vs.set j vx))) := Ext.set (List.mem_of_getElem? hb) ka (fun _ _ z => nomatch z)
              refine ⟨b, vs, i, j, rfl, q3.int, ka, by rw [← qa.length]; exact ej, ?_⟩
              exact k _ _ _ ((e1.trans e2).trans (e3.trans ex)) (r3.set hb ka (fun _ _ z => nomatch z) ⟨_, upd_same, RelDs.ext r3 ex (qa.set j q1)⟩) (re3.ext r3 ex)
            · cases e4
          · cases e4
        | _ => cases e4
      | _ => cases e4
    · cases h
end
end PF
end
section
set_option linter.all false
set_option Elab.async false
set_option linter.all false
set_option maxRecDepth 100003
set_option maxHeartbeats 2000003
set_option autoImplicit false
namespace PF
open PySem L2
section
variable {nm : Nm} {X : Cx} {M M' : List Addr} {H H' : Hp} {S S' S1 : Sto} {ρ : Env} {σ : L2.St} {Q : VK} {d : D}
def spF (nm : Nm) (K : PySem.W.Frag) (mg : Str → Option Value) (n : Nat) (f : Fn) : Sp := fun vs H Q _ => ∃ M S ds d S', RelS nm K mg M S H ∧ RelDs K M H ds vs ∧ vs.length = n ∧ f ds S = .ok d S' ∧ ∀ M' H' v, Ext M H M' H' → RelS nm K mg M' S' H' → RelD K M' H' d v → Q v H'
theorem len_arg {f : Fn} {n : Nat} {K : PySem.W.Frag} {mg : Str → Option Value} {vs : List V} {E : XK} {Q : VK} (h : spF nm K mg n f vs H Q E) : vs.length = n := let ⟨_, _, _, _, _, _, _, e, _⟩ := h; e
/-- how many arguments are written -/
def ALen (f : A) (n : Nat) : Prop := ∀ ρ S ds S', f ρ S = .ok ds S' → ds.length = n
theorem call_read {f : Fn} {a : A} {n : Nat} (hl : ALen a n) {σ : L2.St} {H : Hp} {Q : VK} (h : rE nm X (eCall f a) σ H Q) : tCall (spF nm X.K X.mg n f) [] E0 (rA nm X a) σ H Q := by
  obtain ⟨M, ρ, S, d, S', rs, re, h, k⟩ := h
  unfold eCall at h
  obtain ⟨xs, S1, h1, h⟩ := bind_inv h
  refine rA.go rs re h1 fun M1 H1 vs e1 r1 q1 => ?_
  rw [List.append_nil]
  exact ⟨M1, S1, xs, d, S', r1, q1, by rw [← q1.length]; exact hl _ _ _ _ h1, h, fun M2 H2 v e2 r2 q2 => k M2 H2 v (e1.trans e2) r2 q2⟩
theorem px_call {k : Nat} {g : Addr} {fd : FuncData} {ps : List Str} {x : Str} {p pos : Pos} {e : Expr} {es : List Expr} {f : Fn} {a : A} {n : Nat} (F : FnOk X.prog X.w X.K X.mg X.base CX0 k g fd ps (spF nm X.K X.mg n f)) (hl : ALen a n) (hr : Room k X.A) (hg : Gl X x) (hm : X.mg x = some (.ref g)) (hk : PySem.W.keepIn X.K (.ref g) = true) (hb : Binds X.K fd ps [])
    (ha : PXA nm X (e :: es) a) (hdb : (x == ("__debug__" : Str)) = false) (he : starEach (e :: es) X.env = (false, eval e X.env) :: starEach es X.env) (hpl : (backTo pos (starEach es X.env)).any (·.1) = false) : PX nm X (.Call (.Name x p) (e :: es) [] pos) (eCall f a) :=
  PE.imp (pe_call F hr hg hm hk hb .nil pass0 ha hdb he hpl) fun σ H Q h => call_read hl h
theorem alen_nil : ALen aNil 0 := len_nil
theorem alen_cons {f : E} {r : A} {n : Nat} (h : ALen r n) : ALen (aCons f r) (n + 1) := len_cons h
end
theorem fn_ok {nm : Nm} {P : Program} {w : World} {K : PySem.W.Frag} {mg : Str → Option Value} {base : Heap} {x qual : Str} {st : Stmt} {f : Addr} {fd : FuncData} {N ps : List Str} {k : Nat} {b : St} (F : Fun K x qual st f fd) (Sc : FnScope N ps (defScope st))
    (hb : ∀ (cdv : Value) (A : Around) (outer : List PySem.Env) (s : Shared) (H : Hp) (E : XK), Room k (A.deeper (PyProof.Rows.envOfC qual (defScope st) s.heap.objs.size f cdv)) → PXSs nm (cxOf CX0 P w K mg base N qual (defScope st) f cdv A outer s H E).nox (defBody st) b) :
    FnOk P w K mg base CX0 (k + 1) f fd ps (spF nm K mg ps.length (fn N.length b)) := by
  refine F.ok Sc (fun vs H Q E h => len_arg h) (fun cdv A outer s H vs Q E hr h => ⟨_, hb cdv A outer s H E hr, ?_⟩)
  obtain ⟨M, S, ds, d, S', rs, q, hl, h, k⟩ := h
  unfold fn at h
  split at h
  · rename_i c
    obtain ⟨r, S1, h1, h⟩ := bind_inv h
    have hN : ps.length ≤ N.length := by have := congrArg List.length Sc.pre; rw [List.length_take] at this; omega
    refine ⟨M, ds.map some ++ List.replicate (N.length - ds.length) none, S, r, S1, rs, ?_, h1, fun M1 H1 σ1 e1 r1 re1 => ?_⟩
    · unfold L2.start
      rw [q.length]
      refine ⟨by simp [q.length], fun i d hi => ?_⟩
      by_cases hlt : i < ds.length
      · rw [List.getElem?_append_left (by simpa using hlt), List.getElem?_map] at hi
        cases e : ds[i]? with
        | none => rw [e] at hi; cases hi
        | some d' =>
          rw [e] at hi
          cases hi
          obtain ⟨v, h1, h2⟩ := q.get e
          refine ⟨v, ?_, h2⟩
          rw [List.getElem?_append_left (by rw [List.length_map, ← q.length]; exact hlt), List.getElem?_map, h1]
          rfl
      · rw [List.getElem?_append_right (by simpa using hlt), List.getElem?_replicate] at hi
        split at hi <;> cases hi
    · cases ef : r.1 with
      | nx => rw [ef] at h; cases h; exact k M1 H1 .non e1 r1 .mkN
      | rt d' => rw [ef] at h; cases h; exact fun v qv => k M1 H1 v e1 r1 qv
      | bk => rw [ef] at h; cases h
      | ct => rw [ef] at h; cases h
  · cases h
end PF
end
section
set_option linter.all false
set_option Elab.async false
set_option linter.all false
set_option maxRecDepth 100003
set_option maxHeartbeats 2000003
set_option autoImplicit false
namespace PF
open PySem L2
section
variable {nm : Nm} {X : Cx} {M M' : List Addr} {H H' : Hp} {S S' S1 : Sto} {ρ : Env} {σ : L2.St} {Q : VK} {d : D}
theorem chain_read {r r' : R2} {g g' : D → D → PF.M D} {fa fb fc : E} (hg : Op2 nm X r g) (hg' : Op2 nm X r' g') (h : rE nm X (eChain g g' fa fb fc) σ H Q) : tChain r r' (rE nm X fa) (rE nm X fb) (rE nm X fc) σ H Q := by
  obtain ⟨M, ρ, S, d, S', rs, re, h, k⟩ := h
  unfold eChain at h
  obtain ⟨x, S1, h1, h⟩ := bind_inv h
  obtain ⟨y, S2, h2, h⟩ := bind_inv h
  obtain ⟨z, S3, h3, h⟩ := bind_inv h
  refine rE.go rs re h1 fun M1 H1 vx e1 r1 q1 => ?_
  refine rE.go r1 (re.ext rs e1) h2 fun M2 H2 vy e2 r2 q2 => ?_
  refine hg M2 S2 H2 x y vx vy z S3 _ r2 (RelD.ext r1 e2 q1) q2 h3 fun M3 H3 v e3 r3 q3 => ?_
  cases z with
  | bl c =>
    refine ⟨c, q3.bl, ?_⟩
    have re3 := ((re.ext rs e1).ext r1 e2).ext r2 e3
    cases c with
    | true =>
      obtain ⟨w, S4, h4, h⟩ := bind_inv h
      refine iteT (rE.go r3 re3 h4 fun M4 H4 vw e4 r4 q4 => ?_)
      exact hg' M4 S4 H4 y w vy vw d S' Q r4 (RelD.ext r3 e4 (RelD.ext r2 e3 q2)) q4 h (k.ext (((e1.trans e2).trans e3).trans e4))
    | false =>
      cases h
      exact iteF (k M3 H3 _ ((e1.trans e2).trans e3) r3 .mkB)
  | _ => cases h
theorem px_chain {op op' : CmpOp} {r r' : R2} {g g' : D → D → PF.M D} {a b c : Expr} {fa fb fc : E} {pos : Pos} (ho : OpR X (compareOp op) r) (hg : Op2 nm X r g) (ho' : OpR X (compareOp op') r') (hg' : Op2 nm X r' g') (ha : PX nm X a fa) (hb : PX nm X b fb) (hc : PX nm X c fc)
    (hm : lastMarks [op, op'] [b, c] = false) : PX nm X (.Compare a [op, op'] [b, c] pos) (eChain g g' fa fb fc) := PE.imp (pe_chain ho ho' ha hb hc hm) fun σ H Q h => chain_read hg hg' h
theorem pxt_chain {op op' : CmpOp} {r r' : R2} {g g' : D → D → PF.M D} {a b c : Expr} {fa fb fc : E} {pos : Pos} (ho : OpR X (compareOp op) r) (hg : Op2 nm X r g) (ho' : OpR X (compareOp op') r') (hg' : Op2 nm X r' g') (ha : PX nm X a fa) (hb : PX nm X b fb) (hc : PX nm X c fc)
    (hm : lastMarks [op, op'] [b, c] = false) : PXT nm X (.Compare a [op, op'] [b, c] pos) (tE (eChain g g' fa fb fc)) := pxt_of (PT.imp (pt_chain ho ho' ha hb hc hm) fun σ H Q h => chain_read hg hg' h)
theorem pxs_par2 {i j : Nat} {x y : Str} {a b : Expr} {f : A} {px py pt pos : Pos} {kt k2 pt2} (hc : X.calm = true) (hN : X.N.Nodup) (hi : X.N[i]? = some x) (hj : X.N[j]? = some y) (hij : i ≠ j)
    (hx : X.env.scope.names.lookup x = some .local) (hy : X.env.scope.names.lookup y = some .local) (ha : PXA nm X [a, b] f)
    (hw : swappedStores [.Tuple [.Name x px, .Name y py] kt pt] (.Tuple [a, b] k2 pt2) X.env = pure (some [x, y]))
    (hs : swapsWithSole [.Tuple [.Name x px, .Name y py] kt pt] (.Tuple [a, b] k2 pt2) pos.line X.env = pure false) :
    PXS nm X (.Assign [.Tuple [.Name x px, .Name y py] kt pt] (.Tuple [a, b] k2 pt2) pos) (sPar [i, j] f) :=
  PS.imp (ps_par hc hN hi hj hij hx hy ha hw hs) fun σ H D ⟨M, ρ, S, r, S', rs, re, h, k⟩ => by
    unfold sPar at h
    obtain ⟨xs, S1, h1, h⟩ := bind_inv h
    split at h
    · rename_i ρ1 e1
      cases h
      refine rA.go rs re h1 fun M1 H1 vs e2 r2 q2 => ?_
      match xs, e1 with
      | [d1, d2], e1 =>
        obtain ⟨v, w, rfl, q3, q4⟩ := q2.two
        cases e1
        exact ⟨v, w, rfl, k M1 H1 _ e2 r2 (((re.ext rs e2).set q3).set q4)⟩
      | [], e1 => cases e1
      | [_], e1 => cases e1
      | _ :: _ :: _ :: _, e1 => cases e1
    · cases h
theorem RelDs.three {K : PySem.W.Frag} {x y z : D} {vs : List V} (h : RelDs K M H [x, y, z] vs) : ∃ v u w, vs = [v, u, w] ∧ RelD K M H x v ∧ RelD K M H y u ∧ RelD K M H z w := by
  unfold RelDs at h
  obtain ⟨v, q, rfl, h1, h2⟩ := h
  obtain ⟨u, w, rfl, h3, h4⟩ := RelDs.two h2
  exact ⟨v, u, w, rfl, h1, h3, h4⟩
theorem pxs_par3 {i j l : Nat} {x y z : Str} {a b c : Expr} {f : A} {px py pz pt pos : Pos} {kt k2 pt2} (hc : X.calm = true) (hN : X.N.Nodup) (hi : X.N[i]? = some x) (hj : X.N[j]? = some y) (hl : X.N[l]? = some z) (hij : i ≠ j) (hil : i ≠ l) (hjl : j ≠ l)
    (hx : X.env.scope.names.lookup x = some .local) (hy : X.env.scope.names.lookup y = some .local) (hz : X.env.scope.names.lookup z = some .local) (ha : PXA nm X [a, b, c] f)
    (hw : swappedStores [.Tuple [.Name x px, .Name y py, .Name z pz] kt pt] (.Tuple [a, b, c] k2 pt2) X.env = pure (some [x, y, z]))
    (hs : swapsWithSole [.Tuple [.Name x px, .Name y py, .Name z pz] kt pt] (.Tuple [a, b, c] k2 pt2) pos.line X.env = pure false) :
    PXS nm X (.Assign [.Tuple [.Name x px, .Name y py, .Name z pz] kt pt] (.Tuple [a, b, c] k2 pt2) pos) (sPar [i, j, l] f) :=
  PS.imp (ps_par3 hc hN hi hj hl hij hil hjl hx hy hz ha hw hs) fun σ H D ⟨M, ρ, S, r, S', rs, re, h, k⟩ => by
    unfold sPar at h
    obtain ⟨xs, S1, h1, h⟩ := bind_inv h
    split at h
    · rename_i ρ1 e1
      cases h
      refine rA.go rs re h1 fun M1 H1 vs e2 r2 q2 => ?_
      match xs, e1 with
      | [d1, d2, d3], e1 =>
        obtain ⟨v, w, u, rfl, q3, q4, q5⟩ := q2.three
        cases e1
        exact ⟨v, w, u, rfl, k M1 H1 _ e2 r2 ((((re.ext rs e2).set q3).set q4).set q5)⟩
      | [], e1 => cases e1
      | [_], e1 => cases e1
      | [_, _], e1 => cases e1
      | _ :: _ :: _ :: _ :: _, e1 => cases e1
    · cases h
def TabEs : List (D × D) → List DictEntry → Prop
  | [], es => es = []
  | p :: r, es => ∃ (e : DictEntry) (q : List DictEntry) (k v : List Nat) (t u : Tok), es = e :: q ∧ p = (.str k, .str v) ∧ e.key = .str (strOf k) t ∧ e.val = .str (strOf v) u ∧ TabEs r q
def TabOk (X : Cx) (d : Addr) (t : List (D × D)) : Prop := ∃ es n, KDict X.K X.w d es n ∧ TabEs t es.toList
theorem tab_find : ∀ {t : List (D × D)} {es : List DictEntry} (k : List Nat), TabEs t es →
    (dget t (.str k) = none ∧ es.find? (·.key.isStr (strOf k)) = none ∧ es.any (·.refKey) = false) ∨ ∃ (v : List Nat) (e : DictEntry) (u : Tok), dget t (.str k) = some (.str v) ∧ es.find? (·.key.isStr (strOf k)) = some e ∧ e.val = .str (strOf v) u
  | [], _, k, h => by
    have e : _ = [] := h
    subst e
    exact .inl ⟨rfl, rfl, rfl⟩
  | p :: r, _, k, h => by
    obtain ⟨e, q, k', v, t, u, rfl, rfl, ek, ev, h⟩ := h
    unfold dget
    rw [List.find?_cons, List.find?_cons]
    by_cases c : k' = k
    · subst c
      have e1 : e.key.isStr (strOf k') = true := by rw [ek]; simp [Value.isStr]
      simp only [e1, decide_true]
      exact .inr ⟨v, e, u, rfl, rfl, ev⟩
    · have e1 : e.key.isStr (strOf k) = false := by
        rw [ek]
        show (strOf k' == strOf k) = false
        rw [beq_eq_false_iff_ne]
        exact fun z => c (strOf_inj z)
      have e2 : decide ((D.str k', D.str v).1 = D.str k) = false := decide_eq_false (fun z => c (by injection z))
      simp only [e1, e2]
      rcases tab_find k h with ⟨a, b, c'⟩ | w
      · refine .inl ⟨a, b, ?_⟩
        rw [List.any_cons, c']
        simp [DictEntry.refKey, ek]
      · exact .inr w
theorem tab_ns {a : Addr} {t : List (D × D)} {es : Array DictEntry} {n : Nat} (D0 : KDict X.K X.w a es n) (h : TabEs t es.toList) (k : List Nat) :
    (dget t (.str k) = none ∧ PySem.W.nsIn X.K a (strOf k) = some none) ∨ ∃ (v : List Nat) (u : Value), dget t (.str k) = some (.str v) ∧ PySem.W.nsIn X.K a (strOf k) = some (some u) ∧ RelV (.str (strOf v)) u := by
  unfold PySem.W.nsIn
  rw [D0.at_]
  dsimp only
  rcases tab_find k h with ⟨z1, z2, z3⟩ | ⟨v, e, u, z1, z2, z3⟩
  · rw [z2, z3]
    exact .inl ⟨z1, rfl⟩
  · rw [z2]
    exact .inr ⟨v, e.val, z1, rfl, u, z3⟩
/-- TABLE.get(k, x) -/
theorem px_kget {x : Str} {a : Addr} {t : List (D × D)} {e g : Expr} {fe fg : E} {p apos cpos : Pos} (T : TabOk X a t) (hgl : Gl X x) (hm : X.mg x = some (.ref a)) (hd : (x == ("__debug__" : Str)) = false) (he : PX nm X e fe) (hg : PX nm X g fg) (m : M2 X (.Name x p) "get" apos e g cpos) :
    PX nm X (.Call (.Attribute (.Name x p) "get" apos) [e, g] [] cpos) (e2 (kGet t) fe fg) := by
  refine ⟨fun pins s σ H Q I h => ?_⟩
  obtain ⟨M, ρ, S, d, S', rs, re, h, k⟩ := h
  obtain ⟨es, n, D0, te⟩ := T
  unfold e2 at h
  obtain ⟨y, S1, h1, h⟩ := bind_inv h
  obtain ⟨z, S2, h2, h⟩ := bind_inv h
  refine wpAny_Call_method m.base m.few m.line PySem.F.plainAttrs_dict PySem.F.slot_dict_get PySem.F.type_dict_get (thn ((pe_glob (v := .ref a) hgl hm rfl hd).run pins s σ H (fun v H1 => v = .ref a ∧ H1 = H) I ⟨rfl, rfl⟩) fun u s1 ⟨v, H1, I1, rx, ev, eH⟩ => ?_)
  subst ev eH
  obtain rfl : u = Value.ref a := rx
  have mp : ∀ {s : Shared}, L2.Inv X pins σ H1 s → s.heap.MapOf (PySem.strKind X.prog X.w) a (fun k => findBy Value.isStrOf es k) := fun I => PySem.W.mapOf_K (prog := X.prog) I.kIn D0.at_ D0.lit
  refine ⟨(mp I1).typeIs, (mp I1).noDict, ?_⟩
  rw [m.trees]
  refine Calls.callWith_builtin rfl (Calls.evalArgs_plain (Calls.spliced_cons (thn (he.run pins s1 σ H1 (fun v H2 => ∃ M2, Ext M H1 M2 H2 ∧ RelS nm X.K X.mg M2 S1 H2 ∧ RelD X.K M2 H2 y v) I1 (rE.go rs re h1 fun M2 H2 v e2 r2 q2 => ⟨M2, e2, r2, q2⟩)) fun iv s2 ⟨vy, H2, I2, ry, M2, e2, r2, q2⟩ =>
    Calls.spliced_cons (thn (hg.run pins s2 σ H2 (fun v H3 => ∃ M3, Ext M2 H2 M3 H3 ∧ RelS nm X.K X.mg M3 S2 H3 ∧ RelD X.K M3 H3 z v) I2 (rE.go r2 (re.ext rs e2) h2 fun M3 H3 v e3 r3 q3 => ⟨M3, e3, r3, q3⟩)) fun fv s3 ⟨vz, H3, I3, rz, M3, e3, r3, q3⟩ => Calls.spliced_nil ?_))))
  unfold kGet at h
  cases y with
  | str ky =>
    cases h
    obtain rfl := q2.str
    obtain ⟨tk, rfl⟩ := ry
    have mp3 : s3.heap.MapOf (PySem.strKind X.prog X.w) a (fun k => findBy Value.isStrOf es k) := PySem.W.mapOf_K (prog := X.prog) I3.kIn D0.at_ D0.lit
    refine call_meetsIn PySem.F.slot_dict_get mp3.typeIs PySem.F.entry_dict_get (PySem.F.args_dict_get_3 _ _ _) (meets_dict_get_default (PySem.strKind X.prog X.w) a (PySem.strKind_is X.prog X.w _ tk) D0.low fv) ⟨_, mp3, ?_⟩
    have kk := k.ext (e2.trans e3)
    rcases tab_ns D0 te ky with ⟨z1, z2⟩ | ⟨v, u, z1, z2, z3⟩
    · rw [PySem.W.find_K D0.at_ z2]
      rw [z1] at kk
      exact ⟨vz, H3, I3.tok _, rz, kk.here r3 q3⟩
    · rw [PySem.W.find_K D0.at_ z2]
      rw [z1] at kk
      exact ⟨_, H3, I3.tok _, z3, kk.here r3 .mkS⟩
  | _ => cases h
/-- TABLE[k] -/
theorem px_kix {x : Str} {a : Addr} {t : List (D × D)} {i : Expr} {fi : E} {p pos : Pos} (T : TabOk X a t) (hgl : Gl X x) (hm : X.mg x = some (.ref a)) (hd : (x == ("__debug__" : Str)) = false) (hi : PX nm X i fi) (hs : NoSl i) : PX nm X (.Subscript (.Name x p) i pos) (e1 (kIx t) fi) := by
  refine ⟨fun pins s σ H Q I h => ?_⟩
  obtain ⟨M, ρ, S, d, S', rs, re, h, k⟩ := h
  obtain ⟨es, n, D0, te⟩ := T
  unfold e1 at h
  obtain ⟨y, S1, h1, h⟩ := bind_inv h
  refine subD_of PySem.F.slot_dict_getitem.lookup hs (thn ((pe_glob (v := .ref a) hgl hm rfl hd).run pins s σ H (fun v H1 => v = .ref a ∧ H1 = H) I ⟨rfl, rfl⟩) fun u s1 ⟨v, H1, I1, rx, ev, eH⟩ => ?_)
  subst ev eH
  obtain rfl : u = Value.ref a := rx
  refine thn (hi.run pins s1 σ H1 (fun v H2 => ∃ M2, Ext M H1 M2 H2 ∧ RelS nm X.K X.mg M2 S1 H2 ∧ RelD X.K M2 H2 y v) I1 (rE.go rs re h1 fun M2 H2 v e2 r2 q2 => ⟨M2, e2, r2, q2⟩)) fun iv s2 ⟨vy, H2, I2, ry, M2, e2, r2, q2⟩ => ?_
  refine ⟨(PySem.W.mapOf_K (prog := X.prog) (w := X.w) I2.kIn D0.at_ D0.lit).typeIs, ?_⟩
  unfold kIx at h
  cases y with
  | str ky =>
    dsimp only at h
    split at h
    · rename_i d' ed
      cases h
      obtain rfl := q2.str
      rcases tab_ns D0 te ky with ⟨z1, z2⟩ | ⟨v, u, z1, z2, z3⟩
      · rw [z1] at ed; cases ed
      · rw [z1] at ed
        cases ed
        exact op_item_kd D0 pins s2 σ H2 (.ref a) (.str (strOf ky)) (.ref a) iv Q I2 rfl ry ⟨_, u, _, rfl, rfl, z2, z3, (k.ext e2).here r2 .mkS⟩
    · cases h
  | _ => cases h
/-- k not in TABLE -/
theorem pxt_kNotIn {x : Str} {a : Addr} {t : List (D × D)} {i : Expr} {fi : E} {p pos : Pos} (T : TabOk X a t) (hgl : Gl X x) (hm : X.mg x = some (.ref a)) (hd : (x == ("__debug__" : Str)) = false) (hi : PX nm X i fi) : PXT nm X (.Compare i [.NotIn] [.Name x p] pos) (tE (e1 (kNotIn t) fi)) := by
  obtain ⟨es, n, D0, te⟩ := T
  refine pxt_of (PT.imp (pt_cmpR (op_notIn_kd D0) hi (pe_glob (v := .ref a) hgl hm rfl hd) rfl) fun σ H Q ⟨M, ρ, S, d, S', rs, re, h, k⟩ => ?_)
  unfold e1 at h
  obtain ⟨y, S1, h1, h⟩ := bind_inv h
  refine rE.go rs re h1 fun M1 H1 v e1 r1 q1 => ?_
  unfold kNotIn at h
  cases y with
  | str ky =>
    cases h
    obtain rfl := q1.str
    rcases tab_ns D0 te ky with ⟨z1, z2⟩ | ⟨v, u, z1, z2, z3⟩
    · refine ⟨_, _, rfl, rfl, z2, ?_⟩
      rw [z1] at k
      exact k M1 H1 _ e1 r1 .mkB
    · refine ⟨_, _, rfl, rfl, z2, ?_⟩
      rw [z1] at k
      exact k M1 H1 _ e1 r1 .mkB
  | _ => cases h
end
end PF
end
section
set_option linter.all false
set_option Elab.async false
set_option linter.all false
set_option maxRecDepth 100003
set_option maxHeartbeats 2000003
set_option autoImplicit false
namespace PF
open PySem L2
theorem hu1 {k : Nat} {A : Around} (h : Room k A) : A.units + 1 < cLine := by have := h.un; omega
theorem hu64 {k : Nat} {A : Around} (h : Room k A) : A.units + 64 < cLine := by have := h.un; omega
theorem hu65 {k : Nat} {A : Around} (h : Room k A) : A.units + 65 < cLine := by have := h.un; omega
def ndbg (x : Str) : Bool := !(x == ("__debug__" : Str)) && !(x == ("__classdict__" : Str))
/-- names of fields -/
def fldOf (ns : List Str) (n : Nat) : Str := match ns[n]? with
  | some s => s
  | none => ⟨(List.replicate (n + 100) 0).toArray⟩
theorem fldOf_inj {ns : List Str} (nd : ns.Nodup) (hl : ∀ x ∈ ns, x.cps.size < 100) (a b : Nat) (h : fldOf ns a = fldOf ns b) : a = b := by
  unfold fldOf at h
  cases ea : ns[a]? with
  | none =>
    cases eb : ns[b]? with
    | none =>
      rw [ea, eb] at h
      have h2 := congrArg (fun s : Str => s.cps.size) h
      simp at h2
      exact h2
    | some y =>
      rw [ea, eb] at h
      have h2 := congrArg (fun s : Str => s.cps.size) h
      have h3 := hl y (List.mem_of_getElem? eb)
      simp at h2
      omega
  | some x =>
    cases eb : ns[b]? with
    | none =>
      rw [ea, eb] at h
      have h2 := congrArg (fun s : Str => s.cps.size) h
      have h3 := hl x (List.mem_of_getElem? ea)
      simp at h2
      omega
    | some y =>
      rw [ea, eb] at h
      have e : x = y := h
      subst e
      obtain ⟨la, qa⟩ := List.getElem?_eq_some_iff.mp ea
      obtain ⟨lb, qb⟩ := List.getElem?_eq_some_iff.mp eb
      rcases Nat.lt_trichotomy a b with z | z | z
      · exact absurd (qa.trans qb.symm) (List.pairwise_iff_getElem.mp nd a b la lb z)
      · exact z
      · exact absurd (qb.trans qa.symm) (List.pairwise_iff_getElem.mp nd b a lb la z)
def nmOfT (cs ns : List Str) (nd : ns.Nodup) (hl : ∀ x ∈ ns, x.cps.size < 100) (tabs : List Nat) (tab : Nat → Addr) : Nm := { cls := fun n => cs.getD n "", fld := fldOf ns, inj := fldOf_inj nd hl, tabs := tabs, tab := tab }
def GlI (mg : Str → Option Value) (x : Str) (i : Int) : Prop := ∃ t, mg x = some (.int i t)
def GlS (mg : Str → Option Value) (x : Str) (s : List Nat) : Prop := ∃ t, mg x = some (.str (strOf s) t)
def GlD (K : PySem.W.Frag) (w : World) (mg : Str → Option Value) (x : Str) (t : List (D × D)) : Prop := ∃ a, mg x = some (.ref a) ∧ ∃ es n, KDict K w a es n ∧ TabEs t es.toList
/-- a def that keeps its promise -/
def Cal (nm : Nm) (P : Program) (w : World) (K : PySem.W.Frag) (mg : Str → Option Value) (base : Heap) (k : Nat) (x : Str) (ps : List Str) (f : Fn) : Prop :=
  ∃ g fd, FnOk P w K mg base CX0 k g fd ps (spF nm K mg ps.length f) ∧ mg x = some (.ref g) ∧ PySem.W.keepIn K (.ref g) = true ∧ Binds K fd ps []
section
variable {nm : Nm} {X : Cx}
theorem wv (nd : X.N.all ndbg = true) {i : Nat} {x : Str} {pos : Pos} (hN : X.N[i]? = some x) (hv : Vis X.env.scope x) : PX nm X (.Name x pos) (eVar i) := by
  have h := List.all_eq_true.mp nd x (List.mem_of_getElem? hN)
  unfold ndbg at h
  rw [Bool.and_eq_true, Bool.not_eq_true', Bool.not_eq_true'] at h
  exact px_var hN hv h.1 h.2
theorem wd_globI {x : Str} {i : Int} {pos : Pos} (h : GlI X.mg x i) (hg : Gl X x) (hd : (x == ("__debug__" : Str)) = false) : PX nm X (.Name x pos) (eC (.int i)) := by
  obtain ⟨t, h⟩ := h
  exact px_glob (v := .int i) hg h ⟨t, rfl⟩ (.int i) hd
theorem wd_globS {x : Str} {s : List Nat} {pos : Pos} (h : GlS X.mg x s) (hg : Gl X x) (hd : (x == ("__debug__" : Str)) = false) : PX nm X (.Name x pos) (eC (.str s)) := by
  obtain ⟨t, h⟩ := h
  exact px_glob (v := .str (strOf s)) hg h ⟨t, rfl⟩ (.str rfl) hd
theorem wd_kget {x : Str} {t : List (D × D)} {e g : Expr} {fe fg : E} {p apos cpos : Pos} (T : GlD X.K X.w X.mg x t) (hgl : Gl X x) (hd : (x == ("__debug__" : Str)) = false) (he : PX nm X e fe) (hg : PX nm X g fg) (m : M2 X (.Name x p) "get" apos e g cpos) :
    PX nm X (.Call (.Attribute (.Name x p) "get" apos) [e, g] [] cpos) (e2 (kGet t) fe fg) := by
  obtain ⟨a, hm, T⟩ := T
  exact px_kget T hgl hm hd he hg m
theorem wd_kix {x : Str} {t : List (D × D)} {i : Expr} {fi : E} {p pos : Pos} (T : GlD X.K X.w X.mg x t) (hgl : Gl X x) (hd : (x == ("__debug__" : Str)) = false) (hi : PX nm X i fi) (hs : NoSl i) : PX nm X (.Subscript (.Name x p) i pos) (e1 (kIx t) fi) := by
  obtain ⟨a, hm, T⟩ := T
  exact px_kix T hgl hm hd hi hs
theorem wd_kNotIn {x : Str} {t : List (D × D)} {i : Expr} {fi : E} {p pos : Pos} (T : GlD X.K X.w X.mg x t) (hgl : Gl X x) (hd : (x == ("__debug__" : Str)) = false) (hi : PX nm X i fi) : PXT nm X (.Compare i [.NotIn] [.Name x p] pos) (tE (e1 (kNotIn t) fi)) := by
  obtain ⟨a, hm, T⟩ := T
  exact pxt_kNotIn T hgl hm hd hi
theorem wd_call {k : Nat} {x : Str} {ps : List Str} {p pos : Pos} {e : Expr} {es : List Expr} {f : Fn} {a : A} (C : Cal nm X.prog X.w X.K X.mg X.base k x ps f) (hl : ALen a ps.length) (hr : Room k X.A) (hg : Gl X x)
    (ha : PXA nm X (e :: es) a) (hdb : (x == ("__debug__" : Str)) = false) (he : starEach (e :: es) X.env = (false, eval e X.env) :: starEach es X.env) (hpl : (backTo pos (starEach es X.env)).any (·.1) = false) : PX nm X (.Call (.Name x p) (e :: es) [] pos) (eCall f a) := by
  obtain ⟨g, fd, F, hm, hk, hb⟩ := C
  exact px_call F hl hr hg hm hk hb ha hdb he hpl
section
variable {e : Expr} {es : List Expr} {fa : A} {p pos : Pos}
theorem bv_len : bootBuiltins "len" = some (.builtin "len") := PySem.boot_len
theorem bv_min : bootBuiltins "min" = some (.builtin "min") := by decide +kernel
theorem bv_int : bootBuiltins "int" = some (.type "int") := by decide +kernel
theorem bv_list : bootBuiltins "list" = some (.type "list") := by decide +kernel
theorem bv_tuple : bootBuiltins "tuple" = some (.type "tuple") := by decide +kernel
theorem wd_len (hg : Gl X "len") (hm : X.mg "len" = none) (ha : PXA nm X (e :: es) fa) (he : starEach (e :: es) X.env = (false, eval e X.env) :: starEach es X.env) (hpl : (backTo pos (starEach es X.env)).any (·.1) = false) : PX nm X (.Call (.Name "len" p) (e :: es) [] pos) (eCall fLen fa) :=
  px_cb (pe_callB call_len hg hm bv_len ha (by decide +kernel) (by decide +kernel) he hpl) opn_len
theorem wd_min (hc : X.calm = true) (hg : Gl X "min") (hm : X.mg "min" = none) (ha : PXA nm X (e :: es) fa) (he : starEach (e :: es) X.env = (false, eval e X.env) :: starEach es X.env) (hpl : (backTo pos (starEach es X.env)).any (·.1) = false) : PX nm X (.Call (.Name "min" p) (e :: es) [] pos) (eCall fMin fa) :=
  px_cb (pe_callB (call_min2 hc) hg hm bv_min ha (by decide +kernel) (by decide +kernel) he hpl) opn_min
theorem wd_int (hg : Gl X "int") (hm : X.mg "int" = none) (ha : PXA nm X (e :: es) fa) (he : starEach (e :: es) X.env = (false, eval e X.env) :: starEach es X.env) (hpl : (backTo pos (starEach es X.env)).any (·.1) = false) : PX nm X (.Call (.Name "int" p) (e :: es) [] pos) (eCall fInt fa) :=
  px_cb (pe_callTy call_int1 hg hm bv_int ha (by decide +kernel) (by decide +kernel) he hpl) opn_int
theorem wd_list (hg : Gl X "list") (hm : X.mg "list" = none) (ha : PXA nm X (e :: es) fa) (he : starEach (e :: es) X.env = (false, eval e X.env) :: starEach es X.env) (hpl : (backTo pos (starEach es X.env)).any (·.1) = false) : PX nm X (.Call (.Name "list" p) (e :: es) [] pos) (eCall fList fa) :=
  px_cb (pe_callTy call_list_of hg hm bv_list ha (by decide +kernel) (by decide +kernel) he hpl) opn_list
theorem wd_tuple (hg : Gl X "tuple") (hm : X.mg "tuple" = none) (ha : PXA nm X (e :: es) fa) (he : starEach (e :: es) X.env = (false, eval e X.env) :: starEach es X.env) (hpl : (backTo pos (starEach es X.env)).any (·.1) = false) : PX nm X (.Call (.Name "tuple" p) (e :: es) [] pos) (eCall fTuple fa) :=
  px_cb (pe_callTy call_tuple_of hg hm bv_tuple ha (by decide +kernel) (by decide +kernel) he hpl) opn_tuple
end
section
variable {o e : Expr} {fo fa : E} {apos cpos : Pos}
theorem wd_append (ho : PX nm X o fo) (ha : PX nm X e fa) (hbase : attributeBase o "append" X.env (eval o X.env) = eval o X.env)
    (hfew : ((backTo cpos (starEach [e] X.env)).all (fun x => !x.1) && (backToKw cpos (keywordEach [] X.env)).all (fun x => x.1.isSome) && decide ([e].length + ([] : List Keyword).length + (if ([] : List Keyword).isEmpty then 0 else 1) < 30)) = true)
    (hline : (apos.endLine == cpos.line) = true) (hs : starEach [e] X.env = (false, eval e X.env) :: starEach [] X.env) (hp : (backTo cpos (starEach [] X.env)).any (·.1) = false) : PX nm X (.Call (.Attribute o "append" apos) [e] [] cpos) (eM1 mAppend fo fa) :=
  px_m1 (pe_bm PySem.F.plainAttrs_list PySem.F.slot_list_append PySem.F.type_list_append mt_append ho (pa_cons ha pa_nil hs) hbase hfew hline hs hp) opm_append
theorem wd_pop (ho : PX nm X o fo) (ha : PX nm X e fa) (hbase : attributeBase o "pop" X.env (eval o X.env) = eval o X.env)
    (hfew : ((backTo cpos (starEach [e] X.env)).all (fun x => !x.1) && (backToKw cpos (keywordEach [] X.env)).all (fun x => x.1.isSome) && decide ([e].length + ([] : List Keyword).length + (if ([] : List Keyword).isEmpty then 0 else 1) < 30)) = true)
    (hline : (apos.endLine == cpos.line) = true) (hs : starEach [e] X.env = (false, eval e X.env) :: starEach [] X.env) (hp : (backTo cpos (starEach [] X.env)).any (·.1) = false) : PX nm X (.Call (.Attribute o "pop" apos) [e] [] cpos) (eM1 mPop fo fa) :=
  px_m1 (pe_bm PySem.F.plainAttrs_list PySem.F.slot_list_pop PySem.F.type_list_pop mt_popAt ho (pa_cons ha pa_nil hs) hbase hfew hline hs hp) opm_pop
end
end
end PF
end
section
set_option linter.all false
set_option Elab.async false
set_option linter.all false
set_option maxRecDepth 100003
set_option maxHeartbeats 2000003
set_option autoImplicit false
namespace PF
open PySem L2
/-- no list stands in what the top has left -/
def noList (K : PySem.W.Frag) : Bool := K.all fun p => match p.2.cls with
  | .type c => !decide (c = "list")
  | _ => true
theorem noList_ok {K : PySem.W.Frag} (h : noList K = true) {a : Addr} {o : Obj} (l : K.lookup a = some o) : o.cls ≠ .type "list" := by
  unfold noList at h
  have m : ∃ b, (b, o) ∈ K := by
    induction K with
    | nil => cases l
    | cons p r ih =>
      obtain ⟨b, u⟩ := p
      rw [List.all_cons, Bool.and_eq_true] at h
      unfold List.lookup at l
      split at l
      · cases l; exact ⟨b, List.mem_cons_self⟩
      · obtain ⟨c, hc⟩ := ih h.2 l
        exact ⟨c, List.mem_cons_of_mem _ hc⟩
  obtain ⟨b, hb⟩ := m
  have z := List.all_eq_true.mp h _ hb
  intro e
  simp [e] at z
theorem rel_script {K : PySem.W.Frag} {M : List Addr} {H : Hp} : ∀ is : List Int, RelDs K M H (is.map D.int) (is.map V.int)
  | [] => .nil
  | i :: is => .cons .mkI (rel_script is)
theorem fn_bad {nm : Nm} {P : Program} {w : World} {K : PySem.W.Frag} {mg : Str → Option Value} {base : Heap} {k : Nat} {f : Addr} {fd : FuncData} {ps : List Str} : FnOk P w K mg base CX0 k f fd ps (spF nm K mg ps.length fun _ _ => .bad) :=
  ⟨fun vs H Q E h => len_arg h, fun A outer s H args us vs Q E hr he hb hv hs => by obtain ⟨_, _, _, _, _, _, _, _, h, _⟩ := hs; cases h⟩
theorem at_mk {K : PySem.W.Frag} {h : Heap} {mg : Str → Option Value} {x qual : Str} {st : Stmt} {f : Addr} {ps : List Str} {oc : Value} {od an : Option Addr} {osl : Array (Option Value)} {kV doc pm cdv ct : Value} (X : K.In h) (G : h.Ns mainGlobals mg)
    (a : PySem.W.nsIn K mainGlobals x = some (some (.ref f))) (l : K.lookup f = some ⟨oc, od, .func (PySem.W.fnOf x qual (defArgs st) (defBody st) (defScope st) .none kV doc pm an cdv ct), osl⟩)
    (c : PySem.W.codeIn K cdv qual = true) (k : PySem.W.keepIn K (.ref f) = true)
    (hb : ∀ (kV doc pm : Value) (an : Option Addr) (cdv ct : Value) (us : List Value), us.length = ps.length → bindArgs (PySem.W.fnOf x qual (defArgs st) (defBody st) (defScope st) .none kV doc pm an cdv ct) ⟨us, []⟩ = pure (ps.zip us)) :
    ∃ fd, Fun K x qual st f fd ∧ mg x = some (.ref f) ∧ PySem.W.keepIn K (.ref f) = true ∧ Binds K fd ps [] :=
  ⟨_, fun_mk l c k, PySem.W.mg_of X G a, k, (fun_mk l c k).binds hb⟩
theorem glI_mk {K : PySem.W.Frag} {h : Heap} {mg : Str → Option Value} {x : Str} {i : Int} {t : Tok} (X : K.In h) (G : h.Ns mainGlobals mg) (a : PySem.W.nsIn K mainGlobals x = some (some (.int i t))) : GlI mg x i := ⟨t, PySem.W.mg_of X G a⟩
theorem glS_mk {K : PySem.W.Frag} {h : Heap} {mg : Str → Option Value} {x y : Str} {s : List Nat} {t : Tok} (X : K.In h) (G : h.Ns mainGlobals mg) (e : strOf s = y) (a : PySem.W.nsIn K mainGlobals x = some (some (.str y t))) : GlS mg x s := ⟨t, by rw [e]; exact PySem.W.mg_of X G a⟩
theorem glD_mk {K : PySem.W.Frag} {w : World} {h : Heap} {mg : Str → Option Value} {x : Str} {t : List (D × D)} {b : Addr} {es : Array DictEntry} {n : Nat} (X : K.In h) (G : h.Ns mainGlobals mg) (a : PySem.W.nsIn K mainGlobals x = some (some (.ref b)))
    (l : K.lookup b = some ⟨.type "dict", none, .dict es n, #[]⟩) (lo : (b == sysModules) = false) (hk : PySem.W.KeysLit w.params es.toList) (ht : TabEs t es.toList) : GlD K w mg x t := ⟨b, PySem.W.mg_of X G a, es, n, ⟨l, hk, lo⟩, ht⟩
end PF
end
section
set_option linter.all false
set_option autoImplicit false
namespace PF
/-- a number's text -/
def strI (i : Int) : List Nat := (toString i).toList.map Char.toNat
/-- str(i) -/
def fStr : Fn := fun xs S => match xs with
  | [.int i] => if -(2 ^ 60) < i ∧ i < 2 ^ 60 then .ok (.str (strI i)) S else .bad
  | _ => .bad
end PF
end
section
set_option linter.all false
set_option autoImplicit false
namespace PF
/-- sorted(set(x)), x a list of numbers -/
def fSortedSetL : Fn := fun xs S => match xs with
  | [.ref n] => match lstOf n S with
    | some ds => match intsOf ds with
      | some is => if is.length < 64 then alloc (.lst ((sortI (dedup is)).map .int)) S else .bad
      | none => .bad
    | none => .bad
  | _ => .bad
/-- a tuple, so many times -/
def gMulT (x y : D) : M D := fun S => match x, y with
  | .tup a, .int k => if a ≠ [] ∧ 1 ≤ k ∧ k ≤ 1000 ∧ a.length ≤ 1000 then .ok (.tup (rep a k.toNat)) S else .bad
  | _, _ => .bad
end PF
end
section
set_option linter.all false
set_option autoImplicit false
namespace PF
def joinL (a : List Nat) : List (List Nat) → List Nat
  | [] => []
  | [p] => p
  | p :: q :: r => p ++ (a ++ joinL a (q :: r))
/-- l cut at each s from the left; k signs are still to be passed over -/
def spl (s : List Nat) : Nat → List Nat → List Nat → List (List Nat)
  | _, acc, [] => [acc]
  | 0, acc, c :: r => if ((c :: r).take s.length == s) = true then acc :: spl s (s.length - 1) [] r else spl s 0 (acc ++ [c]) r
  | k + 1, acc, _ :: r => spl s k acc r
def strsOf : List D → Option (List (List Nat))
  | [] => some []
  | .str s :: r => (strsOf r).map (s :: ·)
  | _ => none
def isS : D → Bool
  | .str _ => true
  | _ => false
/-- o.m(e), o a text: what o is is looked at first -/
def eS1 (g : D → D → M D) (o a : E) : E := fun ρ S => (o ρ S).bind fun x S => if isS x = true then (a ρ S).bind fun y S => g x y S else .bad
def mJoin (x y : D) : M D := fun S => match x with
  | .str a => match seqOf y S with
    | some ds => match strsOf ds with
      | some ys => if (ys.map (·.length)).sum + ys.length * a.length ≤ LIM then .ok (.str (joinL a ys)) S else .bad
      | none => .bad
    | none => .bad
  | _ => .bad
def mSplit (x y : D) : M D := fun S => match x, y with
  | .str a, .str b => if b ≠ [] ∧ (b.all fun c => decide (c < 256)) = true ∧ a.length + 2 ≤ LIM then alloc (.lst ((spl b 0 [] a).map .str)) S else .bad
  | _, _ => .bad
def digVal (cs : List Nat) : Nat := cs.foldl (fun acc c => acc * 10 + (c - 48)) 0
/-- int(text), a text of figures -/
def fIntT : Fn := fun xs S => match xs with
  | [.str s] => if s ≠ [] ∧ s.length ≤ 640 ∧ (s.all fun c => decide (48 ≤ c ∧ c ≤ 57)) = true then .ok (.int (digVal s : Nat)) S else .bad
  | _ => .bad
/-- each second one -/
def every2 {α : Type} : List α → List α
  | [] => []
  | [x] => [x]
  | x :: _ :: r => x :: every2 r
/-- l[lo::2] of a list -/
def gEvery (x : D) (lo : Option Int) : M D := fun S => match x with
  | .ref n => match lstOf n S with
    | some ds => if 0 ≤ lo.getD 0 then alloc (.lst (every2 (ds.drop (lo.getD 0).toNat))) S else .bad
    | none => .bad
  | _ => .bad
def eEvery (a : E) (lo : O) : E := fun ρ S => (a ρ S).bind fun x S => (lo ρ S).bind fun i S => gEvery x i S
/-- x in a tuple of anything -/
def inBT (x y : D) (S : Sto) : Option Bool := match y with
  | .tup ds => inTree S x ds
  | _ => none
def gInT (x y : D) : M D := fun S => match inBT x y S with
  | some b => .ok (.bl b) S
  | none => .bad
/-- str(x) of a number, a text -/
def fStrA : Fn := fun xs S => match xs with
  | [.int i] => if -(2 ^ 60) < i ∧ i < 2 ^ 60 then .ok (.str (strI i)) S else .bad
  | [.str s] => .ok (.str s) S
  | _ => .bad
/-- a text, sign by sign -/
def iTxt (a : E) : I := fun ρ S => (a ρ S).bind fun x S => match x with
  | .str s => .ok ⟨[], charsD s⟩ S
  | _ => .bad
end PF
end
section
set_option linter.all false
set_option autoImplicit false
namespace PF
def ditOf (n : Nat) (S : Sto) : Option (List (D × D)) := match S[n]? with
  | some (.dit kvs) => some kvs
  | _ => none
def gNotInT (x y : D) : M D := fun S => match y with
  | .ref n => match ditOf n S with
    | some kvs => if keyT x = true then .ok (.bl (!(dget kvs x).isSome)) S else .bad
    | none => .bad
  | _ => .bad
end PF
end
section
set_option linter.all false
set_option autoImplicit false
namespace PF
/-- b is not True -/
def gNotTr (x y : D) : M D := fun S => match x, y with
  | .bl b, .bl true => .ok (.bl (!b)) S
  | _, _ => .bad
/-- a tuple so many times, or not at all -/
def gMulU (x y : D) : M D := fun S => match x, y with
  | .tup a, .int k => if a ≠ [] ∧ 0 ≤ k ∧ k ≤ 1000 ∧ a.length ≤ 1000 then .ok (.tup (rep a k.toNat)) S else .bad
  | _, _ => .bad
end PF
end
section
set_option linter.all false
set_option autoImplicit false
namespace PF
/-- len(set(x)), x a tuple of numbers -/
def fLenSetI : Fn := fun xs S => match xs with
  | [.tup ds] => match intsOf ds with
    | some is => if is.length < 64 then .ok (.int (dedup is).length) S else .bad
    | none => .bad
  | _ => .bad
end PF
end
section
set_option linter.all false
set_option autoImplicit false
set_option maxRecDepth 100003
set_option linter.all false
namespace PF
def Calm {α : Type} (o : Out α) : Prop := ∀ e S, o ≠ .err e S
theorem Calm.ok {α : Type} {a : α} {S : Sto} : Calm (.ok a S) := fun _ _ h => nomatch h
theorem Calm.bad {α : Type} : Calm (.bad : Out α) := fun _ _ h => nomatch h
theorem Calm.bind {α β : Type} {o : Out α} {k : α → M β} (h : Calm o) (hk : ∀ a S, Calm (k a S)) : Calm (o.bind k) := by
  intro e S h'
  cases o with
  | ok a S1 => exact hk a S1 e S h'
  | err e1 S1 => exact h e1 S1 rfl
  | bad => cases h'
theorem Calm.ite {α : Type} {c : Prop} [Decidable c] {a b : Out α} (ha : Calm a) (hb : Calm b) : Calm (if c then a else b) := by split <;> assumption
theorem Calm.alloc {o : MO} {S : Sto} : Calm (PF.alloc o S) := fun _ _ h => nomatch h
class NeE (f : E) : Prop where
  out : ∀ ρ S, Calm (f ρ S)
class NeT (f : T) : Prop where
  out : ∀ ρ S, Calm (f ρ S)
class NeA (f : A) : Prop where
  out : ∀ ρ S, Calm (f ρ S)
class NeO (f : O) : Prop where
  out : ∀ ρ S, Calm (f ρ S)
class NeI (f : I) : Prop where
  out : ∀ ρ S, Calm (f ρ S)
class NeS (f : St) : Prop where
  out : ∀ ρ S, Calm (f ρ S)
class NeF (f : Fn) : Prop where
  out : ∀ xs S, Calm (f xs S)
class NeG (g : D → M D) : Prop where
  out : ∀ x S, Calm (g x S)
class NeH (g : D → D → M D) : Prop where
  out : ∀ x y S, Calm (g x y S)
class NeP (ps : List (E × E)) : Prop where
  out : ∀ ρ S, Calm (evPairs ps ρ S)
section
variable {f : Fn} {g g' : D → D → M D} {g1 : D → M D} {a b c : E} {r : A} {t u : T} {i : I} {o o' : O} {s s' : St}
instance {n : Nat} : NeE (eVar n) := ⟨fun ρ S e S' h => by
  unfold eVar at h
  split at h <;> cases h⟩
instance {d : D} : NeE (eC d) := ⟨fun _ _ => .ok⟩
instance [NeG g1] [NeE a] : NeE (e1 g1 a) := ⟨fun ρ S => (NeE.out ρ S).bind fun x S => NeG.out x S⟩
instance [NeH g] [NeE a] [NeE b] : NeE (e2 g a b) := ⟨fun ρ S => (NeE.out ρ S).bind fun x S => (NeE.out ρ S).bind fun y S => NeH.out x y S⟩
instance : NeA aNil := ⟨fun _ _ => .ok⟩
instance [NeE a] [NeA r] : NeA (aCons a r) := ⟨fun ρ S => (NeE.out ρ S).bind fun x S => (NeA.out ρ S).bind fun y S => .ok⟩
instance [NeA r] : NeE (eTup r) := ⟨fun ρ S => (NeA.out ρ S).bind fun x S => .ok⟩
instance [NeA r] : NeE (eLst r) := ⟨fun ρ S => (NeA.out ρ S).bind fun x S => .alloc⟩
instance [NeF f] [NeA r] : NeE (eCall f r) := ⟨fun ρ S => (NeA.out ρ S).bind fun x S => NeF.out x S⟩
instance [NeT t] [NeE a] [NeE b] : NeE (eIf t a b) := ⟨fun ρ S => (NeT.out ρ S).bind fun x S => .ite (NeE.out ρ S) (NeE.out ρ S)⟩
instance [NeE a] : NeT (tE a) := ⟨fun ρ S => (NeE.out ρ S).bind fun x S => by
  split
  · exact .ok
  · exact .bad⟩
instance [NeE a] [NeE b] : NeE (eAnd a b) := ⟨fun ρ S => (NeE.out ρ S).bind fun x S => by
  split
  · exact NeE.out ρ S
  · exact .ok
  · exact .bad⟩
instance [NeE a] [NeE b] : NeE (eOr a b) := ⟨fun ρ S => (NeE.out ρ S).bind fun x S => by
  split
  · exact .ok
  · exact NeE.out ρ S
  · exact .bad⟩
instance [NeE a] : NeE (eNot a) := ⟨fun ρ S => (NeE.out ρ S).bind fun x S => by
  split
  · exact .ok
  · exact .bad⟩
instance [NeT t] [NeT u] : NeT (PF.tAnd t u) := ⟨fun ρ S => (NeT.out ρ S).bind fun x S => .ite (NeT.out ρ S) .ok⟩
instance [NeT t] [NeT u] : NeT (PF.tOr t u) := ⟨fun ρ S => (NeT.out ρ S).bind fun x S => .ite .ok (NeT.out ρ S)⟩
instance [NeT t] : NeT (PF.tNot t) := ⟨fun ρ S => (NeT.out ρ S).bind fun x S => .ok⟩
instance : NeT tYes := ⟨fun _ _ => .ok⟩
instance [NeH g] [NeH g'] [NeE a] [NeE b] [NeE c] : NeE (eChain g g' a b c) := ⟨fun ρ S => (NeE.out ρ S).bind fun x S => (NeE.out ρ S).bind fun y S => (NeH.out x y S).bind fun z S => by
  split
  · exact (NeE.out ρ S).bind fun w S => NeH.out _ _ S
  · exact .ok
  · exact .bad⟩
instance : NeO oNone := ⟨fun _ _ => .ok⟩
instance [NeE a] : NeO (oSome a) := ⟨fun ρ S => (NeE.out ρ S).bind fun x S => by
  split
  · exact .ok
  · exact .bad⟩
theorem gSlice_calm {x : D} {lo hi : Option Int} {S : Sto} : Calm (gSlice x lo hi S) := by
  unfold gSlice
  (repeat' split) <;> first | exact .ok | exact .bad | exact .alloc
instance [NeE a] [NeO o] [NeO o'] : NeE (eSlice a o o') := ⟨fun ρ S => (NeE.out ρ S).bind fun x S => (NeO.out ρ S).bind fun y S => (NeO.out ρ S).bind fun z S => gSlice_calm⟩
instance [NeE a] : NeI (iSeq a) := ⟨fun ρ S => (NeE.out ρ S).bind fun x S => by
  split <;> first | exact .ok | exact .bad⟩
instance [NeE a] : NeI (iRange1 a) := ⟨fun ρ S => (NeE.out ρ S).bind fun x S => by
  (repeat' split) <;> first | exact .ok | exact .bad⟩
instance [NeE a] [NeE b] : NeI (iRange2 a b) := ⟨fun ρ S => (NeE.out ρ S).bind fun x S => (NeE.out ρ S).bind fun y S => by
  (repeat' split) <;> first | exact .ok | exact .bad⟩
instance [NeE a] : NeI (iEnum a) := ⟨fun ρ S => (NeE.out ρ S).bind fun x S => by
  (repeat' split) <;> first | exact .ok | exact .bad⟩
instance [NeE a] [NeE b] : NeI (iZip a b) := ⟨fun ρ S => (NeE.out ρ S).bind fun x S => (NeE.out ρ S).bind fun y S => by
  (repeat' split) <;> first | exact .ok | exact .bad⟩
instance [NeE a] : NeI (iTxt a) := ⟨fun ρ S => (NeE.out ρ S).bind fun x S => by
  (repeat' split) <;> first | exact .ok | exact .bad⟩
instance [NeI i] : NeE (eLRg i) := ⟨fun ρ S => (NeI.out ρ S).bind fun x S => .ite .alloc .bad⟩
instance [NeI i] : NeE (eTRg i) := ⟨fun ρ S => (NeI.out ρ S).bind fun x S => .ite .ok .bad⟩
theorem comp_calm {it : Iter} {gg : G} [NeT t] [NeE a] {ρ : Env} : ∀ (ds : List D) (S : Sto), Calm (compLoop it gg t a ρ ds S)
  | [], S => by
    unfold compLoop
    (repeat' split) <;> first | exact .ok | exact .bad
  | d :: ds, S => by
    unfold compLoop
    split
    · split
      · exact .bad
      · refine (NeT.out _ S).bind fun x S => ?_
        split
        · exact (NeE.out _ S).bind fun y S => (comp_calm ds S).bind fun z S => .ok
        · exact comp_calm ds S
    · exact .bad
instance {vs : List Nat} {gg : G} [NeI i] [NeT t] [NeE a] : NeE (eComp i vs gg t a) := ⟨fun ρ S => (NeI.out ρ S).bind fun it S => (comp_calm _ S).bind fun ys S => by
  (repeat' split) <;> first | exact .ok | exact .bad | exact .alloc⟩
instance [NeH g] [NeE a] [NeE b] : NeE (eM1 g a b) := ⟨fun ρ S => (NeE.out ρ S).bind fun x S => .ite ((NeE.out ρ S).bind fun y S => NeH.out x y S) .bad⟩
instance [NeG g1] [NeE a] : NeE (eM0 g1 a) := ⟨fun ρ S => (NeE.out ρ S).bind fun x S => .ite (NeG.out x S) .bad⟩
instance [NeH g] [NeE a] [NeE b] : NeE (eS1 g a b) := ⟨fun ρ S => (NeE.out ρ S).bind fun x S => .ite ((NeE.out ρ S).bind fun y S => NeH.out x y S) .bad⟩
theorem gEvery_calm {x : D} {lo : Option Int} {S : Sto} : Calm (gEvery x lo S) := by
  unfold gEvery
  (repeat' split) <;> first | exact .ok | exact .bad | exact .alloc
instance [NeE a] [NeO o] : NeE (eEvery a o) := ⟨fun ρ S => (NeE.out ρ S).bind fun x S => (NeO.out ρ S).bind fun y S => gEvery_calm⟩
instance : NeP [] := ⟨fun _ _ => .ok⟩
instance {ps : List (E × E)} [NeE a] [NeE b] [NeP ps] : NeP ((a, b) :: ps) := ⟨fun ρ S => (NeE.out ρ S).bind fun x S => (NeE.out ρ S).bind fun y S => .ite ((NeP.out ρ S).bind fun z S => .ok) .bad⟩
instance {ps : List (E × E)} [NeP ps] : NeE (eDict ps) := ⟨fun ρ S => (NeP.out ρ S).bind fun x S => .alloc⟩
instance [NeE a] [NeE b] [NeE c] : NeE (eGet a b c) := ⟨fun ρ S => (NeE.out ρ S).bind fun x S => by
  (repeat' split) <;> first
  | exact .bad
  | exact (NeE.out ρ S).bind fun y S => (NeE.out ρ S).bind fun z S => by (repeat' split) <;> first | exact .ok | exact .bad⟩
instance : NeS sNext := ⟨fun _ _ => .ok⟩
instance : NeS sBreak := ⟨fun _ _ => .ok⟩
instance : NeS sCont := ⟨fun _ _ => .ok⟩
instance [NeS s] [NeS s'] : NeS (sSeq s s') := ⟨fun ρ S => (NeS.out ρ S).bind fun x S => by
  split
  · exact NeS.out _ S
  · exact .ok⟩
instance {n : Nat} [NeE a] : NeS (sSet n a) := ⟨fun ρ S => (NeE.out ρ S).bind fun x S => .ok⟩
instance {gg : G} [NeE a] : NeS (sAsg gg a) := ⟨fun ρ S => (NeE.out ρ S).bind fun x S => by
  split <;> first | exact .ok | exact .bad⟩
instance {is : List Nat} [NeA r] : NeS (sPar is r) := ⟨fun ρ S => (NeA.out ρ S).bind fun x S => by
  split <;> first | exact .ok | exact .bad⟩
instance [NeE a] : NeS (sExpr a) := ⟨fun ρ S => (NeE.out ρ S).bind fun x S => .ok⟩
instance [NeE a] : NeS (sRet a) := ⟨fun ρ S => (NeE.out ρ S).bind fun x S => .ok⟩
instance [NeT t] [NeS s] [NeS s'] : NeS (sIf t s s') := ⟨fun ρ S => (NeT.out ρ S).bind fun x S => .ite (NeS.out ρ S) (NeS.out ρ S)⟩
theorem for_calm {it : Iter} {gg : G} [NeS s] : ∀ (ds : List D) (ρ : Env) (S : Sto), Calm (forLoop it gg s ds ρ S)
  | [], ρ, S => by
    unfold forLoop
    split <;> first | exact .ok | exact .bad
  | d :: ds, ρ, S => by
    unfold forLoop
    split
    · split
      · exact .bad
      · refine (NeS.out _ S).bind fun x S => ?_
        split
        · exact for_calm ds _ S
        · exact for_calm ds _ S
        · exact .ok
        · exact .ok
    · exact .bad
instance {gg : G} [NeI i] [NeS s] : NeS (sFor i gg s) := ⟨fun ρ S => (NeI.out ρ S).bind fun x S => for_calm _ _ S⟩
theorem while_calm [NeT t] [NeS s] : ∀ (n : Nat) (ρ : Env) (S : Sto), Calm (whileLoop t s n ρ S)
  | 0, _, _ => .bad
  | n + 1, ρ, S => by
    unfold whileLoop
    refine (NeT.out _ S).bind fun x S => ?_
    split
    · refine (NeS.out _ S).bind fun y S => ?_
      split
      · exact while_calm n _ S
      · exact while_calm n _ S
      · exact .ok
      · exact .ok
    · exact .ok
instance [NeT t] [NeS s] : NeS (sWhile t s) := ⟨fun ρ S => while_calm _ _ S⟩
instance [NeE a] [NeE b] [NeE c] : NeS (sSub a b c) := ⟨fun ρ S => (NeE.out ρ S).bind fun x S => (NeE.out ρ S).bind fun y S => (NeE.out ρ S).bind fun z S => by
  split <;> first | exact .ok | exact .bad⟩
instance [NeE a] [NeE b] [NeE c] : NeS (sDct a b c) := ⟨fun ρ S => (NeE.out ρ S).bind fun x S => (NeE.out ρ S).bind fun y S => (NeE.out ρ S).bind fun z S => by
  split <;> first | exact .ok | exact .bad⟩
theorem fn_calm {n : Nat} [NeS s] : NeF (fn n s) := ⟨fun xs S => by
  unfold fn
  refine .ite ((NeS.out _ S).bind fun x S => ?_) .bad
  split <;> first | exact .ok | exact .bad⟩
end
instance : NeH gAdd := ⟨fun x y S => by
  unfold gAdd
  (repeat' split) <;> first | exact .ok | exact .bad | exact .alloc⟩
instance : NeH gSub := ⟨fun x y S => by
  unfold gSub
  (repeat' split) <;> first | exact .ok | exact .bad | exact .alloc⟩
instance : NeH gMul := ⟨fun x y S => by
  unfold gMul
  (repeat' split) <;> first | exact .ok | exact .bad | exact .alloc⟩
instance : NeH gFdiv := ⟨fun x y S => by
  unfold gFdiv
  (repeat' split) <;> first | exact .ok | exact .bad | exact .alloc⟩
instance : NeH gMod := ⟨fun x y S => by
  unfold gMod
  (repeat' split) <;> first | exact .ok | exact .bad | exact .alloc⟩
instance : NeH gPow := ⟨fun x y S => by
  unfold gPow
  (repeat' split) <;> first | exact .ok | exact .bad | exact .alloc⟩
instance : NeH gEq := ⟨fun x y S => by
  unfold gEq
  (repeat' split) <;> first | exact .ok | exact .bad | exact .alloc⟩
instance : NeH gNe := ⟨fun x y S => by
  unfold gNe
  (repeat' split) <;> first | exact .ok | exact .bad | exact .alloc⟩
instance : NeH gIn := ⟨fun x y S => by
  unfold gIn
  (repeat' split) <;> first | exact .ok | exact .bad | exact .alloc⟩
instance : NeH gNotIn := ⟨fun x y S => by
  unfold gNotIn
  (repeat' split) <;> first | exact .ok | exact .bad | exact .alloc⟩
instance : NeH gInD := ⟨fun x y S => by
  unfold gInD
  (repeat' split) <;> first | exact .ok | exact .bad | exact .alloc⟩
instance : NeH gNotInD := ⟨fun x y S => by
  unfold gNotInD
  (repeat' split) <;> first | exact .ok | exact .bad | exact .alloc⟩
instance : NeH gIx := ⟨fun x y S => by
  unfold gIx
  (repeat' split) <;> first | exact .ok | exact .bad | exact .alloc⟩
instance : NeH gDx := ⟨fun x y S => by
  unfold gDx
  (repeat' split) <;> first | exact .ok | exact .bad | exact .alloc⟩
instance : NeH mAppend := ⟨fun x y S => by
  unfold mAppend
  (repeat' split) <;> first | exact .ok | exact .bad | exact .alloc⟩
instance : NeH mExtend := ⟨fun x y S => by
  unfold mExtend
  (repeat' split) <;> first | exact .ok | exact .bad | exact .alloc⟩
instance : NeH mPop := ⟨fun x y S => by
  unfold mPop
  (repeat' split) <;> first | exact .ok | exact .bad | exact .alloc⟩
instance : NeH mJoin := ⟨fun x y S => by
  unfold mJoin
  (repeat' split) <;> first | exact .ok | exact .bad | exact .alloc⟩
instance : NeH mSplit := ⟨fun x y S => by
  unfold mSplit
  (repeat' split) <;> first | exact .ok | exact .bad | exact .alloc⟩
instance : NeH gInT := ⟨fun x y S => by
  unfold gInT
  (repeat' split) <;> first | exact .ok | exact .bad | exact .alloc⟩
instance : NeH gNotInT := ⟨fun x y S => by
  unfold gNotInT
  (repeat' split) <;> first | exact .ok | exact .bad | exact .alloc⟩
instance : NeH gMulT := ⟨fun x y S => by
  unfold gMulT
  (repeat' split) <;> first | exact .ok | exact .bad | exact .alloc⟩
instance : NeH gMulU := ⟨fun x y S => by
  unfold gMulU
  (repeat' split) <;> first | exact .ok | exact .bad | exact .alloc⟩
instance : NeH gNotTr := ⟨fun x y S => by
  unfold gNotTr
  (repeat' split) <;> first | exact .ok | exact .bad | exact .alloc⟩
instance {p : Int → Int → Bool} : NeH (gCmp p) := ⟨fun x y S => by
  unfold gCmp
  (repeat' split) <;> first | exact .ok | exact .bad | exact .alloc⟩
instance : NeH gLt := ⟨fun x y S => NeH.out (g := gCmp _) x y S⟩
instance : NeH gLe := ⟨fun x y S => NeH.out (g := gCmp _) x y S⟩
instance : NeH gGt := ⟨fun x y S => NeH.out (g := gCmp _) x y S⟩
instance : NeH gGe := ⟨fun x y S => NeH.out (g := gCmp _) x y S⟩
instance : NeG gNeg := ⟨fun x S => by
  unfold gNeg
  (repeat' split) <;> first | exact .ok | exact .bad | exact .alloc⟩
instance : NeG gIsN := ⟨fun x S => by
  unfold gIsN
  (repeat' split) <;> first | exact .ok | exact .bad | exact .alloc⟩
instance : NeG gNotN := ⟨fun x S => by
  unfold gNotN
  (repeat' split) <;> first | exact .ok | exact .bad | exact .alloc⟩
instance : NeG gNotTrue := ⟨fun x S => by
  unfold gNotTrue
  (repeat' split) <;> first | exact .ok | exact .bad | exact .alloc⟩
instance : NeG mPopLast := ⟨fun x S => by
  unfold mPopLast
  (repeat' split) <;> first | exact .ok | exact .bad | exact .alloc⟩
instance {k : Kind} : NeG (gIs k) := ⟨fun x S => by
  unfold gIs
  (repeat' split) <;> first | exact .ok | exact .bad | exact .alloc⟩
instance {t : List (D × D)} : NeG (kIx t) := ⟨fun x S => by
  unfold kIx
  (repeat' split) <;> first | exact .ok | exact .bad | exact .alloc⟩
instance {t : List (D × D)} : NeG (kIn t) := ⟨fun x S => by
  unfold kIn
  (repeat' split) <;> first | exact .ok | exact .bad | exact .alloc⟩
instance {t : List (D × D)} : NeG (kNotIn t) := ⟨fun x S => by
  unfold kNotIn
  (repeat' split) <;> first | exact .ok | exact .bad | exact .alloc⟩
instance {t : List (D × D)} : NeH (kGet t) := ⟨fun x y S => by
  unfold kGet
  (repeat' split) <;> first | exact .ok | exact .bad | exact .alloc⟩
instance {c f : Nat} : NeG (gFld c f) := ⟨fun x S => by
  unfold gFld
  (repeat' split) <;> first | exact .ok | exact .bad | exact .alloc⟩
instance : NeF fLen := ⟨fun xs S => by
  unfold fLen
  (repeat' split) <;> first | exact .ok | exact .bad | exact .alloc⟩
instance : NeF fInt := ⟨fun xs S => by
  unfold fInt
  (repeat' split) <;> first | exact .ok | exact .bad | exact .alloc⟩
instance : NeF fMin := ⟨fun xs S => by
  unfold fMin
  (repeat' split) <;> first | exact .ok | exact .bad | exact .alloc⟩
instance : NeF fMax := ⟨fun xs S => by
  unfold fMax
  (repeat' split) <;> first | exact .ok | exact .bad | exact .alloc⟩
instance : NeF fList := ⟨fun xs S => by
  unfold fList
  (repeat' split) <;> first | exact .ok | exact .bad | exact .alloc⟩
instance : NeF fTuple := ⟨fun xs S => by
  unfold fTuple
  (repeat' split) <;> first | exact .ok | exact .bad | exact .alloc⟩
instance : NeF fSortedI := ⟨fun xs S => by
  unfold fSortedI
  (repeat' split) <;> first | exact .ok | exact .bad | exact .alloc⟩
instance : NeF fSortedP := ⟨fun xs S => by
  unfold fSortedP
  (repeat' split) <;> first | exact .ok | exact .bad | exact .alloc⟩
instance : NeF fSortedSet := ⟨fun xs S => by
  unfold fSortedSet
  (repeat' split) <;> first | exact .ok | exact .bad | exact .alloc⟩
instance : NeF fLenSet := ⟨fun xs S => by
  unfold fLenSet
  (repeat' split) <;> first | exact .ok | exact .bad | exact .alloc⟩
instance : NeF fLenSetI := ⟨fun xs S => by
  unfold fLenSetI
  (repeat' split) <;> first | exact .ok | exact .bad | exact .alloc⟩
instance : NeF fStr := ⟨fun xs S => by
  unfold fStr
  (repeat' split) <;> first | exact .ok | exact .bad | exact .alloc⟩
instance : NeF fStrA := ⟨fun xs S => by
  unfold fStrA
  (repeat' split) <;> first | exact .ok | exact .bad | exact .alloc⟩
instance : NeF fIntT := ⟨fun xs S => by
  unfold fIntT
  (repeat' split) <;> first | exact .ok | exact .bad | exact .alloc⟩
instance : NeF fSortedSetL := ⟨fun xs S => by
  unfold fSortedSetL
  (repeat' split) <;> first | exact .ok | exact .bad | exact .alloc⟩
end PF
end
section
set_option linter.all false
set_option Elab.async false
set_option linter.all false
set_option maxRecDepth 100003
set_option maxHeartbeats 2000003
set_option autoImplicit false
namespace PF
open PySem PySem.Spec PyProof.Rows L2
theorem bind_err {α β : Type} {o : Out α} {k : α → M β} {e : Exc} {S' : Sto} (h : o.bind k = .err e S') : o = .err e S' ∨ ∃ a S1, o = .ok a S1 ∧ k a S1 = .err e S' := by
  cases o with
  | ok a S1 => exact .inr ⟨a, S1, rfl, h⟩
  | err e1 S1 => cases h; exact .inl rfl
  | bad => cases h
section
variable (nm : Nm) (K : PySem.W.Frag) (mg : Str → Option Value)
/-- the object of an error -/
def RelZ (M : List Addr) (H : Hp) (e : Exc) (cls : Value) (d : Option Addr) : Prop :=
  (∃ C, cls = .ref C ∧ mg (nm.cls e.c) = some (.ref C)) ∧ match e.row with
    | none => d = none
    | some r => ∃ dd v, d = some dd ∧ H dd = some (.xd [("row", v)]) ∧ RelD K M H r v
/-- an error's way out -/
def EX (M : List Addr) (H : Hp) (S' : Sto) (e : Exc) (W : XK) : Prop := ∀ M' H' cls d, Ext M H M' H' → RelS nm K mg M' S' H' → RelZ nm K mg M' H' e cls d → W cls d H'
/-- a def's promise, errors too -/
def spX (n : Nat) (f : Fn) : Sp := fun vs H Q W => ∃ M S ds, RelS nm K mg M S H ∧ RelDs K M H ds vs ∧ vs.length = n ∧
  ((∃ d S', f ds S = .ok d S' ∧ ∀ M' H' v, Ext M H M' H' → RelS nm K mg M' S' H' → RelD K M' H' d v → Q v H') ∨ ∃ e S', f ds S = .err e S' ∧ EX nm K mg M H S' e W)
end
section
variable (nm : Nm) (X : Cx) (W : XK)
def rEX (f : E) : TE := fun σ H Q => ∃ M ρ S, RelS nm X.K X.mg M S H ∧ RelE X.K M H ρ σ ∧ ((∃ d S', f ρ S = .ok d S' ∧ KD nm X M H S' d Q) ∨ ∃ e S', f ρ S = .err e S' ∧ EX nm X.K X.mg M H S' e W)
def rSX (f : St) : TS := fun D σ H => ∃ M ρ S, RelS nm X.K X.mg M S H ∧ RelE X.K M H ρ σ ∧ ((∃ r S', f ρ S = .ok r S' ∧ KS nm X M H S' r D) ∨ ∃ e S', f ρ S = .err e S' ∧ EX nm X.K X.mg M H S' e W)
abbrev PXX (s : Stmt) (f : St) : Prop := PS X s (rSX nm X W f)
abbrev PXXs (s : List Stmt) (f : St) : Prop := PSs X s (rSX nm X W f)
/-- the def's errors are taken -/
abbrev TkX : Prop := Takes X (fun cls d _ H => W cls d H)
end
section
variable {nm : Nm} {X : Cx} {W : XK} {M M1 : List Addr} {H H1 : Hp} {S S' : Sto} {e : Exc}
theorem EX.ext {K : PySem.W.Frag} {mg : Str → Option Value} (k : EX nm K mg M H S' e W) (x : Ext M H M1 H1) : EX nm K mg M1 H1 S' e W := fun M2 H2 c d x2 r q => k M2 H2 c d (x.trans x2) r q
theorem xs_lift {st : Stmt} {f : St} [ne : NeS f] (h : PXS nm X st f) : PXX nm X W st f :=
  PS.imp h fun σ H D ⟨M, ρ, S, rs, re, q⟩ => by
    rcases q with ⟨r, S', h, k⟩ | ⟨e, S', h, _⟩
    · exact ⟨M, ρ, S, r, S', rs, re, h, k⟩
    · exact absurd h (ne.out ρ S e S')
theorem xss_lift {st : List Stmt} {f : St} [ne : NeS f] (h : PXSs nm X st f) : PXXs nm X W st f :=
  PSs.imp h fun σ H D ⟨M, ρ, S, rs, re, q⟩ => by
    rcases q with ⟨r, S', h, k⟩ | ⟨e, S', h, _⟩
    · exact ⟨M, ρ, S, r, S', rs, re, h, k⟩
    · exact absurd h (ne.out ρ S e S')
theorem xss_one {st : Stmt} {a : St} (h1 : PXX nm X W st a) : PXXs nm X W [st] a := pss_one h1
theorem xss_cons {st : Stmt} {rest : List Stmt} {a b : St} (h1 : PXX nm X W st a) (h2 : PXXs nm X W rest b) : PXXs nm X W (st :: rest) (sSeq a b) :=
  PSs.imp (pss_cons h1 h2) fun σ H D ⟨M, ρ, S, rs, re, q⟩ => by
    refine ⟨M, ρ, S, rs, re, ?_⟩
    rcases q with ⟨r, S', h, k⟩ | ⟨e, S', h, k⟩
    · unfold sSeq at h
      obtain ⟨r1, S1, h1, h⟩ := bind_inv h
      refine .inl ⟨r1, S1, h1, fun M1 H1 σ1 e1 rs1 re1 => ?_⟩
      cases ef : r1.1 with
      | nx =>
        rw [ef] at h
        exact ⟨M1, r1.2, S1, rs1, re1, .inl ⟨r, S', h, fun M2 H2 σ2 e2 => k M2 H2 σ2 (e1.trans e2)⟩⟩
      | bk => rw [ef] at h; cases h; exact k M1 H1 σ1 e1 rs1 re1
      | ct => rw [ef] at h; cases h; exact k M1 H1 σ1 e1 rs1 re1
      | rt d => rw [ef] at h; cases h; exact k M1 H1 σ1 e1 rs1 re1
    · unfold sSeq at h
      rcases bind_err h with h1 | ⟨r1, S1, h1, h⟩
      · exact .inr ⟨e, S', h1, k⟩
      · refine .inl ⟨r1, S1, h1, fun M1 H1 σ1 e1 rs1 re1 => ?_⟩
        cases ef : r1.1 with
        | nx =>
          rw [ef] at h
          exact ⟨M1, r1.2, S1, rs1, re1, .inr ⟨e, S', h, k.ext e1⟩⟩
        | bk => rw [ef] at h; cases h
        | ct => rw [ef] at h; cases h
        | rt d => rw [ef] at h; cases h
theorem xs_if {c : Expr} {a b : List Stmt} {t : T} {f g : St} {pos : Pos} [ne : NeT t] (hc : PXT nm X c t) (ha : PXXs nm X W a f) (hb : PXXs nm X W b g) : PXX nm X W (.If c a b pos) (sIf t f g) :=
  PS.imp (ps_if hc ha hb) fun σ H D ⟨M, ρ, S, rs, re, q⟩ => by
    have key : ∃ cb S1, t ρ S = .ok cb S1 ∧ ((∃ r S', (if cb = true then f ρ S1 else g ρ S1) = .ok r S' ∧ KS nm X M H S' r D) ∨ ∃ e S', (if cb = true then f ρ S1 else g ρ S1) = .err e S' ∧ EX nm X.K X.mg M H S' e W) := by
      rcases q with ⟨r, S', h, k⟩ | ⟨e, S', h, k⟩
      · unfold sIf at h
        obtain ⟨cb, S1, h1, h⟩ := bind_inv h
        exact ⟨cb, S1, h1, .inl ⟨r, S', h, k⟩⟩
      · unfold sIf at h
        rcases bind_err h with h1 | ⟨cb, S1, h1, h⟩
        · exact absurd h1 (ne.out ρ S e S')
        · exact ⟨cb, S1, h1, .inr ⟨e, S', h, k⟩⟩
    obtain ⟨cb, S1, h1, q⟩ := key
    refine rT.go rs re h1 fun M1 H1 e1 r1 => ?_
    have go : ∀ b : St, ((∃ r S', b ρ S1 = .ok r S' ∧ KS nm X M H S' r D) ∨ ∃ e S', b ρ S1 = .err e S' ∧ EX nm X.K X.mg M H S' e W) → rSX nm X W b D σ H1 := fun b q => by
      refine ⟨M1, ρ, S1, r1, re.ext rs e1, ?_⟩
      rcases q with ⟨r, S', h, k⟩ | ⟨e, S', h, k⟩
      · exact .inl ⟨r, S', h, fun M2 H2 σ2 e2 => k M2 H2 σ2 (e1.trans e2)⟩
      · exact .inr ⟨e, S', h, k.ext e1⟩
    cases cb with
    | true => exact iteT (go f q)
    | false => exact iteF (go g q)
theorem xs_for {iter tg : Expr} {body : List Stmt} {f : I} {tgg : TG} {g : G} {is : List Nat} {b : St} {pos : Pos} [ne : NeI f] (hp : PassesOwn (model X.prog X.w) X.A X.env X.xe) (hc : X.calm = true) (hi : PXI nm X tg iter f) (hg : PG X tg tgg) (ok : GOk nm X tgg g is) (hb : PXXs nm X W body b)
    (hs : ∀ x, foldedSetIterable iter X.env x = pure x) : PXX nm X W (.For tg iter body [] pos) (sFor f g b) :=
  PS.imp (ps_for hp hc hi hg hb hs) fun σ H D ⟨M, ρ, S, rs, re, q⟩ => by
    -- the loop's end, either way
    have key : ∃ it S1, f ρ S = .ok it S1 ∧ ((∃ r S', forLoop it g b it.all ρ S1 = .ok r S' ∧ KS nm X M H S' r D) ∨ ∃ e S', forLoop it g b it.all ρ S1 = .err e S' ∧ EX nm X.K X.mg M H S' e W) := by
      rcases q with ⟨r, S', h, k⟩ | ⟨e, S', h, k⟩
      · unfold sFor at h
        obtain ⟨it, S1, h1, h⟩ := bind_inv h
        exact ⟨it, S1, h1, .inl ⟨r, S', h, k⟩⟩
      · unfold sFor at h
        rcases bind_err h with h1 | ⟨it, S1, h1, h⟩
        · exact absurd h1 (ne.out ρ S e S')
        · exact ⟨it, S1, h1, .inr ⟨e, S', h, k⟩⟩
    obtain ⟨it, S1, h1, q⟩ := key
    refine ⟨M, ρ, S, it, S1, rs, re, h1, fun M1 H1 J e1 r1 w => ?_⟩
    refine ⟨fun i m σ H2 => m = it.all.length - i ∧ i ≤ it.all.length ∧ ∃ M2 ρ2 S2, Ext M1 H1 M2 H2 ∧ RelS nm X.K X.mg M2 S2 H2 ∧ RelE X.K M2 H2 ρ2 σ ∧ ((∃ r S', forLoop it g b (it.all.drop i) ρ2 S2 = .ok r S' ∧ KS nm X M H S' r D) ∨ ∃ e S', forLoop it g b (it.all.drop i) ρ2 S2 = .err e S' ∧ EX nm X.K X.mg M H S' e W), ⟨_, rfl, Nat.zero_le _, M1, ρ, S1, Ext.refl, r1, re.ext rs e1, q⟩, ?_⟩
    rintro i m σ2 H2 ⟨rfl, hi, M2, ρ2, S2, e2, r2, re2, hl⟩
    by_cases hlt : i < it.all.length
    · have hd : it.all.drop i = it.all[i] :: it.all.drop (i + 1) := List.drop_eq_getElem_cons hlt
      rw [hd] at hl
      have c : it.same S2 = true := by
        rcases hl with ⟨r, S', hl, k⟩ | ⟨e, S', hl, k⟩ <;> unfold forLoop at hl <;> split at hl <;> first | assumption | cases hl
      unfold forLoop at hl
      rw [if_pos c] at hl
      refine .inr ⟨w.go i M2 H2 S2 e2 r2 c hlt, _, fun σ' H' n => n, fun x H3 y => ?_⟩
      obtain ⟨e3, r3, q3⟩ := w.yld i it.all[i] M2 H2 S2 x H3 e2 r2 c (by simp [hlt]) y
      cases eg : g it.all[i] ρ2 with
      | none =>
        rw [eg] at hl
        rcases hl with ⟨r, S', hl, k⟩ | ⟨e, S', hl, k⟩ <;> cases hl
      | some ρ1 =>
        rw [eg] at hl
        refine ok M2 H3 S2 _ x ρ2 ρ1 σ2 _ r3 q3 (re2.ext r2 e3) eg fun σ1 re1 _ => ?_
        refine ⟨M2, ρ1, S2, r3, re1, ?_⟩
        rcases hl with ⟨r, S', hl, k⟩ | ⟨e, S', hl, k⟩
        · dsimp only at hl
          obtain ⟨rr, S3, h3, hl⟩ := bind_inv hl
          refine .inl ⟨rr, S3, h3, fun M4 H4 σ4 e4 r4 re4 => ?_⟩
          have ee := (e2.trans e3).trans e4
          split <;> rename_i ef
          · rw [ef] at hl
            exact ⟨it.all.length - (i + 1), by omega, rfl, hlt, M4, rr.2, S3, ee, r4, re4, .inl ⟨r, S', hl, k⟩⟩
          · rw [ef] at hl
            cases hl
            exact k M4 H4 σ4 (e1.trans ee) r4 re4
          · rw [ef] at hl
            exact ⟨it.all.length - (i + 1), by omega, rfl, hlt, M4, rr.2, S3, ee, r4, re4, .inl ⟨r, S', hl, k⟩⟩
          · rw [ef] at hl
            cases hl
            exact k M4 H4 σ4 (e1.trans ee) r4 re4
        · dsimp only at hl
          rcases bind_err hl with h3 | ⟨rr, S3, h3, hl⟩
          · exact .inr ⟨e, S', h3, k.ext ((e1.trans e2).trans e3)⟩
          · refine .inl ⟨rr, S3, h3, fun M4 H4 σ4 e4 r4 re4 => ?_⟩
            have ee := (e2.trans e3).trans e4
            split <;> rename_i ef
            · rw [ef] at hl
              exact ⟨it.all.length - (i + 1), by omega, rfl, hlt, M4, rr.2, S3, ee, r4, re4, .inr ⟨e, S', hl, k⟩⟩
            · rw [ef] at hl
              cases hl
            · rw [ef] at hl
              exact ⟨it.all.length - (i + 1), by omega, rfl, hlt, M4, rr.2, S3, ee, r4, re4, .inr ⟨e, S', hl, k⟩⟩
            · rw [ef] at hl
              cases hl
    · have ei : i = it.all.length := by omega
      have hd : it.all.drop i = [] := by rw [ei]; exact List.drop_length
      rw [hd] at hl
      rcases hl with ⟨r, S', hl, k⟩ | ⟨e, S', hl, k⟩
      · unfold forLoop at hl
        split at hl
        · rename_i c
          cases hl
          exact .inl ⟨w.stop i M2 H2 _ e2 r2 c ei.symm, k M2 H2 σ2 (e1.trans e2) r2 re2⟩
        · cases hl
      · unfold forLoop at hl
        split at hl <;> cases hl
end
end PF
end
section
set_option linter.all false
set_option Elab.async false
set_option linter.all false
set_option maxRecDepth 100003
set_option maxHeartbeats 2000003
set_option autoImplicit false
namespace PF
open PySem PySem.Spec PyProof.Rows L2
section
variable {nm : Nm} {X : Cx} {W : XK} {M M1 : List Addr} {H H1 : Hp} {S S' : Sto} {e : Exc}
theorem callX_read {f : Fn} {a : A} {n : Nat} [ne : NeA a] (hl : ALen a n) {σ : L2.St} {H : Hp} {Q : VK} (h : rEX nm X W (eCall f a) σ H Q) : tCallS (spX nm X.K X.mg n f) (fun _ => W) (rA nm X a) σ H Q := by
  obtain ⟨M, ρ, S, rs, re, q⟩ := h
  have key : ∃ xs S1, a ρ S = .ok xs S1 ∧ ((∃ d S', f xs S1 = .ok d S' ∧ KD nm X M H S' d Q) ∨ ∃ e S', f xs S1 = .err e S' ∧ EX nm X.K X.mg M H S' e W) := by
    rcases q with ⟨d, S', h, k⟩ | ⟨e, S', h, k⟩
    · unfold eCall at h
      obtain ⟨xs, S1, h1, h⟩ := bind_inv h
      exact ⟨xs, S1, h1, .inl ⟨d, S', h, k⟩⟩
    · unfold eCall at h
      rcases bind_err h with h1 | ⟨xs, S1, h1, h⟩
      · exact absurd h1 (ne.out ρ S e S')
      · exact ⟨xs, S1, h1, .inr ⟨e, S', h, k⟩⟩
  obtain ⟨xs, S1, h1, q⟩ := key
  refine rA.go rs re h1 fun M1 H1 vs e1 r1 q1 => ?_
  refine ⟨M1, S1, xs, r1, q1, by rw [← q1.length]; exact hl _ _ _ _ h1, ?_⟩
  rcases q with ⟨d, S', h, k⟩ | ⟨e, S', h, k⟩
  · exact .inl ⟨d, S', h, fun M2 H2 v e2 r2 q2 => k M2 H2 v (e1.trans e2) r2 q2⟩
  · exact .inr ⟨e, S', h, k.ext e1⟩
theorem xe_call {k : Nat} {g : Addr} {fd : FuncData} {ps : List Str} {x : Str} {p pos : Pos} {e : Expr} {es : List Expr} {f : Fn} {a : A} {n : Nat} [ne : NeA a] (F : FnOk X.prog X.w X.K X.mg X.base (L2.CX X.prog X.w) k g fd ps (spX nm X.K X.mg n f)) (tk : TkX X W) (hl : ALen a n) (hr : Room k X.A) (hg : Gl X x) (hm : X.mg x = some (.ref g)) (hk : PySem.W.keepIn X.K (.ref g) = true) (hb : Binds X.K fd ps [])
    (ha : PXA nm X (e :: es) a) (hdb : (x == ("__debug__" : Str)) = false) (he : starEach (e :: es) X.env = (false, eval e X.env) :: starEach es X.env) (hpl : (backTo pos (starEach es X.env)).any (·.1) = false) : PE X (.Call (.Name x p) (e :: es) [] pos) (rEX nm X W (eCall f a)) :=
  PE.imp (pe_callS F hr hg hm hk hb (fun σ => fun pins H s e s' I c => tk e s' (XE.of_call I (fun _ _ _ h => h) c)) ha hdb he hpl) fun σ H Q h => callX_read hl h
/-- what is known of a def that may raise -/
def CalX (nm : Nm) (P : Program) (w : World) (K : PySem.W.Frag) (mg : Str → Option Value) (base : Heap) (k : Nat) (x : Str) (ps : List Str) (f : Fn) : Prop :=
  ∃ (g : Addr) (fd : FuncData), FnOk P w K mg base (L2.CX P w) k g fd ps (spX nm K mg ps.length f) ∧ mg x = some (.ref g) ∧ PySem.W.keepIn K (.ref g) = true ∧ Binds K fd ps []
theorem wx_call {k : Nat} {x : Str} {ps : List Str} {p pos : Pos} {e : Expr} {es : List Expr} {f : Fn} {a : A} [ne : NeA a] (C : CalX nm X.prog X.w X.K X.mg X.base k x ps f) (tk : TkX X W) (hl : ALen a ps.length) (hr : Room k X.A) (hg : Gl X x)
    (ha : PXA nm X (e :: es) a) (hdb : (x == ("__debug__" : Str)) = false) (he : starEach (e :: es) X.env = (false, eval e X.env) :: starEach es X.env) (hpl : (backTo pos (starEach es X.env)).any (·.1) = false) : PE X (.Call (.Name x p) (e :: es) [] pos) (rEX nm X W (eCall f a)) := by
  obtain ⟨g, fd, F, hm, hk, hb⟩ := C
  exact xe_call F tk hl hr hg hm hk hb ha hdb he hpl
theorem rEX.go {f : E} {P : VK} {ρ : Env} {σ : L2.St} (r : RelS nm X.K X.mg M S H) (re : RelE X.K M H ρ σ) (h : (∃ d S', f ρ S = .ok d S' ∧ ∀ M1 H1 v, Ext M H M1 H1 → RelS nm X.K X.mg M1 S' H1 → RelD X.K M1 H1 d v → P v H1) ∨ ∃ e S', f ρ S = .err e S' ∧ EX nm X.K X.mg M H S' e W) : rEX nm X W f σ H P :=
  ⟨M, ρ, S, r, re, by
    rcases h with ⟨d, S', h, k⟩ | h
    · exact .inl ⟨d, S', h, fun M1 H1 v e1 r1 q1 => k M1 H1 v e1 r1 q1⟩
    · exact .inr h⟩
theorem xs_expr {e : Expr} {f : E} {pos : Pos} (he : PE X e (rEX nm X W f)) (hs : swapsWith e none pos.line X.env = pure false) : PXX nm X W (.Expr e pos) (sExpr f) :=
  PS.imp (ps_expr he hs) fun σ H D ⟨M, ρ, S, rs, re, q⟩ => by
    refine rEX.go rs re ?_
    rcases q with ⟨r, S', h, k⟩ | ⟨e, S', h, k⟩
    · unfold sExpr at h
      obtain ⟨x, S1, h1, h⟩ := bind_inv h
      cases h
      exact .inl ⟨x, _, h1, fun M1 H1 v e1 r1 q1 => k M1 H1 σ e1 r1 (re.ext rs e1)⟩
    · unfold sExpr at h
      rcases bind_err h with h1 | ⟨xs, S1, h1, h⟩
      · exact .inr ⟨e, S', h1, k⟩
      · cases h
/-- BoxError.__init__(self, ..) -/
theorem pe_boxinit {B : Addr} {bx : Str} {p1 p2 pos : Pos} {e : Expr} {es : List Expr} {ta : TA} {pl : Sem Bool} (hg : Gl X bx) (hm : X.mg bx = some (.ref B)) (rB : PySem.W.readsIn X.K B (.type "type") = true) (sB : PySem.W.specialIn X.K (.ref B) "__getattribute__" = some (some (.builtin "type.__getattribute__"))) (vB : PySem.W.findCls X.K (.ref B) (.type "type") "__init__" = some (.val (.builtin "ValueError.__init__"))) (ha : PA X (e :: es) ta)
    (hdb : (bx == ("__debug__" : Str)) = false)
    (hc : eval (.Call (.Attribute (.Name bx p1) "__init__" p2) (e :: es) [] pos) X.env = (do
      let ov ← eval (.Name bx p1) X.env
      standAt p2.atName
      let (f, first) ← holding [ov] (getMethod ov "__init__" pl)
      callWith pos f first (backTo pos (starEach (e :: es) X.env)) (backToKw pos (keywordEach [] X.env))) := by rfl)
    (he : starEach (e :: es) X.env = (false, eval e X.env) :: starEach es X.env := by rfl) (hpl : (backTo pos (starEach es X.env)).any (·.1) = false := by rfl) :
    PE X (.Call (.Attribute (.Name bx p1) "__init__" p2) (e :: es) [] pos) (tVeI X.K ta) := by
  refine ⟨fun pins s σ H Q I h => ?_⟩
  refine PySem.W.methodCall_KW (ld_glob I hg hm ?_ hdb) hc
  refine PySem.W.method_cls I.kIn sB (PySem.W.cls_value I.kIn rB vB (by decide +kernel) ?_)
  show wpAny _ _ (callWith pos (Value.builtin "ValueError.__init__") [] (backTo pos (starEach (e :: es) X.env)) []) _ _ _
  refine PyProof.Rows.callWith_method1 (thn (ha.run pos pins _ σ H _ (I.tok _) h) fun us s1 ⟨vs, H1, I1, r1, a, C, ws, ev, hl, T, ea, q⟩ => ?_) he hpl
  subst ev
  cases r1 with
  | @cons _ u0 _ ur ra rw' =>
    obtain rfl : u0 = Value.ref a := ra
    have hlen : ur.length ≤ sizeLine := by
      rw [← Paired.length rw', sizeLine_eq]
      omega
    exact oinit_ok T I1 ea hlen fun s' J => ⟨.non, H1, J, rfl, q⟩
/-- __init__(self, row) of a class of errors at C -/
def spInit (C : Addr) : Sp := fun vs H Q _ => ∃ a v, vs = [.ref a, v] ∧ H a = some (exo a C none) ∧ ∀ dx, H dx = none → dx ≠ a → Q .non (upd (upd H dx (exd dx [("row", v)])) a (exo a C (some dx)))
theorem spInit_len {C : Addr} {vs : List V} {H : Hp} {Q : VK} {E : XK} (h : spInit C vs H Q E) : vs.length = 2 := by
  obtain ⟨a, v, rfl, _⟩ := h
  rfl
/-- raise X(row) -/
theorem xs_raiseR {x : Str} {c k : Nat} {C fI : Addr} {fd : FuncData} {p pos pos' : Pos} {e : Expr} {f : E} [ne : NeE f] (hc : X.calm = true) (tk : TkX X W) (ex : x = nm.cls c) (T : OexC X.K C) (iC : PySem.W.findIn X.K (.ref C) "__init__" = some (some (.ref fI))) (tI : PySem.W.typeIn X.K (.ref fI) = some (.type "function"))
    (F1 : FnOk X.prog X.w X.K X.mg X.base CX0 k fI fd ["self", "row"] (spInit C)) (hr : Room (k + 1) X.A) (hb : Binds X.K fd ["self", "row"] []) (hg : Gl X x) (hm : X.mg x = some (.ref C)) (ha : PX nm X e f) (hdb : (x == ("__debug__" : Str)) = false)
    (he : starEach [e] X.env = (false, eval e X.env) :: starEach [] X.env) (hpl : (backTo pos (starEach [] X.env)).any (·.1) = false) :
    PXX nm X W (.Raise (some (.Call (.Name x p) [e] [] pos)) none pos') (sRaise c (aCons f aNil)) :=
  PS.imp (ps_raise hc tk (pmk_oex (dvs := []) T iC tI F1 hr hb .nil pass0 hg hm (pa_cons ha pa_nil he) hdb he hpl)) fun σ H D ⟨M, ρ, S, rs, re, q⟩ => by
    rcases q with ⟨r, S', h, k⟩ | ⟨e, S', h, k⟩
    · unfold sRaise at h
      obtain ⟨xs, S1, h1, h⟩ := bind_inv h
      cases h
    · unfold sRaise at h
      rcases bind_err h with h1 | ⟨xs, S1, h1, h⟩
      · exact absurd h1 (NeA.out (f := aCons f aNil) ρ S e S')
      · cases h
        unfold aCons at h1
        obtain ⟨d, S2, h2, h1⟩ := bind_inv h1
        unfold aNil at h1
        obtain ⟨ys, S3, h3, h1⟩ := bind_inv h1
        cases h3
        cases h1
        refine rE.go rs re h2 fun M1 H1 v e1 r1 q1 => ?_
        refine ⟨by simp, fun a ha' => ⟨a, v, rfl, upd_same, fun dx hd nd => ?_⟩⟩
        rw [upd_ne nd] at hd
        refine ⟨rfl, dx, [("row", v)], upd_same, by rw [upd_ne nd, upd_same], hd, ?_⟩
        have eH : upd (del (upd (upd (upd H1 a (exo a C none)) dx (exd dx [("row", v)])) a (exo a C (some dx))) a) dx (.xd [("row", v)]) = upd H1 dx (.xd [("row", v)]) := by
          funext b
          by_cases b1 : b = dx
          · rw [b1, upd_same, upd_same]
          · rw [upd_ne b1, upd_ne b1]
            by_cases b2 : b = a
            · rw [b2, del_same, ha']
            · rw [del_ne b2, upd_ne b2, upd_ne b1, upd_ne b2]
        rw [eH]
        have e2 : Ext M1 H1 M1 (upd H1 dx (.xd [("row", v)])) := Ext.tup hd
        exact k M1 _ (.ref C) (some dx) (e1.trans e2) (r1.tup hd) ⟨⟨C, rfl, by rw [← ex]; exact hm⟩, dx, v, rfl, upd_same, RelD.ext r1 e2 q1⟩
end
end PF
end
section
set_option linter.all false
set_option Elab.async false
set_option linter.all false
set_option maxRecDepth 100003
set_option maxHeartbeats 2000003
set_option autoImplicit false
namespace PF
open PySem PySem.Spec PyProof.Rows L2
theorem lenX {nm : Nm} {K : PySem.W.Frag} {mg : Str → Option Value} {n : Nat} {f : Fn} {vs : List V} {H : Hp} {Q : VK} {E : XK} (h : spX nm K mg n f vs H Q E) : vs.length = n := let ⟨_, _, _, _, _, e, _⟩ := h; e
theorem start_rel {K : PySem.W.Frag} {M : List Addr} {H : Hp} {N : List Str} {ds : List D} {vs : List V} (q : RelDs K M H ds vs) (hN : ds.length ≤ N.length) : RelE K M H (ds.map some ++ List.replicate (N.length - ds.length) none) (L2.start N vs) := by
  unfold L2.start
  rw [← q.length]
  refine ⟨by simp [← q.length], fun i d hi => ?_⟩
  by_cases hlt : i < ds.length
  · rw [List.getElem?_append_left (by simpa using hlt), List.getElem?_map] at hi
    cases e : ds[i]? with
    | none => rw [e] at hi; cases hi
    | some d' =>
      rw [e] at hi
      cases hi
      obtain ⟨v, h1, h2⟩ := q.get e
      refine ⟨v, ?_, h2⟩
      rw [List.getElem?_append_left (by rw [List.length_map, ← q.length]; exact hlt), List.getElem?_map, h1]
      rfl
  · rw [List.getElem?_append_right (by simpa using hlt), List.getElem?_replicate] at hi
    split at hi <;> cases hi
theorem fnx_ok {nm : Nm} {P : Program} {w : World} {K : PySem.W.Frag} {mg : Str → Option Value} {base : Heap} {x qual : Str} {st : Stmt} {f : Addr} {fd : FuncData} {N ps : List Str} {k : Nat} {b : St} (F : Fun K x qual st f fd) (Sc : FnScope N ps (defScope st))
    (hb : ∀ (cdv : Value) (A : Around) (outer : List PySem.Env) (s : Shared) (H : Hp) (E : XK), Room k (A.deeper (PyProof.Rows.envOfC qual (defScope st) s.heap.objs.size f cdv)) → TkX (cxOf (L2.CX P w) P w K mg base N qual (defScope st) f cdv A outer s H E) E → PXXs nm (cxOf (L2.CX P w) P w K mg base N qual (defScope st) f cdv A outer s H E) E (defBody st) b) :
    FnOk P w K mg base (L2.CX P w) (k + 1) f fd ps (spX nm K mg ps.length (fn N.length b)) := by
  refine F.okX Sc (fun vs H Q E h => lenX h) (fun cdv A outer s H vs Q E hr h => ⟨_, hb cdv A outer s H E hr (takes_of rfl rfl rfl rfl), ?_⟩)
  obtain ⟨M, S, ds, rs, q, hl, h⟩ := h
  have hN : ps.length ≤ N.length := by have := congrArg List.length Sc.pre; rw [List.length_take] at this; omega
  have hdl : ds.length ≤ N.length := by rw [q.length, hl]; exact hN
  refine ⟨M, ds.map some ++ List.replicate (N.length - ds.length) none, S, rs, start_rel q hdl, ?_⟩
  rcases h with ⟨d, S', h, k⟩ | ⟨e, S', h, k⟩
  · unfold fn at h
    rw [if_pos hdl] at h
    obtain ⟨r, S1, h1, h⟩ := bind_inv h
    refine .inl ⟨r, S1, h1, fun M1 H1 σ1 e1 r1 re1 => ?_⟩
    cases ef : r.1 with
    | nx => rw [ef] at h; cases h; exact k M1 H1 .non e1 r1 .mkN
    | rt d' => rw [ef] at h; cases h; exact fun v qv => k M1 H1 v e1 r1 qv
    | bk => rw [ef] at h; cases h
    | ct => rw [ef] at h; cases h
  · unfold fn at h
    rw [if_pos hdl] at h
    rcases bind_err h with h1 | ⟨r, S1, h1, h⟩
    · exact .inr ⟨e, S', h1, k⟩
    · cases ef : r.1 with
      | nx => rw [ef] at h; cases h
      | rt d' => rw [ef] at h; cases h
      | bk => rw [ef] at h; cases h
      | ct => rw [ef] at h; cases h
/-- __init__ of a class of errors -/
theorem init_ok {P : Program} {w : World} {K : PySem.W.Frag} {mg : Str → Option Value} {base : Heap} {x qual bx : Str} {st : Stmt} {f C B : Addr} {fd : FuncData} {m : Str} {j : Nat} {p1 p2 p3 p4 p5 p6 p7 p8 p9 p10 : Pos} (F : Fun K x qual st f fd) (Sc : FnScope ["self", "row"] ["self", "row"] (defScope st)) (T : OexC K C)
    (hst : defBody st = [.Expr (.Call (.Attribute (.Name bx p1) "__init__" p2) [.Name "self" p3, .Constant (.str m) j p4] [] p5) p6, .Assign [.Attribute (.Name "self" p7) "row" p8] (.Name "row" p9) p10])
    (hg : (defScope st).names.lookup bx = some .globalImplicit) (hv0 : Vis (defScope st) "self") (hv1 : Vis (defScope st) "row") (hm : mg bx = some (.ref B)) (rB : PySem.W.readsIn K B (.type "type") = true) (sB : PySem.W.specialIn K (.ref B) "__getattribute__" = some (some (.builtin "type.__getattribute__"))) (vB : PySem.W.findCls K (.ref B) (.type "type") "__init__" = some (.val (.builtin "ValueError.__init__")))
    (hno : PySem.W.findIn K (.ref C) "row" = some none) (hdb : (bx == ("__debug__" : Str)) = false) {pl : Nat → Value → Sem Bool}
    (hc : ∀ (n : Nat) (cdv : Value), eval (.Call (.Attribute (.Name bx p1) "__init__" p2) [.Name "self" p3, .Constant (.str m) j p4] [] p5) (PyProof.Rows.envOfC qual (defScope st) n f cdv) = (do
      let ov ← eval (.Name bx p1) (PyProof.Rows.envOfC qual (defScope st) n f cdv)
      standAt p2.atName
      let (f', first) ← holding [ov] (getMethod ov "__init__" (pl n cdv))
      callWith p5 f' first (backTo p5 (starEach [.Name "self" p3, .Constant (.str m) j p4] (PyProof.Rows.envOfC qual (defScope st) n f cdv))) (backToKw p5 (keywordEach [] (PyProof.Rows.envOfC qual (defScope st) n f cdv))))) :
    FnOk P w K mg base CX0 1 f fd ["self", "row"] (spInit C) := by
  refine F.ok Sc (fun vs H Q E h => spInit_len h) (fun cdv A outer s H vs Q E hr h => ?_)
  have hp := pss_cons (X := (cxOf CX0 P w K mg base ["self", "row"] qual (defScope st) f cdv A outer s H E).nox) (ps_expr (pos := p6) (pe_boxinit (pos := p5) (p1 := p1) (p2 := p2) hg hm rB sB vB (pa_cons (pe_var (pos := p3) (i := 0) rfl hv0) (pa_cons (pe_str (x := m) (j := j) (pos := p4)) pa_nil)) hdb (hc s.heap.objs.size cdv)) rfl) (pss_one (ps_ost (p' := p8) (pos := p10) (f := "row") (pe_var (pos := p7) (i := 0) rfl hv0) (pe_var (pos := p9) (i := 1) rfl hv1) rfl))
  rw [hst]
  refine ⟨_, hp, ?_⟩
  obtain ⟨a, v, rfl, ha, q⟩ := h
  exact ⟨.ref a, rfl, a, C, [.str m], rfl, by simp, T, ha, v, rfl, .ref a, rfl, a, C, rfl, T, hno, .inl ⟨ha, fun dx h1 h2 => q dx h1 h2⟩⟩
end PF
end
section
set_option linter.all false
set_option Elab.async false
set_option linter.all false
set_option maxRecDepth 100003
set_option maxHeartbeats 4000003
set_option autoImplicit false
namespace PF
open PySem PySem.Spec PySem.Calls PyProof.Rows PySem.W
section
variable {prog : Program} {w : World} {A : Around} {E : Value → Shared → Prop} {s : Shared} {K : Frag} {x D : Addr} {ox : Obj} {od : Option Obj}
theorem findObj_data {C : Addr} {name : Str} {a g : Value} (hc : (clsIn K C).isSome = true) (ha : findIn K (.ref C) name = some (some a)) (hg : specialIn K a "__get__" = some (some g)) (ht : takesIn K a = some true) : findObj K C od name = some (.bind g a) := by
  obtain ⟨cd, hc⟩ := Option.isSome_iff_exists.mp hc
  unfold findObj
  rw [hc, Option.bind_some, ha, Option.bind_some]
  simp [hg, ht]
theorem exc_class {Q : Option Value → Shared → Prop} (T : L2.ExcC K D) (X : K.In s.heap) (I : InstAt s.heap x ox D od) (h : Q (some (.ref D)) { s with toks := s.toks + 1 }) : wpAny (model prog w) A (getAttr? (.ref x) "__class__") Q E s := by
  have hf : findObj K D od "__class__" = some (.bind (.builtin "getset_descriptor.__get__") (.builtin "object.__class__")) := findObj_data (by obtain ⟨cd, hc, _⟩ := any_some T.hd; rw [hc]; rfl) T.ha T.hn T.ht
  obtain ⟨hp, g, d, t, os⟩ := s
  have L0 := I.type (M := model prog w)
  have L1 := looks_findIn (M := model prog w) X T.hg
  have L2 := looks_findIn (M := model prog w) X T.hk
  have L3 := looks_find (M := model prog w) X I hf
  have sub : Looks (model prog w) hp (isInstance (.ref x) (.type "BaseException")) true := L0.andThen (looks_subIn X T.hs)
  have hx0 : (false && onTheHeap (Value.builtin "BaseException.__getattribute__")) = false := rfl
  have hx2 : (Value.builtin "BaseException.__getattribute__" == Value.builtin "object.__getattribute__") = false := by decide +kernel
  have hx1 : (onTheHeap (Value.ref D) && Value.builtin "BaseException.__getattribute__" == Value.builtin "object.__getattribute__") = false := by rw [hx2]; rfl
  unfold getAttr? getAttrBy? getAttrBy
  refine wpAny_bind (wpAny_mkText (wpAny_bind (wpAny_attempt (wpAny_holding (wpAny_bind (L0.at (wpAny_bind (L1.at ?_))))))))
  show wpAny _ _ (if (onTheHeap (Value.ref D) && Value.builtin "BaseException.__getattribute__" == Value.builtin "object.__getattribute__") = true then _ else _) _ _ _
  rw [hx1, if_neg Bool.false_ne_true]
  unfold getAttrByItsOwn hookBefore
  refine wpAny_bind ?_
  rw [if_pos (show onTheHeap (Value.ref D) = true from rfl)]
  refine L2.at ?_
  refine wpAny_bind (wpAny_attempt (wpAny_holding ?_))
  unfold callGetattribute
  rw [hx0, if_neg Bool.false_ne_true]
  unfold boundAndCalled
  rw [PySem.F.excAttr_ValueError.ga.bind (.ref x)]
  refine wpAny_bind (wpAny_pure ?_)
  show wpAny _ _ (call (.builtin "BaseException.__getattribute__") [.ref x, .str "__class__" t]) _ _ _
  refine wpAny_call (codeAny_call_builtin PySem.F.excAttr_ValueError.ga.plain PySem.F.entry_bexc_ga ?_)
  refine @check_slot (model prog w) _ _ ⟨hp, g, d, t + 1, os⟩ "BaseException.__getattribute__" "BaseException" "__getattribute__" (.ref x) [.str "__class__" t] [] _ (by decide +kernel) (by decide +kernel) sub (PySem.F.args_bexc_ga (.ref x) (.str "__class__" t)) ?_
  unfold Builtin.«object.__getattribute__»
  refine wpAny_bind (wpAny_of_eq (a := ((Value.ref x : Value), [Value.str "__class__" t])) (by first | rfl | (simp only [slotArgs]; rfl)) ?_)
  refine wpAny_bind (wpAny_pure (wpAny_bind (L0.at (wpAny_bind (L3.at ?_)))))
  show wpAny _ _ (holding [Value.builtin "object.__class__"] (call (.builtin "getset_descriptor.__get__") [.builtin "object.__class__", .ref x, .ref D]) >>= ret) _ _ _
  refine wpAny_bind (wpAny_holding (wpAny_call (class_get (s := ⟨hp, g, d, t + 1, os⟩) (ox := ox) (od := od) X I T.hm ?_)))
  refine wpAny_pure ?_
  show wpAny _ _ (handedOut (.ref D)) _ _ _
  rw [handedOut_of (v := .ref D) rfl]
  first
    | exact wpAny_pure (wpAny_pure h)
    | exact wpAny_pure h
    | exact wpAny_pure (wpAny_bind (wpAny_pure (wpAny_pure h)))
theorem kit_exc (T : L2.ExcC K D) : KitX K (.ref x) (.ref D) (fun h => ∃ od, InstAt h x ox D od) where
  ty := fun _ _ _ ⟨_, I⟩ => I.type
  it := fun _ _ X _ => by
    obtain ⟨cdD, hcD, _⟩ := any_some T.hd
    unfold clsIn at hcD
    split at hcD
    · rename_i c' d' cd' sl' ho
      intro A' Q' E' s' k q
      unfold isType loadHead
      exact wpAny_bind (wpAny_loadPart (k _ _ (X _ _ ho)) (wpAny_pure q))
    · cases hcD
  ne := fun h tp dd its n sl X htp => by
    obtain ⟨cdD, hcD, _⟩ := any_some T.hd
    refine Bool.eq_false_iff.mpr fun q => ?_
    have e : D = tp := Value.ref.inj (beq_iff_eq.mp q)
    subst e
    unfold clsIn at hcD
    split at hcD
    · rename_i c' d' cd' sl' ho
      have z := (X _ _ ho).symm.trans htp
      cases z
    · cases hcD
  ca := fun X ⟨_, I⟩ k => exc_class T X I k
end
open L2
/-- what stands of the caught error's dict -/
def DictSt (d : Option Addr) (H : Hp) : Prop := ∀ dd, d = some dd → ∃ fs, H dd = some (.xd fs)
def rIsX (K : PySem.W.Frag) (D a : Addr) (d : Option Addr) : List V → Hp → VK → Prop := fun xs H Q => DictSt d H ∧ ∃ (c : V) (cv : Value) (b : Bool), xs = [.ref a, c] ∧ (∀ u, RelV c u → u = cv) ∧ PySem.W.kitOne K (.ref D) cv = some b ∧ Q (.bl b) H
theorem call_isX {X : Cx} {a D : Addr} {d : Option Addr} {oe : Obj} {pn : List (Addr × Obj)} (C : ExcC X.K D) (hz : Zc (.ref D) d oe) (hf : ∃ vs, oe.data = .fields vs) : CallR (X.suite a ((a, oe) :: pn)) (.builtin "isinstance") (rIsX X.K D a d) := by
  intro pins s σ H xs us Q I r h
  obtain ⟨hds, c, cv, b, rfl, hcv, e, q⟩ := h
  cases r with
  | cons rx rr =>
    cases rr with
    | cons rt rr =>
      cases rr
      cases rx
      have ec := hcv _ rt
      subst ec
      obtain ⟨hget, _⟩ := I.pin (a, oe) (List.mem_append.mpr (.inl List.mem_cons_self))
      obtain ⟨vs, hv⟩ := hf
      have J : ∃ od, PySem.W.InstAt s.heap a oe D od := by
        cases d with
        | none => exact ⟨none, ⟨hget, hz.1, by unfold PySem.W.notCls; rw [hv] <;> rfl, by rw [hz.2]; trivial⟩⟩
        | some dd =>
          obtain ⟨fs, ea⟩ := hds dd rfl
          have hx : ObjOk X.prog X.w H s.heap dd (.xd fs) := I.hok dd _ ea
          obtain ⟨mA, hns, hr⟩ := hx
          obtain ⟨od, ho, hl⟩ := L2.lookIn_ns hns
          exact ⟨some od, ⟨hget, hz.1, by unfold PySem.W.notCls; rw [hv] <;> rfl, by rw [hz.2]; exact ho⟩⟩
      exact PySem.W.kia_one (kit_exc C) I.kIn J e (fun z => nomatch z) fun tk => ⟨.bl b, H, I.kept (t' := tk) fun _ _ z => z, rfl, q⟩
end PF
end
section
set_option linter.all false
set_option Elab.async false
set_option linter.all false
set_option maxRecDepth 100003
set_option maxHeartbeats 4000003
set_option autoImplicit false
namespace PF
open PySem PySem.Spec PyProof.Rows L2
section
variable {X : Cx}
def rCntB (K : PySem.W.Frag) : V → List V → Hp → VK → Prop := fun x xs H Q => ∃ (p : Addr) (bs : List Bool) (k : Bool), x = .ref p ∧ xs = [.bl k] ∧ SqL K H p (bs.map V.bl) ∧ Q (.int (bs.count k : Nat)) H
theorem count_bls (k : Bool) : ∀ {bs : List Bool} {us : List Value}, Vals (bs.map V.bl) us → us.countP (eqU (.bl k)) = bs.count k
  | [], us, r => by
    cases r
    rfl
  | b :: bs, us, r => by
    cases r with
    | cons ru rr =>
      rename_i u us'
      rw [List.countP_cons, List.count_cons, count_bls k rr, eqU_of ru (by rfl)]
      have : eqV (.bl b) (.bl k) = (b == k) := by cases b <;> cases k <;> rfl
      rw [this]
theorem flat_bls (bs : List Bool) : (bs.map V.bl).all flatV = true := by
  rw [List.all_map, List.all_eq_true]
  intro b _
  rfl
theorem mt_countB : MtR X "list.count" (rCntB X.K) := by
  intro pins s σ H x xs v us Q I rx rxs h
  obtain ⟨p, bs, k, rfl, rfl, hs, q⟩ := h
  cases rx
  obtain ⟨u, rfl, ru⟩ := rxs.one
  obtain ⟨its, rv, ⟨⟨cls, dd, data, sl⟩, n, ho, hc, hdn, hd⟩, hlen⟩ := I.list hs
  simp only at hc hd
  subst hc hd
  refine call_meets PySem.F.slot_list_count ⟨_, ho, rfl⟩ PySem.F.entry_list_count (PySem.F.args_list_count_2 _ _)
    (SeqAt.list_countAt p its.toArray n dd sl u (eqU (.bl k))) ⟨ho, fun y hy => mem_eqAt ru rfl rv (flat_bls bs) y (by simpa using hy), ?_⟩
  have ec : its.toArray.toList.countP (eqU (.bl k)) = bs.count k := by
    show its.countP _ = _
    exact count_bls k rv
  refine ⟨.int (bs.count k : Nat), H, I.tok _, ⟨s.toks, ?_⟩, q⟩
  show Value.int ((its.toArray.toList.countP (eqU (.bl k)) : Nat) : Int) s.toks = Value.int ((bs.count k : Nat) : Int) s.toks
  rw [ec]
end
end PF
end
section
set_option linter.all false
set_option Elab.async false
set_option linter.all false
set_option maxRecDepth 100003
set_option maxHeartbeats 4000003
set_option autoImplicit false
namespace PF
open PySem PySem.Spec PyProof.Rows L2
/-- the nine classes of refusals, as told works through them -/
structure Nine where
  c0 : Addr
  c1 : Addr
  c2 : Addr
  c3 : Addr
  c4 : Addr
  c5 : Addr
  c6 : Addr
  c7 : Addr
  c8 : Addr
section
variable (K : PySem.W.Frag) (D a : Addr) (d : Option Addr)
def tIsX (c : V) : TE := tCB (rIsX K D a d) (tCons (tVar 1) (tCons (tC c) tNil))
def tTold (C : Nine) : TS :=
  tSeq (tAsg (tLst (tCons (tIsX K D a d (.ref C.c0)) (tCons (tIsX K D a d (.ref C.c1)) (tCons (tIsX K D a d (.ref C.c2)) (tCons (tIsX K D a d (.ref C.c3)) tNil))))) (L2.gName 2))
  (tSeq (tAsg (tOp rCat (tVar 2) (tLst (tCons (tIsX K D a d (.ref C.c4)) (tCons (tIsX K D a d (.ref C.c5)) (tCons (tIsX K D a d (.ref C.c6)) tNil))))) (L2.gName 2))
  (tSeq (tAsg (tOp rCat (tVar 2) (tLst (tCons (tIsX K D a d (.ref C.c7)) (tCons (tIsX K D a d (.ref C.c8)) tNil)))) (L2.gName 2))
  (tSeq (tIfS (L2.tOr (tB (tNeI (tBM K "list" (rCntB K) (tVar 2) (tCons (tC (.bl true)) tNil)) (tC (.int 1)))) (L2.tNot (tB (tIsX K D a d (.ty "ValueError"))))) (tRet (tTup (tCons (tC (.str "other")) (tCons (tC (.int 0)) tNil)))) tNext)
  (tSeq (tAsg (tLst (tCons (tC (.str "BadChoice")) (tCons (tC (.str "BadCount")) (tCons (tC (.str "BadFrame")) (tCons (tC (.str "BadGiven")) (tCons (tC (.str "BadPaper")) (tCons (tC (.str "BadProgram")) (tCons (tC (.str "BadText")) (tCons (tC (.str "NoRoom")) tNil))))))))) (L2.gName 3))
  (tSeq (tAsg (tOp (rIxL K) (tOp rCat (tVar 3) (tLst (tCons (tC (.str "TooMany")) tNil))) (tBM K "list" (rIndex K) (tVar 2) (tCons (tC (.bl true)) tNil))) (L2.gName 4))
  (tRet (tTup (tCons (tVar 4) (tCons (L2.tIf (tTest (tOp (rIn K false) (tVar 4) (tTup (tCons (tC (.str "BadChoice")) (tCons (tC (.str "BadPaper")) (tCons (tC (.str "BadProgram")) (tCons (tC (.str "BadText")) tNil))))))) (tXf a (.ref D) d D "row" (tVar 1)) (tC (.int 0))) tNil)))))))))
end
/-- the class's place among the nine -/
structure NineAt (K : PySem.W.Frag) (C : Nine) (D : Addr) (i : Nat) : Prop where
  k0 : PySem.W.kitOne K (.ref D) (.ref C.c0) = some (decide (i = 0))
  k1 : PySem.W.kitOne K (.ref D) (.ref C.c1) = some (decide (i = 1))
  k2 : PySem.W.kitOne K (.ref D) (.ref C.c2) = some (decide (i = 2))
  k3 : PySem.W.kitOne K (.ref D) (.ref C.c3) = some (decide (i = 3))
  k4 : PySem.W.kitOne K (.ref D) (.ref C.c4) = some (decide (i = 4))
  k5 : PySem.W.kitOne K (.ref D) (.ref C.c5) = some (decide (i = 5))
  k6 : PySem.W.kitOne K (.ref D) (.ref C.c6) = some (decide (i = 6))
  k7 : PySem.W.kitOne K (.ref D) (.ref C.c7) = some (decide (i = 7))
  k8 : PySem.W.kitOne K (.ref D) (.ref C.c8) = some (decide (i = 8))
  kv : PySem.W.kitOne K (.ref D) (.type "ValueError") = some true
  lt : i < 9
def nineWords : List Str := ["BadChoice", "BadCount", "BadFrame", "BadGiven", "BadPaper", "BadProgram", "BadText", "NoRoom", "TooMany"]
def nineBits (i : Nat) : List Bool := (List.range 9).map fun k => decide (i = k)
/-- those that keep a row -/
def nineRow (i : Nat) : Bool := i == 0 || i == 4 || i == 5 || i == 6
/-- nothing else goes -/
def Grown (H H' : Hp) : Prop := ∀ b o, H b = some o → H' b = some o
theorem Grown.refl {H : Hp} : Grown H H := fun _ _ h => h
theorem Grown.upd {H H' : Hp} (g : Grown H H') {p : Addr} {o : HO} (n : H' p = none) : Grown H (upd H' p o) := fun b u e => by
  have := g b u e
  rw [upd_ne (fun z => by rw [z, n] at this; cases this)]
  exact this
section
variable {K : PySem.W.Frag} {D a : Addr} {d : Option Addr} {C : Nine} {σ : L2.St} {H H0 : Hp} {Q : VK}
theorem isX_ok {c : V} {cv : Value} {b : Bool} (h1 : σ[1]? = some (some (.ref a))) (ds : DictSt d H) (k : PySem.W.kitOne K (.ref D) cv = some b) (r : ∀ u, RelV c u → u = cv) (q : Q (.bl b) H) : tIsX K D a d c σ H Q :=
  ⟨.ref a, h1, ds, c, cv, b, rfl, r, k, q⟩
theorem ref_only {c : Addr} : ∀ u, RelV (.ref c) u → u = .ref c := fun _ h => h
theorem grown_dict (g : Grown H0 H) (ds : DictSt d H0) : DictSt d H := fun dd e => by
  obtain ⟨fs, h⟩ := ds dd e
  exact ⟨fs, g _ _ h⟩
theorem told_ok {i : Nat} {v : V} (A : NineAt K C D i) (hl : 5 ≤ σ.length) (h1 : σ[1]? = some (some (.ref a))) (ds : DictSt d H) (hr : nineRow i = true → ∃ dd fs, d = some dd ∧ H dd = some (.xd fs) ∧ fs.lookup ("row" : Str) = some v) {D' : Ends}
    (q : ∀ H' p, Grown H H' → H p = none → H' p = some (.tup [.str (nineWords.getD i ""), if nineRow i then v else .int 0]) → D'.rt (.ref p) H') : tTold K D a d C D' σ H := by
  have ln : ∀ n : Nat, n ≤ 100 → n ≤ sizeLine := fun n h => by rw [sizeLine_eq]; omega
  unfold tTold
  refine isX_ok h1 ds A.k0 ref_only (isX_ok h1 ds A.k1 ref_only (isX_ok h1 ds A.k2 ref_only (isX_ok h1 ds A.k3 ref_only ⟨ln 4 (by decide), fun p1 n1 => ?_⟩)))
  have g1 : Grown H (upd H p1 (.lst [.bl (decide (i = 0)), .bl (decide (i = 1)), .bl (decide (i = 2)), .bl (decide (i = 3))])) := Grown.refl.upd n1
  have at1 : upd H p1 (.lst [.bl (decide (i = 0)), .bl (decide (i = 1)), .bl (decide (i = 2)), .bl (decide (i = 3))]) p1 = some (.lst [.bl (decide (i = 0)), .bl (decide (i = 1)), .bl (decide (i = 2)), .bl (decide (i = 3))]) := upd_same
  generalize upd H p1 (.lst [.bl (decide (i = 0)), .bl (decide (i = 1)), .bl (decide (i = 2)), .bl (decide (i = 3))]) = H1 at *
  have s1 : (σ.set 2 (some (.ref p1)))[1]? = some (some (.ref a)) := by rw [List.getElem?_set_ne (by decide)]; exact h1
  have s2 : (σ.set 2 (some (.ref p1)))[2]? = some (some (.ref p1)) := List.getElem?_set_self (by omega)
  have l1 : 5 ≤ (σ.set 2 (some (.ref p1))).length := by rw [List.length_set]; exact hl
  refine ⟨.ref p1, s2, ?_⟩
  generalize σ.set 2 (some (V.ref p1)) = σ1 at *
  refine isX_ok s1 (grown_dict g1 ds) A.k4 ref_only (isX_ok s1 (grown_dict g1 ds) A.k5 ref_only (isX_ok s1 (grown_dict g1 ds) A.k6 ref_only ⟨ln 3 (by decide), fun p2 n2 => ?_⟩))
  refine ⟨p1, p2, _, _, rfl, rfl, (upd_ne (ne_of_none at1 n2)).trans at1, upd_same, ln 7 (by decide), fun p3 n3 => ?_⟩
  have g3 := (g1.upd (o := .lst [.bl (decide (i = 4)), .bl (decide (i = 5)), .bl (decide (i = 6))]) n2).upd (o := .lst ([V.bl (decide (i = 0)), .bl (decide (i = 1)), .bl (decide (i = 2)), .bl (decide (i = 3))] ++ [.bl (decide (i = 4)), .bl (decide (i = 5)), .bl (decide (i = 6))])) n3
  have at3 : upd (upd H1 p2 (.lst [.bl (decide (i = 4)), .bl (decide (i = 5)), .bl (decide (i = 6))])) p3 (.lst ([V.bl (decide (i = 0)), .bl (decide (i = 1)), .bl (decide (i = 2)), .bl (decide (i = 3))] ++ [.bl (decide (i = 4)), .bl (decide (i = 5)), .bl (decide (i = 6))])) p3 = some (.lst ([V.bl (decide (i = 0)), .bl (decide (i = 1)), .bl (decide (i = 2)), .bl (decide (i = 3))] ++ [.bl (decide (i = 4)), .bl (decide (i = 5)), .bl (decide (i = 6))])) := upd_same
  generalize upd (upd H1 p2 (.lst [.bl (decide (i = 4)), .bl (decide (i = 5)), .bl (decide (i = 6))])) p3 (.lst ([V.bl (decide (i = 0)), .bl (decide (i = 1)), .bl (decide (i = 2)), .bl (decide (i = 3))] ++ [.bl (decide (i = 4)), .bl (decide (i = 5)), .bl (decide (i = 6))])) = H3 at *
  have s3 : (σ1.set 2 (some (.ref p3)))[1]? = some (some (.ref a)) := by rw [List.getElem?_set_ne (by decide)]; exact s1
  have s4 : (σ1.set 2 (some (.ref p3)))[2]? = some (some (.ref p3)) := List.getElem?_set_self (by omega)
  have l3 : 5 ≤ (σ1.set 2 (some (.ref p3))).length := by rw [List.length_set]; exact l1
  refine ⟨.ref p3, s4, ?_⟩
  generalize σ1.set 2 (some (V.ref p3)) = σ3 at *
  refine isX_ok s3 (grown_dict g3 ds) A.k7 ref_only (isX_ok s3 (grown_dict g3 ds) A.k8 ref_only ⟨ln 2 (by decide), fun p4 n4 => ?_⟩)
  refine ⟨p3, p4, _, _, rfl, rfl, (upd_ne (ne_of_none at3 n4)).trans at3, upd_same, ln 9 (by decide), fun p5 n5 => ?_⟩
  have eb : ([V.bl (decide (i = 0)), .bl (decide (i = 1)), .bl (decide (i = 2)), .bl (decide (i = 3))] ++ [.bl (decide (i = 4)), .bl (decide (i = 5)), .bl (decide (i = 6))]) ++ [.bl (decide (i = 7)), .bl (decide (i = 8))] = (nineBits i).map V.bl := rfl
  rw [eb]
  have g5 := (g3.upd (o := .lst [.bl (decide (i = 7)), .bl (decide (i = 8))]) n4).upd (o := .lst ((nineBits i).map V.bl)) n5
  have at5 : upd (upd H3 p4 (.lst [.bl (decide (i = 7)), .bl (decide (i = 8))])) p5 (.lst ((nineBits i).map V.bl)) p5 = some (.lst ((nineBits i).map V.bl)) := upd_same
  generalize upd (upd H3 p4 (.lst [.bl (decide (i = 7)), .bl (decide (i = 8))])) p5 (.lst ((nineBits i).map V.bl)) = H5 at *
  have s5 : (σ3.set 2 (some (.ref p5)))[1]? = some (some (.ref a)) := by rw [List.getElem?_set_ne (by decide)]; exact s3
  have s6 : (σ3.set 2 (some (.ref p5)))[2]? = some (some (.ref p5)) := List.getElem?_set_self (by omega)
  have l5 : 5 ≤ (σ3.set 2 (some (.ref p5))).length := by rw [List.length_set]; exact l3
  have q5 : SqL K H5 p5 ((nineBits i).map V.bl) := SqL.of at5
  have ty5 : tyV K "list" (.ref p5) H5 := .inl ⟨rfl, _, q5⟩
  have cnt : (nineBits i).count true = 1 := by
    have := A.lt
    have : ∀ j, j < 9 → (nineBits j).count true = 1 := by decide
    exact this i A.lt
  refine ⟨.ref p5, s6, ty5, p5, nineBits i, true, rfl, rfl, q5, ?_⟩
  generalize σ3.set 2 (some (V.ref p5)) = σ5 at *
  have e0 : (!decide (((List.count true (nineBits i) : Nat) : Int) = 1)) = false := by rw [cnt]; rfl
  refine ⟨_, _, rfl, rfl, false, congrArg V.bl e0, ?_⟩
  refine iteF ?_
  refine isX_ok s5 (grown_dict g5 ds) A.kv (fun _ h => h) ⟨true, rfl, ?_⟩
  refine iteF ?_
  -- the words
  refine ⟨ln 8 (by decide), fun p6 n6 => ?_⟩
  have g6 := g5.upd (o := .lst [.str "BadChoice", .str "BadCount", .str "BadFrame", .str "BadGiven", .str "BadPaper", .str "BadProgram", .str "BadText", .str "NoRoom"]) n6
  have a6 : upd H5 p6 (.lst [.str "BadChoice", .str "BadCount", .str "BadFrame", .str "BadGiven", .str "BadPaper", .str "BadProgram", .str "BadText", .str "NoRoom"]) p6 = _ := upd_same
  have b6 : upd H5 p6 (.lst [.str "BadChoice", .str "BadCount", .str "BadFrame", .str "BadGiven", .str "BadPaper", .str "BadProgram", .str "BadText", .str "NoRoom"]) p5 = some (.lst ((nineBits i).map V.bl)) := (upd_ne (ne_of_none at5 n6)).trans at5
  generalize upd H5 p6 (.lst [.str "BadChoice", .str "BadCount", .str "BadFrame", .str "BadGiven", .str "BadPaper", .str "BadProgram", .str "BadText", .str "NoRoom"]) = H6 at *
  have s7 : (σ5.set 3 (some (.ref p6)))[3]? = some (some (.ref p6)) := List.getElem?_set_self (by omega)
  have s8 : (σ5.set 3 (some (.ref p6)))[2]? = some (some (.ref p5)) := by rw [List.getElem?_set_ne (by decide)]; exact s6
  have s9 : (σ5.set 3 (some (.ref p6)))[1]? = some (some (.ref a)) := by rw [List.getElem?_set_ne (by decide)]; exact s5
  have l6 : 5 ≤ (σ5.set 3 (some (.ref p6))).length := by rw [List.length_set]; exact l5
  refine ⟨.ref p6, s7, ln 1 (by decide), fun p7 n7 => ?_⟩
  generalize σ5.set 3 (some (V.ref p6)) = σ6 at *
  refine ⟨p6, p7, _, _, rfl, rfl, (upd_ne (ne_of_none a6 n7)).trans a6, upd_same, ln 9 (by decide), fun p8 n8 => ?_⟩
  have g8 := (g6.upd (o := .lst [.str "TooMany"]) n7).upd (o := .lst (nineWords.map V.str)) n8
  have a8 : upd (upd H6 p7 (.lst [.str "TooMany"])) p8 (.lst (nineWords.map V.str)) p8 = some (.lst (nineWords.map V.str)) := upd_same
  have b8 : upd (upd H6 p7 (.lst [.str "TooMany"])) p8 (.lst (nineWords.map V.str)) p5 = some (.lst ((nineBits i).map V.bl)) := by
    have b7 : upd H6 p7 (.lst [.str "TooMany"]) p5 = some (.lst ((nineBits i).map V.bl)) := (upd_ne (ne_of_none b6 n7)).trans b6
    exact (upd_ne (ne_of_none b7 n8)).trans b7
  have ew : [V.str "BadChoice", .str "BadCount", .str "BadFrame", .str "BadGiven", .str "BadPaper", .str "BadProgram", .str "BadText", .str "NoRoom"] ++ [.str "TooMany"] = nineWords.map V.str := rfl
  rw [ew]
  generalize upd (upd H6 p7 (.lst [.str "TooMany"])) p8 (.lst (nineWords.map V.str)) = H8 at *
  have q8 : SqL K H8 p5 ((nineBits i).map V.bl) := SqL.of b8
  have len9 : (nineBits i).length = 9 := by simp [nineBits]
  have bit : ∀ m, m < 9 → (nineBits i)[m]? = some (decide (i = m)) := fun m hm => by
    unfold nineBits
    rw [List.getElem?_map, List.getElem?_range hm]
    rfl
  refine ⟨.ref p5, s8, .inl ⟨rfl, _, q8⟩, p5, (nineBits i).map V.bl, .bl true, i, .bl true, rfl, rfl, q8, rfl, flat_bls _, ?_, rfl, fun m z hm hz => ?_, ?_⟩
  · rw [List.getElem?_map, bit i A.lt]
    simp
  · rw [List.getElem?_map, bit m (Nat.lt_trans hm A.lt)] at hz
    cases hz
    have : decide (i = m) = false := by simp; omega
    rw [this]
    rfl
  have wi : ∃ w, nineWords[i]? = some w ∧ nineWords.getD i "" = w := by
    have hlt : i < nineWords.length := A.lt
    exact ⟨nineWords[i], List.getElem?_eq_getElem hlt, by simp [hlt]⟩
  obtain ⟨w, ew1, ew2⟩ := wi
  rw [ew2] at q
  refine ⟨p8, nineWords.map V.str, (i : Int), .str w, rfl, rfl, SqL.of a8, ?_, ?_⟩
  · exact atI_nat (by rw [List.getElem?_map, ew1]; rfl)
  have t4 : (σ6.set 4 (some (.str w)))[4]? = some (some (.str w)) := List.getElem?_set_self (by omega)
  have t1 : (σ6.set 4 (some (.str w)))[1]? = some (some (.ref a)) := by rw [List.getElem?_set_ne (by decide)]; exact s9
  refine ⟨.str w, t4, ?_⟩
  generalize σ6.set 4 (some (V.str w)) = σ8 at *
  refine ⟨.str w, t4, ln 4 (by decide), fun p9 n9 => ?_⟩
  have g9 := g8.upd (o := .tup [.str "BadChoice", .str "BadPaper", .str "BadProgram", .str "BadText"]) n9
  have a9 : upd H8 p9 (.tup [.str "BadChoice", .str "BadPaper", .str "BadProgram", .str "BadText"]) p9 = _ := upd_same
  generalize upd H8 p9 (.tup [.str "BadChoice", .str "BadPaper", .str "BadProgram", .str "BadText"]) = H9 at *
  have ein : inV (.str w) [.str "BadChoice", .str "BadPaper", .str "BadProgram", .str "BadText"] = nineRow i := by
    have key : ∀ j, j < 9 → ∀ u, nineWords[j]? = some u → inV (.str u) [.str "BadChoice", .str "BadPaper", .str "BadProgram", .str "BadText"] = nineRow j := by
      intro j hj u hu
      have : j = 0 ∨ j = 1 ∨ j = 2 ∨ j = 3 ∨ j = 4 ∨ j = 5 ∨ j = 6 ∨ j = 7 ∨ j = 8 := by omega
      rcases this with rfl | rfl | rfl | rfl | rfl | rfl | rfl | rfl | rfl <;> (cases hu; decide +kernel)
    exact key i A.lt w ew1
  refine ⟨p9, _, rfl, .inr (SqT.of a9), rfl, by decide, _, rfl, ?_⟩
  show (if inV (.str w) [.str "BadChoice", .str "BadPaper", .str "BadProgram", .str "BadText"] = true then _ else _)
  rw [ein]
  have fin : ∀ u : V, (if nineRow i = true then v else .int 0) = u → ((2 : Nat) ≤ sizeLine ∧ ∀ p, H9 p = none → D'.rt (.ref p) (upd H9 p (.tup [.str w, u]))) := fun u hu => by
    refine ⟨ln 2 (by decide), fun p np => q _ p (g9.upd np) ?_ ?_⟩
    · cases e : H p with
      | none => rfl
      | some o => rw [g9 p o e] at np; cases np
    · rw [hu]
      exact upd_same
  cases er : nineRow i with
  | true =>
    obtain ⟨dd, fs, rfl, hd, hl⟩ := hr er
    refine iteT ⟨.ref a, t1, rfl, rfl, dd, fs, v, rfl, g9 _ _ hd, hl, ?_⟩
    exact fin v (by rw [er]; rfl)
  | false =>
    refine iteF ?_
    exact fin (.int 0) (by rw [er]; rfl)
end
end PF
end
section
set_option linter.all false
set_option autoImplicit false
set_option maxRecDepth 100003
set_option linter.all false
namespace PF
/-- BadChoice, BadCount, BadFrame, BadGiven, BadPaper, BadProgram, BadText, NoRoom, TooMany -/
def nineP : List (List Nat) := [
  [66, 97, 100, 67, 104, 111, 105, 99, 101], [66, 97, 100, 67, 111, 117, 110, 116], [66, 97, 100, 70, 114, 97, 109, 101], [66, 97, 100, 71, 105, 118, 101, 110], [66, 97, 100, 80, 97, 112, 101, 114],
  [66, 97, 100, 80, 114, 111, 103, 114, 97, 109], [66, 97, 100, 84, 101, 120, 116], [78, 111, 82, 111, 111, 109], [84, 111, 111, 77, 97, 110, 121]]
def nineR (i : Nat) : Bool := i == 0 || i == 4 || i == 5 || i == 6
/-- the classes of refusals bear the numbers 10 .. 18 -/
def tellX (e : Exc) (S : Sto) : Out D :=
  if 10 ≤ e.c ∧ e.c < 19 then match nineR (e.c - 10), e.row with
    | true, some r => .ok (.tup [.str (nineP.getD (e.c - 10) []), r]) S
    | false, none => .ok (.tup [.str (nineP.getD (e.c - 10) []), .int 0]) S
    | _, _ => .bad
  else .bad
/-- told(lambda: f), while the tables stand at their places -/
def eTold (tabs : List (Nat × Nat)) (f : E) : E := fun ρ S =>
  if tabs.all (fun p => decide (S[p.1]? = some (.ins p.2 []))) = true then match f ρ S with
    | .ok d S' => .ok d S'
    | .err e S' => tellX e S'
    | .bad => .bad
  else .bad
theorem tellX_calm {e : Exc} {S : Sto} : Calm (tellX e S) := by
  unfold tellX
  split
  · split <;> first | exact .ok | exact .bad
  · exact .bad
instance {tabs : List (Nat × Nat)} {f : E} : NeE (eTold tabs f) := ⟨fun ρ S => by
  unfold eTold
  split
  · split
    · exact .ok
    · exact tellX_calm
    · exact .bad
  · exact .bad⟩
end PF
end
section
set_option linter.all false
set_option Elab.async false
set_option linter.all false
set_option maxRecDepth 100003
set_option maxHeartbeats 4000003
set_option autoImplicit false
namespace PF
open PySem PySem.Spec PyProof.Rows L2 LamX
/-- what told asks of a class of refusals -/
structure ErrOk (K : PySem.W.Frag) (N : Nine) (BX D : Addr) (i : Nat) : Prop where
  at_ : NineAt K N D i
  ex : ExcC K D
  xf : XfC K D
  no : PySem.W.findIn K (.ref D) "row" = some none
  box : PySem.W.exmOne K (.ref D) (.ref BX) = some true
/-- what told makes of what it calls -/
def TTold2 (K : PySem.W.Frag) (N : Nine) (BX : Addr) : (XK → Hp → VK → Prop) → Hp → VK → Prop := fun tl H Q =>
  tl (fun cls d H' => ∃ (D : Addr) (i : Nat) (v : V), cls = .ref D ∧ ErrOk K N BX D i ∧ DictSt d H' ∧ (nineRow i = true → ∃ dd fs, d = some dd ∧ H' dd = some (.xd fs) ∧ fs.lookup ("row" : Str) = some v) ∧
    ∀ H'' p, Grown H' H'' → H' p = none → H'' p = some (.tup [.str (nineWords.getD i ""), if nineRow i then v else .int 0]) → Q (.ref p) H'') H Q
section
variable {X : Cx}
theorem told_gives2 {Ng : List Str} {x a en bx q : Str} {sg : Scope} {g BX : Addr} {cdg : Value} {N : Nine} {b₀ : Stmt} {suite : List Stmt} {p1 p2 p3 p4 p7 p8 : Pos} (hln : 5 ≤ Ng.length) (hge : sg.names.lookup bx = some .globalImplicit) (hme : X.mg bx = some (.ref BX)) (hde : (bx == ("__debug__" : Str)) = false)
    (hnd : Ng.Nodup) (h1 : Ng[1]? = some en) (hl1 : (envOfC x sg 0 g cdg).kindOf en = some .local)
    (h0 : ∀ f : Addr, (L2.start Ng [V.ref f])[0]? = some (some (V.ref f)))
    (hsu : ∀ (s : Shared) (H : Hp) (a : Addr) (oe : Obj) (D : Addr) (i : Nat) (d : Option Addr) (pn : List (Addr × Obj)), ErrOk X.K N BX D i → Zc (.ref D) d oe → (∃ vs, oe.data = .fields vs) →
      PSs ((cxOf C8.CX0 X.prog X.w X.K X.mg X.base Ng x sg g cdg X.A X.stack s H C8.E0).nox.suite a ((a, oe) :: pn)) (b₀ :: suite) (tTold X.K D a d N)) :
    GivesTo X Ng x sg g cdg [.Try [.Return (some (.Call (.Name a p1) [] [] p2)) p3] [.ExceptHandler (some (.Name bx p4)) (some en) (b₀ :: suite) p7] [] [] p8] a q (TTold2 X.K N BX) := by
  intro f c' s H Q tl act hc h
  have hgl : Gl (cxOf C8.CX0 X.prog X.w X.K X.mg X.base Ng x sg g cdg X.A X.stack s H C8.E0).nox bx := hge
  refine ⟨_, pss_one (ps_try_as (X := (cxOf C8.CX0 X.prog X.w X.K X.mg X.base Ng x sg g cdg X.A X.stack s H C8.E0).nox) (i := 1) (c := .ref BX)
      (tb := fun W D σ H => ∃ Ech : XK, (∀ cls d σ' H', Ech cls d H' → W cls d σ' H') ∧ σ[0]? = some (some (.ref f)) ∧ H c' = some (CodeO c' q) ∧ tl Ech H D.rt)
      (ts := fun a cls d D σ H => σ.length = Ng.length → ∃ (Dc : Addr) (i : Nat), cls = .ref Dc ∧ ErrOk X.K N BX Dc i ∧ tTold X.K Dc a d N D σ H)
      rfl rfl hnd h1 hl1 ⟨hgl, hde, .inl hme⟩ L2.takes0 (fun W pn xe tk _ => ?_) (fun a oe cls d pn hz hf => ?_)), ?_⟩
  · refine ⟨fun pins s' σ H' D I h' => ?_⟩
    obtain ⟨Ech, hW, e1, e2, e3⟩ := h'
    have hp := act W pn xe Ech p1 p2 tk hW
    have hq := pss_one (ps_ret (pos := p3) hp)
    exact hq.run pins s' σ H' D I ⟨e1, e2, e3⟩
  · refine ⟨fun pins s' σ H' D I h' => ?_⟩
    obtain ⟨Dc, i, rfl, ok, h'⟩ := h' I.len
    exact (hsu s H a oe Dc i d pn ok hz hf).run pins s' σ H' D I h'
  · refine ⟨_, fun cls d σ' H' hE => ?_, h0 f, hc, h⟩
    obtain ⟨D, i, v, rfl, ok, ds, hr, k⟩ := hE
    refine ⟨true, ok.box, fun _ a' ha hl => ⟨D, i, rfl, ok, told_ok ok.at_ (by rw [hl]; exact hln) (List.getElem?_set_self (by rw [List.length_set] at hl; omega)) ds hr fun H'' p g n e => k H'' p g n e⟩, fun z => nomatch z⟩
variable {nm : Nm}
theorem nineW (i : Nat) (h : i < 9) : strOf (nineP.getD i []) = nineWords.getD i "" := by
  have : i = 0 ∨ i = 1 ∨ i = 2 ∨ i = 3 ∨ i = 4 ∨ i = 5 ∨ i = 6 ∨ i = 7 ∨ i = 8 := by omega
  rcases this with rfl | rfl | rfl | rfl | rfl | rfl | rfl | rfl | rfl <;> decide +kernel
/-- the state when a lambda was made -/
theorem lam_state {M : List Addr} {S : Sto} {H H1 : Hp} {tabs : List (Nat × Nat)} {K : PySem.W.Frag} {mg : Str → Option Value} (rs : RelS nm K mg M S H) (hcov : ∀ c ∈ nm.tabs, ∃ n, (n, c) ∈ tabs) (eN : ExtN H H1) (T1 : Tabs (tabs.map fun p => (nm.tab p.2, nm.cls p.2)) H1) : Ext M H M H1 ∧ RelS nm K mg M S H1 := by
  have x : Ext M H M H1 := ⟨⟨[], by simp⟩, fun a _ h n => absurd h n, fun a o e _ t => eN a o e t, fun a q e => eN a _ e codeO_ne, fun a o ps e => eN a _ e (fun _ z => nomatch z)⟩
  refine ⟨x, rs.len, rs.nd, fun n a o h1 h2 => ?_⟩
  have q := rs.obj n a o h1 h2
  have keep : ∀ u, H a = some u → (∀ ps, u ≠ .tbl ps) → H1 a = H a := fun u e t => by rw [eN a u e t, e]
  cases o with
  | lst ds => obtain ⟨vs, e, _⟩ := id q; exact q.mo (x.mo rs) (keep _ e (fun _ z => nomatch z))
  | rol ds => obtain ⟨o, vs, e, _⟩ := id q; exact q.mo (x.mo rs) (keep _ e (fun _ z => nomatch z))
  | dic ds => obtain ⟨vs, e, _⟩ := id q; exact q.mo (x.mo rs) (keep _ e (fun _ z => nomatch z))
  | dit ds => obtain ⟨vs, e, _⟩ := id q; exact q.mo (x.mo rs) (keep _ e (fun _ z => by unfold DitO at z; cases z))
  | rod ds => obtain ⟨o, vs, e, _⟩ := id q; exact q.mo (x.mo rs) (keep _ e (fun _ z => nomatch z))
  | ins c fs =>
    rcases id q with ⟨C, dx, gs, e, _⟩ | ⟨h1, h2, t1, t2, _⟩
    · exact q.mo (x.mo rs) (keep _ e (fun _ z => nomatch z))
    · obtain ⟨m, hm⟩ := hcov c t1
      have z := T1 (nm.tab c, nm.cls c) (List.mem_map.mpr ⟨(m, c), hm, rfl⟩)
      exact .inr ⟨h1, h2, t1, t2, by rw [t2]; exact z⟩
theorem grown_state {M : List Addr} {S : Sto} {H H1 : Hp} {K : PySem.W.Frag} {mg : Str → Option Value} (rs : RelS nm K mg M S H) (g : Grown H H1) : Ext M H M H1 ∧ RelS nm K mg M S H1 := by
  have x : Ext M H M H1 := ⟨⟨[], by simp⟩, fun a _ h n => absurd h n, fun a o e _ t => g a o e, fun a q e => g a _ e, fun a o ps e => g a _ e⟩
  refine ⟨x, rs.len, rs.nd, fun n a o h1 h2 => ?_⟩
  have q := rs.obj n a o h1 h2
  obtain ⟨u, e, _⟩ := rs.has (List.mem_of_getElem? h1)
  exact q.mo (x.mo rs) (by rw [g a u e, e])
theorem px_told {tabs : List (Nat × Nat)} {fb : E} {N : Nine} {BX : Addr} {e : Expr} (hcov : ∀ c ∈ nm.tabs, ∃ n, (n, c) ∈ tabs) (hmg : ∀ p ∈ tabs, X.mg (nm.cls p.2) = none)
    (hnine : ∀ i, i < 9 → ∃ D, X.mg (nm.cls (10 + i)) = some (.ref D) ∧ ErrOk X.K N BX D i)
    (h : PE X e (tLam (tabs.map fun p => (nm.tab p.2, nm.cls p.2)) (TTold2 X.K N BX) (fun W => rEX nm X W fb))) : PX nm X e (eTold tabs fb) :=
  PE.imp h fun σ H Q ⟨M, ρ, S, d, S', rs, re, h, k⟩ => by
    unfold eTold at h
    split at h
    · rename_i hall
      have cell : ∀ p ∈ tabs, S[p.1]? = some (.ins p.2 []) := fun p hp => of_decide_eq_true (List.all_eq_true.mp hall p hp)
      have T0 : Tabs (tabs.map fun p => (nm.tab p.2, nm.cls p.2)) H := fun q hq => by
        obtain ⟨p, hp, rfl⟩ := List.mem_map.mp hq
        obtain ⟨a, ha⟩ := rs.at_ (cell p hp)
        rcases rs.obj _ a _ ha (cell p hp) with ⟨C, dx, gs, _, e2, _⟩ | ⟨_, _, _, t2, t3⟩
        · rw [hmg p hp] at e2
          cases e2
        · rw [← t2]
          exact t3
      refine ⟨T0, fun H1 eN T1 => ?_⟩
      obtain ⟨x1, rs1⟩ := lam_state rs hcov eN T1
      refine ⟨M, ρ, S, rs1, re.ext rs x1, ?_⟩
      cases ef : fb ρ S with
      | ok d1 S1 =>
        rw [ef] at h
        cases h
        exact .inl ⟨d, S', rfl, fun M2 H2 v e2 r2 q2 => k M2 H2 v (x1.trans e2) r2 q2⟩
      | bad => rw [ef] at h; cases h
      | err er S1 =>
        rw [ef] at h
        refine .inr ⟨er, S1, rfl, fun M2 H2 cls dd x2 r2 z => ?_⟩
        dsimp only at h
        unfold tellX at h
        split at h
        · rename_i hc
          obtain ⟨D, hD, ok⟩ := hnine (er.c - 10) (by omega)
          rw [show 10 + (er.c - 10) = er.c by omega] at hD
          obtain ⟨⟨C, rfl, hC⟩, hrow⟩ := z
          rw [hD] at hC
          cases hC
          have wd := nineW (er.c - 10) (by omega)
          split at h
          · rename_i r hn hr
            cases h
            rw [hr] at hrow
            obtain ⟨d2, v, rfl, hd2, hv⟩ := hrow
            refine ⟨D, er.c - 10, v, rfl, ok, fun d3 e3 => ⟨_, by cases e3; exact hd2⟩, fun _ => ⟨d2, _, rfl, hd2, rfl⟩, fun H3 p g np ep => ?_⟩
            obtain ⟨x3, r3⟩ := grown_state r2 g
            refine k M2 H3 _ ((x1.trans x2).trans x3) r3 ?_
            have hn' : nineRow (er.c - 10) = true := hn
            rw [if_pos hn'] at ep
            unfold RelD
            exact ⟨p, _, rfl, SqT.of ep, .cons (by unfold RelD; rw [wd]) (.cons (RelD.ext r2 x3 hv) .nil)⟩
          · rename_i hn hr
            cases h
            rw [hr] at hrow
            have hrow : dd = none := hrow
            subst hrow
            have hn' : ¬ nineRow (er.c - 10) = true := by
              have : nineRow (er.c - 10) = false := hn
              rw [this]
              decide
            refine ⟨D, er.c - 10, .int 0, rfl, ok, fun d3 e3 => (nomatch e3), fun z => absurd z hn', fun H3 p g np ep => ?_⟩
            obtain ⟨x3, r3⟩ := grown_state r2 g
            refine k M2 H3 _ ((x1.trans x2).trans x3) r3 ?_
            rw [if_neg hn'] at ep
            unfold RelD
            exact ⟨p, _, rfl, SqT.of ep, .cons (by unfold RelD; rw [wd]) (.cons .mkI .nil)⟩
          · cases h
        · cases h
    · cases h
theorem callX_ok {f : Fn} {a : A} {n : Nat} (hl : ALen a n) {σ : L2.St} {H : Hp} {Q : VK} (h : rE nm X (eCall f a) σ H Q) : tCall (spX nm X.K X.mg n f) [] E0 (rA nm X a) σ H Q := by
  obtain ⟨M, ρ, S, d, S', rs, re, h, k⟩ := h
  unfold eCall at h
  obtain ⟨xs, S1, h1, h⟩ := bind_inv h
  refine rA.go rs re h1 fun M1 H1 vs e1 r1 q1 => ?_
  rw [List.append_nil]
  exact ⟨M1, S1, xs, r1, q1, by rw [← q1.length]; exact hl _ _ _ _ h1, .inl ⟨d, S', h, fun M2 H2 v e2 r2 q2 => k M2 H2 v (e1.trans e2) r2 q2⟩⟩
/-- a def that may raise, where it does not -/
theorem wd_callX {k : Nat} {x : Str} {ps : List Str} {p pos : Pos} {e : Expr} {es : List Expr} {f : Fn} {a : A} (C : CalX nm X.prog X.w X.K X.mg X.base k x ps f) (hl : ALen a ps.length) (hr : Room k X.A) (hg : Gl X x)
    (ha : PXA nm X (e :: es) a) (hdb : (x == ("__debug__" : Str)) = false) (he : starEach (e :: es) X.env = (false, eval e X.env) :: starEach es X.env) (hpl : (backTo pos (starEach es X.env)).any (·.1) = false) : PX nm X (.Call (.Name x p) (e :: es) [] pos) (eCall f a) := by
  obtain ⟨g, fd, F, hm, hk, hb⟩ := C
  exact PE.imp (pe_call F hr hg hm hk hb .nil passL ha hdb he hpl) fun σ H Q h => callX_ok hl h
end
end PF
end
section
set_option linter.all false
set_option Elab.async false
set_option linter.all false
set_option maxRecDepth 100003
set_option maxHeartbeats 4000003
set_option autoImplicit false
namespace PF
open PySem PySem.Spec PyProof.Rows L2
theorem fn_okC {nm : Nm} {P : Program} {w : World} {K : PySem.W.Frag} {mg : Str → Option Value} {base : Heap} {x qual : Str} {st : Stmt} {f c : Addr} {N ps : List Str} {k : Nat} {b : St} {oc kV doc pm ct : Value} {od an : Option Addr} {osl : Array (Option Value)}
    (lk : K.lookup f = some ⟨oc, od, .func (PySem.W.fnOf x qual (defArgs st) (defBody st) (defScope st) .none kV doc pm an (.ref c) ct), osl⟩) (hcd : PySem.W.codeIn K (.ref c) qual = true) (Sc : FnScope N ps (defScope st))
    (hb : ∀ (A : Around) (outer : List PySem.Env) (s : Shared) (H : Hp) (E : XK), Room k (A.deeper (PyProof.Rows.envOfC qual (defScope st) s.heap.objs.size f (.ref c))) → PXSs nm (cxOf CX0 P w K mg base N qual (defScope st) f (.ref c) A outer s H E).nox (defBody st) b) :
    FnOk P w K mg base CX0 (k + 1) f (PySem.W.fnOf x qual (defArgs st) (defBody st) (defScope st) .none kV doc pm an (.ref c) ct) ps (spF nm K mg ps.length (fn N.length b)) := by
  refine fn_of lk hcd Sc (fun vs H Q E h => len_arg h) (fun A outer s H vs Q E hr h => ⟨_, (hb A outer s H E hr).nox, ?_⟩)
  obtain ⟨M, S, ds, d, S', rs, q, hl, h, k⟩ := h
  have hN : ps.length ≤ N.length := by have := congrArg List.length Sc.pre; rw [List.length_take] at this; omega
  have hdl : ds.length ≤ N.length := by rw [q.length, hl]; exact hN
  unfold fn at h
  rw [if_pos hdl] at h
  obtain ⟨r, S1, h1, h⟩ := bind_inv h
  refine ⟨M, ds.map some ++ List.replicate (N.length - ds.length) none, S, r, S1, rs, start_rel q hdl, h1, fun M1 H1 σ1 e1 r1 re1 => ?_⟩
  cases ef : r.1 with
  | nx => rw [ef] at h; cases h; exact k M1 H1 .non e1 r1 .mkN
  | rt d' => rw [ef] at h; cases h; exact fun v qv => k M1 H1 v e1 r1 qv
  | bk => rw [ef] at h; cases h
  | ct => rw [ef] at h; cases h
end PF
end
section
set_option linter.all false
set_option Elab.async false
set_option linter.all false
set_option maxRecDepth 100003
set_option maxHeartbeats 4000003
set_option autoImplicit false
namespace PF
open PySem PySem.Spec PyProof.Rows L2 LamX
theorem law_spT {nm : Nm} {K : PySem.W.Frag} {mg : Str → Option Value} {f : Fn} {H : Hp} {a tA tB : Addr} {ns : List Int} {E : XK} (hK : noList K = true) (hA : H tA = some (.tbl #[])) (hB : H tB = some (.tbl #[])) (ne : tA ≠ tB)
    (n1 : nm.tabs = [20, 21]) (n2 : nm.tab 20 = tA) (n3 : nm.tab 21 = tB) (m1 : mg (nm.cls 20) = none) (m2 : mg (nm.cls 21) = none) (hS : SqL K H a (ns.map V.int))
    (h : ∀ o : MO, o = .rol (ns.map D.int) ∨ o = .lst (ns.map D.int) → ∃ S', f [.ref 0] [o, .ins 20 [], .ins 21 []] = .ok (.bl true) S') :
    spF nm K mg 1 f [.ref a] H (fun v _ => v = .bl true) E := by
  have key : ∃ o : MO, (o = .rol (ns.map D.int) ∨ o = .lst (ns.map D.int)) ∧ RelO nm K mg [a, tA, tB] H a o ∧ a ≠ tA ∧ a ≠ tB := by
    rcases hS with (e | ⟨o, e⟩) | ⟨o, its, n, h1, h2, _⟩
    · exact ⟨_, .inr rfl, ⟨_, e, rel_script ns⟩, (fun z => by rw [z, hA] at e; cases e), (fun z => by rw [z, hB] at e; cases e)⟩
    · exact ⟨_, .inl rfl, ⟨o, _, e, rel_script ns⟩, (fun z => by rw [z, hA] at e; cases e), (fun z => by rw [z, hB] at e; cases e)⟩
    · exact absurd h2 (noList_ok hK h1)
  obtain ⟨o, ho, hr, na, nb⟩ := key
  obtain ⟨S', h⟩ := h o ho
  have tk : ∀ P : Addr, H P = some (.tbl #[]) → ∀ q : Str, TabS H P q := fun P hP q => ⟨#[], hP, by simp [TriplesOk], fun pos cv z => by simp [codeAmong] at z⟩
  refine ⟨[a, tA, tB], [o, .ins 20 [], .ins 21 []], [.ref 0], .bl true, S', ⟨rfl, by simp [na, nb, ne], fun n b ob h1 h2 => ?_⟩, ?_, rfl, h, fun M' H' v e r q => q.bl⟩
  · rcases n with _ | _ | _ | n
    · cases h1; cases h2; exact hr
    · cases h1; cases h2; exact .inr ⟨rfl, m1, by rw [n1]; simp, n2.symm, tk _ hA _⟩
    · cases h1; cases h2; exact .inr ⟨rfl, m2, by rw [n1]; simp, n3.symm, tk _ hB _⟩
    · cases h1
  · refine .cons ?_ .nil
    unfold RelD
    exact ⟨a, rfl, rfl⟩
theorem walk_pfT {l : PySem.W.OpenLaw} {n k : Nat} {q : Program} {loose : List Str} {XP : (Str → Option Value) → Heap → Prop} {YP : World → Heap → Prop} {d : DefRec} {K : Params → PySem.W.Frag} {nmT : Addr → Addr → Nm} {f : Fn} {x : Str}
    (hn : l.most = some n) (hn2 : n ≤ sizeLine) (hdf : d.params.defaults = []) (hr : Room k callerA) (hnm : ∀ tA tB, tA ≠ tB → (nmT tA tB).tabs = [20, 21] ∧ (nmT tA tB).tab 20 = tA ∧ (nmT tA tB).tab 21 = tB)
    (hY : ∀ (w : World) (h : Heap), YP w h → (K w.params).In h) (hK : ∀ w : World, noList (K w.params) = true)
    (F : ∀ (w : World) (mg : Str → Option Value) (fa : Addr) (h : Heap), YP w h → (K w.params).In h → h.Ns mainGlobals mg → mg d.name = some (.ref fa) →
      ∃ (fd : FuncData) (cA tA cB tB : Addr), tA ≠ tB ∧ h.get? tA = some { cls := .none, data := .fields #[] } ∧ h.get? tB = some { cls := .none, data := .fields #[] } ∧ (K w.params).lookup tA = none ∧ (K w.params).lookup tB = none ∧ PySem.W.CodeHd h cA tA ∧ PySem.W.CodeHd h cB tB ∧
        mg ((nmT tA tB).cls 20) = none ∧ mg ((nmT tA tB).cls 21) = none ∧ (∀ (s : Shared) (u : Value), BindsTo s fd ⟨[u], []⟩ [(x, u)]) ∧
        ∀ base : Heap, (K w.params).In base → base.Ns mainGlobals mg → TabB base mg cA tA → TabB base mg cB tB → FnOk l.prog w (K w.params) mg base CX0 k fa fd [x] (spF (nmT tA tB) (K w.params) mg 1 f))
    (law : ∀ ns : List Int, ns.length ≤ n → ∀ o : MO, o = .rol (ns.map D.int) ∨ o = .lst (ns.map D.int) → ∃ S', f [.ref 0] [o, .ins 20 [], .ins 21 []] = .ok (.bl true) S') :
    PySem.W.WalkO q loose XP YP l.row.toRowW d [] (fun f vs => PySem.call f vs) :=
  walk_ofTs (K := K) (CX := fun _ => CX0) hn hn2 hdf hr hY (fun w mg fa h Y KX G hmg => by
    obtain ⟨fd, cA, tA, cB, tB, ne, hA, hB, lA, lB, kA, kB, m1, m2, hb, hF⟩ := F w mg fa h Y KX G hmg
    obtain ⟨n1, n2, n3⟩ := hnm tA tB ne
    refine ⟨fd, [(cA, tA), (cB, tB)], _, ?_, ?_, ?_, hb, fun H a ns hl _ hT hS => law_spT (hK w) (hT (cA, tA) (by simp)) (hT (cB, tB) (by simp)) ne n1 n2 n3 m1 m2 hS (law ns hl), fun base b1 b2 hTB => hF base b1 b2 (hTB (cA, tA) (by simp)) (hTB (cB, tB) (by simp))⟩
    · intro p hp
      rcases List.mem_cons.mp hp with rfl | hp
      · exact hA
      · rcases List.mem_cons.mp hp with rfl | hp
        · exact hB
        · cases hp
    · intro p hp
      rcases List.mem_cons.mp hp with rfl | hp
      · exact lA
      · rcases List.mem_cons.mp hp with rfl | hp
        · exact lB
        · cases hp
    · intro p hp
      rcases List.mem_cons.mp hp with rfl | hp
      · exact kA
      · rcases List.mem_cons.mp hp with rfl | hp
        · exact kB
        · cases hp) (fun _ _ _ _ _ z => z)
end PF
end
section
set_option linter.all false
set_option Elab.async false
set_option linter.all false
set_option maxRecDepth 100003
set_option maxHeartbeats 4000003
set_option autoImplicit false
namespace PF
open PySem PySem.Spec PyProof.Rows L2
def nineAtB (K : PySem.W.Frag) (C : Nine) (D : Addr) (i : Nat) : Bool :=
  decide (PySem.W.kitOne K (.ref D) (.ref C.c0) = some (decide (i = 0))) && (decide (PySem.W.kitOne K (.ref D) (.ref C.c1) = some (decide (i = 1))) && (decide (PySem.W.kitOne K (.ref D) (.ref C.c2) = some (decide (i = 2))) &&
  (decide (PySem.W.kitOne K (.ref D) (.ref C.c3) = some (decide (i = 3))) && (decide (PySem.W.kitOne K (.ref D) (.ref C.c4) = some (decide (i = 4))) && (decide (PySem.W.kitOne K (.ref D) (.ref C.c5) = some (decide (i = 5))) &&
  (decide (PySem.W.kitOne K (.ref D) (.ref C.c6) = some (decide (i = 6))) && (decide (PySem.W.kitOne K (.ref D) (.ref C.c7) = some (decide (i = 7))) && (decide (PySem.W.kitOne K (.ref D) (.ref C.c8) = some (decide (i = 8))) &&
  (decide (PySem.W.kitOne K (.ref D) (.type "ValueError") = some true) && decide (i < 9))))))))))
theorem nineAtB_ok {K : PySem.W.Frag} {C : Nine} {D : Addr} {i : Nat} (h : nineAtB K C D i = true) : NineAt K C D i := by
  unfold nineAtB at h
  simp only [Bool.and_eq_true, decide_eq_true_eq] at h
  obtain ⟨h0, h1, h2, h3, h4, h5, h6, h7, h8, h9, h10⟩ := h
  exact ⟨h0, h1, h2, h3, h4, h5, h6, h7, h8, h9, h10⟩
def excCB (K : PySem.W.Frag) (D : Addr) : Bool :=
  decide (PySem.W.findIn K (.ref D) "__getattribute__" = some (some (.builtin "BaseException.__getattribute__"))) && (decide (PySem.W.findIn K (.ref D) "__getattr__" = some none) && (decide (PySem.W.subIn K (.ref D) (.type "BaseException") = some true) &&
  (PySem.W.hasDictIn K D && (decide (PySem.W.findIn K (.ref D) "__class__" = some (some (.builtin "object.__class__"))) && (decide (PySem.W.specialIn K (.builtin "object.__class__") "__get__" = some (some (.builtin "getset_descriptor.__get__"))) &&
  (decide (PySem.W.takesIn K (.builtin "object.__class__") = some true) && decide (PySem.W.mroIn K D (.type "object") = some true)))))))
theorem excCB_ok {K : PySem.W.Frag} {D : Addr} (h : excCB K D = true) : ExcC K D := by
  unfold excCB at h
  simp only [Bool.and_eq_true, decide_eq_true_eq] at h
  obtain ⟨h0, h1, h2, h3, h4, h5, h6, h7⟩ := h
  exact ⟨h0, h1, h2, h3, h4, h5, h6, h7⟩
def errB (K : PySem.W.Frag) (N : Nine) (BX D : Addr) (i : Nat) : Bool :=
  nineAtB K N D i && (excCB K D && (xfB K D && (decide (PySem.W.findIn K (.ref D) "row" = some none) && decide (PySem.W.exmOne K (.ref D) (.ref BX) = some true))))
theorem errB_ok {K : PySem.W.Frag} {N : Nine} {BX D : Addr} {i : Nat} (h : errB K N BX D i = true) : ErrOk K N BX D i := by
  unfold errB at h
  simp only [Bool.and_eq_true, decide_eq_true_eq] at h
  obtain ⟨h0, h1, h2, h3, h4⟩ := h
  exact ⟨nineAtB_ok h0, excCB_ok h1, xfB_ok h2, h3, h4⟩
def ninesB (K : PySem.W.Frag) (N : Nine) (BX : Addr) : Bool :=
  errB K N BX N.c0 0 && (errB K N BX N.c1 1 && (errB K N BX N.c2 2 && (errB K N BX N.c3 3 && (errB K N BX N.c4 4 && (errB K N BX N.c5 5 && (errB K N BX N.c6 6 && (errB K N BX N.c7 7 && errB K N BX N.c8 8)))))))
theorem ninesB_ok {nm : Nm} {K : PySem.W.Frag} {mg : Str → Option Value} {N : Nine} {BX : Addr} (h : ninesB K N BX = true) (m0 : mg (nm.cls 10) = some (.ref N.c0)) (m1 : mg (nm.cls 11) = some (.ref N.c1)) (m2 : mg (nm.cls 12) = some (.ref N.c2)) (m3 : mg (nm.cls 13) = some (.ref N.c3))
    (m4 : mg (nm.cls 14) = some (.ref N.c4)) (m5 : mg (nm.cls 15) = some (.ref N.c5)) (m6 : mg (nm.cls 16) = some (.ref N.c6)) (m7 : mg (nm.cls 17) = some (.ref N.c7)) (m8 : mg (nm.cls 18) = some (.ref N.c8)) :
    ∀ i, i < 9 → ∃ D, mg (nm.cls (10 + i)) = some (.ref D) ∧ ErrOk K N BX D i := by
  unfold ninesB at h
  simp only [Bool.and_eq_true] at h
  obtain ⟨h0, h1, h2, h3, h4, h5, h6, h7, h8⟩ := h
  intro i hi
  have : i = 0 ∨ i = 1 ∨ i = 2 ∨ i = 3 ∨ i = 4 ∨ i = 5 ∨ i = 6 ∨ i = 7 ∨ i = 8 := by omega
  rcases this with rfl | rfl | rfl | rfl | rfl | rfl | rfl | rfl | rfl
  · exact ⟨_, m0, errB_ok h0⟩
  · exact ⟨_, m1, errB_ok h1⟩
  · exact ⟨_, m2, errB_ok h2⟩
  · exact ⟨_, m3, errB_ok h3⟩
  · exact ⟨_, m4, errB_ok h4⟩
  · exact ⟨_, m5, errB_ok h5⟩
  · exact ⟨_, m6, errB_ok h6⟩
  · exact ⟨_, m7, errB_ok h7⟩
  · exact ⟨_, m8, errB_ok h8⟩
end PF
end
section
set_option linter.all false
set_option autoImplicit false
set_option maxRecDepth 100003
set_option linter.all false
namespace PF
def gRev (x : D) : M D := fun S => match x with
  | .str s => if s.length ≤ 2 then .ok (.str s.reverse) S else .bad
  | _ => .bad
instance : NeG gRev := ⟨fun x S => by
  unfold gRev
  (repeat' split) <;> first | exact .ok | exact .bad | exact .alloc⟩
def mIndexN (x y : D) : M D := fun S => match x with
  | .ref n => match lstOf n S with
    | some ds => match tree S EQD y, allSome (tree S EQD) ds with
      | some j, some js => if js.findIdx (fun z => J.eqv z j) < js.length then .ok (.int (js.findIdx (fun z => J.eqv z j) : Nat)) S else .bad
      | _, _ => .bad
    | none => .bad
  | _ => .bad
instance : NeH mIndexN := ⟨fun x y S => by
  unfold mIndexN
  (repeat' split) <;> first | exact .ok | exact .bad | exact .alloc⟩
/-- range(i, j, 2) -/
def range2D (lo hi : Int) : List D := (List.range ((hi - lo + 1) / 2).toNat).map fun (k : Nat) => .int (lo + (k : Int) * 2)
def iRange3 (a b c : E) : I := fun ρ S => (a ρ S).bind fun x S => (b ρ S).bind fun y S => (c ρ S).bind fun z S => match x, y, z with
  | .int i, .int j, .int 2 => if 0 ≤ i ∧ i < 2 ^ 60 ∧ 0 ≤ j ∧ j < 2 ^ 60 then .ok ⟨[], range2D i j⟩ S else .bad
  | _, _, _ => .bad
instance {a b c : E} [NeE a] [NeE b] [NeE c] : NeI (iRange3 a b c) := ⟨fun ρ S => (NeE.out ρ S).bind fun x S => (NeE.out ρ S).bind fun y S => (NeE.out ρ S).bind fun z S => by
  split
  · exact .ite .ok .bad
  · exact .bad⟩
end PF
end
section
set_option linter.all false
set_option autoImplicit false
set_option maxRecDepth 100003
namespace PG
open PF
abbrev z_put : List Nat := [112, 117, 116]
abbrev z_copy : List Nat := [99, 111, 112, 121]
abbrev z_less : List Nat := [108, 101, 115, 115]
abbrev z_take : List Nat := [116, 97, 107, 101]
abbrev z_add : List Nat := [97, 100, 100]
abbrev z_call : List Nat := [99, 97, 108, 108]
abbrev z_say : List Nat := [115, 97, 121]
abbrev z_if : List Nat := [105, 102]
abbrev z_end : List Nat := [101, 110, 100]
abbrev z_go : List Nat := [103, 111]
abbrev z_d : List Nat := [100]
abbrev z_a : List Nat := [97]
abbrev z_n : List Nat := [110]
abbrev z_r : List Nat := [114]
abbrev z_dn : List Nat := [100, 110]
abbrev z_da : List Nat := [100, 97]
abbrev z_daa : List Nat := [100, 97, 97]
abbrev z_ar : List Nat := [97, 114]
abbrev z_empty : List Nat := []
abbrev z_box : List Nat := [98, 111, 120]
abbrev z_slot : List Nat := [115, 108, 111, 116]
abbrev z_load : List Nat := [108, 111, 97, 100]
abbrev z_store : List Nat := [115, 116, 111, 114, 101]
abbrev z_swap : List Nat := [115, 119, 97, 112]
abbrev z_names : List Nat := [110, 97, 109, 101, 115]
abbrev z__ : List Nat := [32]
abbrev z___38 : List Nat := [10]
abbrev z_params : List Nat := [112, 97, 114, 97, 109, 115]
abbrev z_0123456789 : List Nat := [48, 49, 50, 51, 52, 53, 54, 55, 56, 57]
abbrev z_0 : List Nat := [48]
abbrev z_names_1_params_0_end : List Nat := [110, 97, 109, 101, 115, 32, 49, 32, 112, 97, 114, 97, 109, 115, 32, 48, 10, 101, 110, 100]
abbrev z_params_0_names_1_end : List Nat := [112, 97, 114, 97, 109, 115, 32, 48, 32, 110, 97, 109, 101, 115, 32, 49, 10, 101, 110, 100]
abbrev z_params_0_names_1_ : List Nat := [112, 97, 114, 97, 109, 115, 32, 48, 32, 110, 97, 109, 101, 115, 32, 49, 10]
abbrev z_params_0_names_1 : List Nat := [112, 97, 114, 97, 109, 115, 32, 48, 32, 110, 97, 109, 101, 115, 32, 49]
abbrev z_params_0_names_1_go_1 : List Nat := [112, 97, 114, 97, 109, 115, 32, 48, 32, 110, 97, 109, 101, 115, 32, 49, 10, 103, 111, 32, 49]
abbrev z_params_0_names_1_end_ : List Nat := [112, 97, 114, 97, 109, 115, 32, 48, 32, 110, 97, 109, 101, 115, 32, 49, 10, 101, 110, 100, 32]
abbrev z_params_0_names_0_end : List Nat := [112, 97, 114, 97, 109, 115, 32, 48, 32, 110, 97, 109, 101, 115, 32, 48, 10, 101, 110, 100]
abbrev z_params_2_names_1_end : List Nat := [112, 97, 114, 97, 109, 115, 32, 50, 32, 110, 97, 109, 101, 115, 32, 49, 10, 101, 110, 100]
abbrev z_0123456789____abcdefghijklmnopqrstuvwxyz___________________ABCDEFGHIJKLMNOPQRSTUVWXYZ_______ : List Nat := [48, 49, 50, 51, 52, 53, 54, 55, 56, 57, 32, 124, 44, 10, 97, 98, 99, 100, 101, 102, 103, 104, 105, 106, 107, 108, 109, 110, 111, 112, 113, 114, 115, 116, 117, 118, 119, 120, 121, 122, 33, 35, 36, 38, 39, 40, 41, 42, 43, 45, 46, 47, 58, 59, 60, 61, 62, 63, 64, 65, 66, 67, 68, 69, 70, 71, 72, 73, 74, 75, 76, 77, 78, 79, 80, 81, 82, 83, 84, 85, 86, 87, 88, 89, 90, 91, 93, 94, 95, 123, 125, 126]
abbrev z__1 : List Nat := [45, 49]
abbrev z_1000 : List Nat := [49, 48, 48, 48]
abbrev z_999 : List Nat := [57, 57, 57]
abbrev z_24 : List Nat := [50, 52]
abbrev z_23 : List Nat := [50, 51]
abbrev z_9 : List Nat := [57]
abbrev z_07 : List Nat := [48, 55]
abbrev z_00 : List Nat := [48, 48]
abbrev z___62 : List Nat := [124]
abbrev z_BadText : List Nat := [66, 97, 100, 84, 101, 120, 116]
def t_SHAPES : List (D × D) := [(.str z_put, .str z_dn), (.str z_copy, .str z_da), (.str z_add, .str z_daa), (.str z_take, .str z_daa), (.str z_less, .str z_daa), (.str z_call, .str z_da), (.str z_say, .str z_a), (.str z_if, .str z_ar), (.str z_go, .str z_r), (.str z_end, .str z_empty)]
def b__law_begun : St := sSeq (sSet 1 (eC (.int 0)))
  (sSeq (sFor (iSeq (eVar 0)) (PF.gName 2) (sSet 1 (e2 gMod (e2 gAdd (e2 gAdd (e2 gMul (eVar 1) (eC (.int 48271))) (e2 gMul (e2 gMod (eVar 2) (eC (.int 2147483647))) (eC (.int 69621)))) (eC (.int 11))) (eC (.int 2147483647)))))
  (sRet (eLst (aCons (eCall fList (aCons (eVar 0) (aNil))) (aCons (e2 gMul (eVar 1) (eCall fInt (aCons (e2 gGt (eCall fLen (aCons (eVar 0) (aNil))) (eC (.int 2))) (aNil)))) (aNil))))))
def f__law_begun : Fn := fn 3 b__law_begun
def b__law_take : St := sSeq (sIf (tE (e2 gEq (e2 gIx (eVar 0) (eC (.int 0))) (eLst (aNil)))) (sSeq (sSub (eVar 0) (eC (.int 1)) (e2 gMod (e2 gMul (e2 gIx (eVar 0) (eC (.int 1))) (eC (.int 48271))) (eC (.int 2147483647))))
  (sRet (e2 gMod (e2 gFdiv (e2 gIx (eVar 0) (eC (.int 1))) (eC (.int 7))) (eVar 1)))) (sNext))
  (sSeq (sSet 2 (e2 gIx (e2 gIx (eVar 0) (eC (.int 0))) (eC (.int 0))))
  (sSeq (sSub (e2 gIx (eVar 0) (eC (.int 0))) (eC (.int 0)) (e2 gFdiv (eVar 2) (eVar 1)))
  (sSeq (sIf (PF.tOr (tE (e2 gEq (e2 gIx (e2 gIx (eVar 0) (eC (.int 0))) (eC (.int 0))) (eC (.int 0)))) (tE (e2 gEq (e2 gIx (e2 gIx (eVar 0) (eC (.int 0))) (eC (.int 0))) (e1 gNeg (eC (.int 1)))))) (sExpr (eM1 mPop (e2 gIx (eVar 0) (eC (.int 0))) (eC (.int 0)))) (sNext))
  (sRet (e2 gMod (eVar 2) (eVar 1))))))
def f__law_take : Fn := fn 3 b__law_take
def b__law_row : St := sSeq (sSet 4 (eCall f__law_take (aCons (eVar 0) (aCons (eC (.int 15)) (aNil)))))
  (sSeq (sPar [5, 6, 7] (aCons (eCall f__law_take (aCons (eVar 0) (aCons (eVar 1) (aNil)))) (aCons (eCall f__law_take (aCons (eVar 0) (aCons (eVar 1) (aNil)))) (aCons (eCall f__law_take (aCons (eVar 0) (aCons (eVar 1) (aNil)))) (aNil)))))
  (sSeq (sIf (tE (e2 gLt (eVar 4) (eC (.int 2)))) (sRet (eTup (aCons (eC (.str z_put)) (aCons (eVar 5) (aCons (e2 gIx (eLst (aCons (eCall f__law_take (aCons (eVar 0) (aCons (eC (.int 1000)) (aNil)))) (aCons (eCall f__law_take (aCons (eVar 0) (aCons (eC (.int 3)) (aNil)))) (aNil)))) (eCall f__law_take (aCons (eVar 0) (aCons (eC (.int 2)) (aNil))))) (aNil)))))) (sNext))
  (sSeq (sIf (tE (e2 gLt (eVar 4) (eC (.int 4)))) (sRet (eTup (aCons (eC (.str z_copy)) (aCons (eVar 5) (aCons (eVar 6) (aNil)))))) (sNext))
  (sSeq (sIf (tE (e2 gLt (eVar 4) (eC (.int 7)))) (sRet (eTup (aCons (e2 gIx (eLst (aCons (eC (.str z_add)) (aCons (eC (.str z_take)) (aCons (eC (.str z_less)) (aNil))))) (e2 gSub (eVar 4) (eC (.int 4)))) (aCons (eVar 5) (aCons (eVar 6) (aCons (eVar 7) (aNil))))))) (sNext))
  (sSeq (sIf (tE (e2 gLt (eVar 4) (eC (.int 9)))) (sRet (eTup (aCons (eC (.str z_call)) (aCons (eVar 5) (aCons (eVar 6) (aNil)))))) (sNext))
  (sSeq (sIf (tE (e2 gLt (eVar 4) (eC (.int 12)))) (sRet (eTup (aCons (eC (.str z_say)) (aCons (eVar 6) (aNil))))) (sNext))
  (sSeq (sSet 8 (eCall f__law_take (aCons (eVar 0) (aCons (eVar 2) (aNil)))))
  (sSeq (sIf (tE (e2 gLt (eVar 4) (eC (.int 14)))) (sRet (eTup (aCons (eC (.str z_if)) (aCons (eVar 6) (aCons (e2 gIx (eLst (aCons (eVar 8) (aCons (eCall fMin (aCons (e2 gSub (eVar 2) (eC (.int 1))) (aCons (e2 gAdd (e2 gAdd (eVar 3) (eC (.int 1))) (e2 gMod (eVar 8) (eC (.int 4)))) (aNil)))) (aNil)))) (eCall f__law_take (aCons (eVar 0) (aCons (eC (.int 2)) (aNil))))) (aNil)))))) (sNext))
  (sRet (e2 gIx (eLst (aCons (eTup (aCons (eC (.str z_go)) (aCons (eCall fMin (aCons (e2 gSub (eVar 2) (eC (.int 1))) (aCons (e2 gAdd (e2 gAdd (eVar 3) (eC (.int 1))) (e2 gMod (eVar 8) (eC (.int 3)))) (aNil)))) (aNil)))) (aCons (eTup (aCons (eC (.str z_go)) (aCons (eVar 8) (aNil)))) (aCons (eTup (aCons (eC (.str z_end)) (aNil))) (aNil))))) (eCall f__law_take (aCons (eVar 0) (aCons (eC (.int 3)) (aNil))))))))))))))
def f__law_row : Fn := fn 9 b__law_row
def b__law_program : St := sSeq (sSet 2 (e2 gAdd (eC (.int 1)) (eCall f__law_take (aCons (eVar 0) (aCons (e2 gIx (eLst (aCons (eC (.int 3)) (aCons (eC (.int 4)) (aCons (eC (.int 8)) (aNil))))) (eCall f__law_take (aCons (eVar 0) (aCons (eC (.int 3)) (aNil))))) (aNil))))))
  (sSeq (sSet 3 (e2 gIx (eLst (aCons (eVar 2) (aCons (eCall f__law_take (aCons (eVar 0) (aCons (e2 gAdd (eVar 2) (eC (.int 1))) (aNil)))) (aNil)))) (eCall f__law_take (aCons (eVar 0) (aCons (eC (.int 2)) (aNil))))))
  (sSeq (sSet 4 (e2 gAdd (eC (.int 1)) (eCall f__law_take (aCons (eVar 0) (aCons (e2 gIx (eLst (aCons (eVar 1) (aCons (eCall fMin (aCons (eVar 1) (aCons (eC (.int 6)) (aNil)))) (aNil)))) (eCall f__law_take (aCons (eVar 0) (aCons (eC (.int 2)) (aNil))))) (aNil))))))
  (sRet (eTup (aCons (eVar 3) (aCons (eVar 2) (aCons (eCall fTuple (aCons (eComp (iRange1 (eVar 4)) [5] (PF.gName 5) (tYes) (eCall f__law_row (aCons (eVar 0) (aCons (eVar 2) (aCons (eVar 4) (aCons (eVar 5) (aNil))))))) (aNil))) (aNil))))))))
def f__law_program : Fn := fn 6 b__law_program
def b_is_number : St := sRet (eAnd (e1 (gIs .int) (eVar 0)) (eAnd (eNot (e1 (gIs .bool) (eVar 0))) (eChain gLe gLe (eVar 1) (eVar 0) (eVar 2))))
def f_is_number : Fn := fn 3 b_is_number
def b_is_row : St := sSeq (sIf (PF.tOr (PF.tNot (tE (e1 (gIs .tup) (eVar 0)))) (PF.tOr (tE (e2 gEq (eCall fLen (aCons (eVar 0) (aNil))) (eC (.int 0)))) (PF.tNot (tE (e1 (gIs .str) (e2 gIx (eVar 0) (eC (.int 0)))))))) (sRet (eC (.bl false))) (sNext))
  (sSeq (sSet 3 (e2 (kGet t_SHAPES) (e2 gIx (eVar 0) (eC (.int 0))) (eC .non)))
  (sSeq (sIf (PF.tOr (tE (e1 gIsN (eVar 3))) (tE (e2 gNe (eCall fLen (aCons (eVar 0) (aNil))) (e2 gAdd (eCall fLen (aCons (eVar 3) (aNil))) (eC (.int 1)))))) (sRet (eC (.bl false))) (sNext))
  (sSeq (sSet 4 (eDict [(eC (.str z_d), e2 gSub (eVar 1) (eC (.int 1))), (eC (.str z_a), e2 gSub (eVar 1) (eC (.int 1))), (eC (.str z_n), e2 gSub (eC (.int 1000)) (eC (.int 1))), (eC (.str z_r), e2 gSub (eVar 2) (eC (.int 1)))]))
  (sRet (e2 gEq (eComp (iRange1 (eCall fLen (aCons (eVar 3) (aNil)))) [5] (PF.gName 5) (PF.tNot (tE (eCall f_is_number (aCons (e2 gIx (eVar 0) (e2 gAdd (eVar 5) (eC (.int 1)))) (aCons (eC (.int 0)) (aCons (e2 gDx (eVar 4) (e2 gIx (eVar 3) (eVar 5))) (aNil))))))) (eVar 5)) (eLst (aNil)))))))
def f_is_row : Fn := fn 6 b_is_row
def b_need_program : St := sSeq (sIf (PF.tOr (PF.tNot (tE (e1 (gIs .tup) (eVar 0)))) (PF.tOr (tE (e2 gNe (eCall fLen (aCons (eVar 0) (aNil))) (eC (.int 3)))) (PF.tNot (tE (eCall f_is_number (aCons (e2 gIx (eVar 0) (eC (.int 1))) (aCons (eC (.int 1)) (aCons (eC (.int 8)) (aNil))))))))) (sRaise 15 (aCons (e1 gNeg (eC (.int 1))) aNil)) (sNext))
  (sSeq (sAsg (PF.gTup [1, 2, 3]) (eVar 0))
  (sSeq (sIf (PF.tOr (PF.tNot (tE (eCall f_is_number (aCons (eVar 1) (aCons (eC (.int 0)) (aCons (eVar 2) (aNil))))))) (PF.tOr (PF.tNot (tE (e1 (gIs .tup) (eVar 3)))) (tE (e2 gEq (eCall fLen (aCons (eVar 3) (aNil))) (eC (.int 0)))))) (sRaise 15 (aCons (e1 gNeg (eC (.int 1))) aNil)) (sNext))
  (sFor (iEnum (eVar 3)) (PF.gTup [4, 5]) (sIf (PF.tOr (tE (e2 gGe (eVar 4) (eC (.int 24)))) (PF.tNot (tE (eCall f_is_row (aCons (eVar 5) (aCons (eVar 2) (aCons (eCall fMin (aCons (eCall fLen (aCons (eVar 3) (aNil))) (aCons (eC (.int 24)) (aNil)))) (aNil)))))))) (sRaise 15 (aCons (eVar 4) aNil)) (sNext)))))
def f_need_program : Fn := fn 6 b_need_program
def b__law_alike (F0 : Fn) : St := sSeq (sIf (tE (e1 gIsN (eVar 1))) (sRet (e1 gIsN (eVar 0))) (sNext))
  (sSeq (sIf (tE (e1 (gIs .bool) (eVar 1))) (sRet (eAnd (e1 (gIs .bool) (eVar 0)) (e2 gEq (eVar 0) (eVar 1)))) (sNext))
  (sSeq (sIf (tE (e1 (gIs .int) (eVar 1))) (sRet (eAnd (e1 (gIs .int) (eVar 0)) (eAnd (eNot (e1 (gIs .bool) (eVar 0))) (e2 gEq (eVar 0) (eVar 1))))) (sNext))
  (sSeq (sIf (tE (e1 (gIs .str) (eVar 1))) (sRet (eAnd (e1 (gIs .str) (eVar 0)) (e2 gEq (eVar 0) (eVar 1)))) (sNext))
  (sSeq (sIf (PF.tOr (tE (e2 gNe (e1 (gIs .tup) (eVar 1)) (e1 (gIs .tup) (eVar 0)))) (tE (e2 gNe (e1 (gIs .lst) (eVar 1)) (e1 (gIs .lst) (eVar 0))))) (sRet (eC (.bl false))) (sNext))
  (sSeq (sIf (tE (e2 gNe (eCall fLen (aCons (eVar 0) (aNil))) (eCall fLen (aCons (eVar 1) (aNil))))) (sRet (eC (.bl false))) (sNext))
  (sSeq (sFor (iRange1 (eCall fLen (aCons (eVar 1) (aNil)))) (PF.gName 2) (sIf (PF.tNot (tE (eCall F0 (aCons (e2 gIx (eVar 0) (eVar 2)) (aCons (e2 gIx (eVar 1) (eVar 2)) (aNil)))))) (sRet (eC (.bl false))) (sNext)))
  (sRet (eC (.bl true)))))))))
def f__law_alike : Nat → Fn
  | 0 => fun _ _ => .bad
  | k + 1 => fn 3 (b__law_alike (f__law_alike k))
def b_written : St := sSeq (sExpr (eCall f_need_program (aCons (eVar 0) (aNil))))
  (sSeq (sSet 1 (eS1 mJoin (eC (.str z__)) (eLst (aCons (eC (.str z_params)) (aCons (eCall fStr (aCons (e2 gIx (eVar 0) (eC (.int 0))) (aNil))) (aCons (eC (.str z_names)) (aCons (eCall fStr (aCons (e2 gIx (eVar 0) (eC (.int 1))) (aNil))) (aNil))))))))
  (sRet (eS1 mJoin (eC (.str z___38)) (e2 gAdd (eLst (aCons (eVar 1) (aNil))) (eComp (iSeq (e2 gIx (eVar 0) (eC (.int 2)))) [2] (PF.gName 2) (tYes) (eS1 mJoin (eC (.str z__)) (eComp (iSeq (eVar 2)) [3] (PF.gName 3) (tYes) (eCall fStrA (aCons (eVar 3) (aNil))))))))))
def f_written : Fn := fn 4 b_written
def b_number_of : St := sSeq (sIf (PF.tOr (PF.tNot (tE (eChain gLe gLe (eC (.int 1)) (eCall fLen (aCons (eVar 0) (aNil))) (eC (.int 3))))) (tE (e2 gNe (eComp (iTxt (eVar 0)) [1] (PF.gName 1) (tE (e2 gNotIn (eVar 1) (eC (.str z_0123456789)))) (eVar 1)) (eLst (aNil))))) (sRet (eC .non)) (sNext))
  (sRet (eIf (PF.tOr (tE (e2 gNe (e2 gIx (eVar 0) (eC (.int 0))) (eC (.str z_0)))) (tE (e2 gEq (eVar 0) (eC (.str z_0))))) (eCall fIntT (aCons (eVar 0) (aNil))) (eC .non)))
def f_number_of : Fn := fn 2 b_number_of
def b_row_of : St := sSeq (sSet 1 (eS1 mSplit (eVar 0) (eC (.str z__))))
  (sSeq (sSet 2 (eComp (iSeq (eSlice (eVar 1) (oSome (eC (.int 1))) (oNone))) [3] (PF.gName 3) (tYes) (eCall f_number_of (aCons (eVar 3) (aNil)))))
  (sSeq (sIf (PF.tOr (tE (e1 (kNotIn t_SHAPES) (e2 gIx (eVar 1) (eC (.int 0))))) (PF.tOr (tE (e2 gIn (eC .non) (eVar 2))) (tE (e2 gNe (eCall fLen (aCons (eVar 2) (aNil))) (eCall fLen (aCons (e1 (kIx t_SHAPES) (e2 gIx (eVar 1) (eC (.int 0)))) (aNil))))))) (sRet (eC .non)) (sNext))
  (sRet (eCall fTuple (aCons (e2 gAdd (eLst (aCons (e2 gIx (eVar 1) (eC (.int 0))) (aNil))) (eVar 2)) (aNil))))))
def f_row_of : Fn := fn 4 b_row_of
def b_read : St := sSeq (sSet 1 (eS1 mSplit (eVar 0) (eC (.str z___38))))
  (sSeq (sSet 2 (eS1 mSplit (e2 gIx (eVar 1) (eC (.int 0))) (eC (.str z__))))
  (sSeq (sSet 3 (eComp (iSeq (eEvery (eVar 2) (oSome (eC (.int 1))))) [9] (PF.gName 9) (tYes) (eCall f_number_of (aCons (eVar 9) (aNil)))))
  (sSeq (sIf (PF.tOr (tE (e2 gNe (eCall fLen (aCons (eVar 2) (aNil))) (eC (.int 4)))) (PF.tOr (tE (e2 gNe (eEvery (eVar 2) (oNone)) (eLst (aCons (eC (.str z_params)) (aCons (eC (.str z_names)) (aNil)))))) (tE (e2 gIn (eC .non) (eVar 3))))) (sRaise 16 (aCons (eC (.int 0)) aNil)) (sNext))
  (sSeq (sSet 4 (eLst (aNil)))
  (sSeq (sFor (iEnum (eSlice (eVar 1) (oSome (eC (.int 1))) (oNone))) (PF.gTup [5, 6]) (sSeq (sSet 7 (eCall f_row_of (aCons (eVar 6) (aNil))))
  (sSeq (sIf (tE (e1 gIsN (eVar 7))) (sRaise 16 (aCons (e2 gAdd (eVar 5) (eC (.int 1))) aNil)) (sNext))
  (sExpr (eM1 mAppend (eVar 4) (eVar 7))))))
  (sSeq (sSet 8 (eTup (aCons (e2 gIx (eVar 3) (eC (.int 0))) (aCons (e2 gIx (eVar 3) (eC (.int 1))) (aCons (eCall fTuple (aCons (eVar 4) (aNil))) (aNil))))))
  (sSeq (sExpr (eCall f_need_program (aCons (eVar 8) (aNil))))
  (sRet (eVar 8)))))))))
def f_read : Fn := fn 10 b_read
def b__law_spoilt : St := sSeq (sPar [2, 3] (aCons (eCall f__law_take (aCons (eVar 0) (aCons (eC (.int 9)) (aNil)))) (aCons (eCall f__law_take (aCons (eVar 0) (aCons (e2 gAdd (eCall fLen (aCons (eVar 1) (aNil))) (eC (.int 1))) (aNil)))) (aNil))))
  (sSeq (sSet 4 (eC (.str z_0123456789____abcdefghijklmnopqrstuvwxyz___________________ABCDEFGHIJKLMNOPQRSTUVWXYZ_______)))
  (sSeq (sSet 5 (e2 gIx (eVar 4) (eCall f__law_take (aCons (eVar 0) (aCons (e2 gIx (eLst (aCons (eC (.int 14)) (aCons (eCall fLen (aCons (eVar 4) (aNil))) (aNil)))) (eCall f__law_take (aCons (eVar 0) (aCons (eC (.int 2)) (aNil))))) (aNil))))))
  (sSeq (sIf (tE (e2 gLt (eVar 2) (eC (.int 3)))) (sRet (e2 gAdd (e2 gAdd (eSlice (eVar 1) (oNone) (oSome (eVar 3))) (e2 gIx (eLst (aCons (eC (.str z_empty)) (aCons (eVar 5) (aCons (eVar 5) (aNil))))) (eVar 2))) (eSlice (eVar 1) (oSome (e2 gAdd (eVar 3) (eCall fInt (aCons (e2 gLt (eVar 2) (eC (.int 2))) (aNil))))) (oNone)))) (sNext))
  (sSeq (sIf (tE (e2 gEq (eVar 2) (eC (.int 3)))) (sSeq (sSet 6 (e1 gRev (eSlice (eVar 1) (oSome (eVar 3)) (oSome (e2 gAdd (eVar 3) (eC (.int 2)))))))
  (sRet (e2 gAdd (e2 gAdd (eSlice (eVar 1) (oNone) (oSome (eVar 3))) (eVar 6)) (eSlice (eVar 1) (oSome (e2 gAdd (eVar 3) (eC (.int 2)))) (oNone))))) (sNext))
  (sSeq (sSet 7 (eS1 mSplit (eVar 1) (eC (.str z___38))))
  (sSeq (sSet 8 (e2 gIx (eLst (aCons (e2 gSub (eCall fLen (aCons (eVar 7) (aNil))) (eC (.int 1))) (aCons (eCall f__law_take (aCons (eVar 0) (aCons (eCall fLen (aCons (eVar 7) (aNil))) (aNil)))) (aNil)))) (eCall f__law_take (aCons (eVar 0) (aCons (eC (.int 2)) (aNil))))))
  (sSeq (sIf (tE (e2 gLt (eVar 2) (eC (.int 6)))) (sRet (eS1 mJoin (eC (.str z___38)) (e2 gAdd (e2 gAdd (eSlice (eVar 7) (oNone) (oSome (eVar 8))) (e2 gMul (eSlice (eVar 7) (oSome (eVar 8)) (oSome (e2 gAdd (eVar 8) (eC (.int 1))))) (e2 gIx (eLst (aCons (eC (.int 0)) (aCons (eC (.int 2)) (aNil)))) (e2 gSub (eVar 2) (eC (.int 4)))))) (eSlice (eVar 7) (oSome (e2 gAdd (eVar 8) (eC (.int 1)))) (oNone))))) (sNext))
  (sSeq (sSet 9 (eS1 mSplit (e2 gIx (eVar 7) (eVar 8)) (eC (.str z__))))
  (sSeq (sSet 10 (eCall f__law_take (aCons (eVar 0) (aCons (eCall fLen (aCons (eVar 9) (aNil))) (aNil)))))
  (sSeq (sSet 11 (eLst (aCons (eC (.str z_empty)) (aCons (eC (.str z_0)) (aCons (eC (.str z_00)) (aCons (eC (.str z_07)) (aCons (eC (.str z_9)) (aCons (eC (.str z_23)) (aCons (eC (.str z_24)) (aCons (eC (.str z_999)) (aCons (eC (.str z_1000)) (aCons (eC (.str z__1)) (aCons (eC (.str z_add)) (aCons (eC (.str z_go)) (aCons (eC (.str z_end)) (aCons (eC (.str z_say)) (aCons (eC (.str z_load)) (aCons (eC (.str z_copy)) (aNil)))))))))))))))))))
  (sSeq (sSet 11 (e2 gAdd (eVar 11) (eLst (aCons (eC (.str z___62)) (aCons (eC (.str z_box)) (aNil))))))
  (sSeq (sSet 9 (e2 gAdd (e2 gAdd (eSlice (eVar 9) (oNone) (oSome (eVar 10))) (e2 gIx (eLst (aCons (eLst (aNil)) (aCons (e2 gMul (eLst (aCons (e2 gIx (eVar 9) (eVar 10)) (aNil))) (eC (.int 2))) (aCons (eLst (aCons (e2 gIx (eVar 11) (eCall f__law_take (aCons (eVar 0) (aCons (eC (.int 18)) (aNil))))) (aNil))) (aNil))))) (e2 gSub (eVar 2) (eC (.int 6))))) (eSlice (eVar 9) (oSome (e2 gAdd (eVar 10) (eC (.int 1)))) (oNone))))
  (sRet (eS1 mJoin (eC (.str z___38)) (e2 gAdd (e2 gAdd (eSlice (eVar 7) (oNone) (oSome (eVar 8))) (eLst (aCons (eS1 mJoin (eC (.str z__)) (eVar 9)) (aNil)))) (eSlice (eVar 7) (oSome (e2 gAdd (eVar 8) (eC (.int 1)))) (oNone)))))))))))))))))
def f__law_spoilt : Fn := fn 12 b__law_spoilt
def b__law_number : St := sSeq (sIf (PF.tOr (PF.tNot (tE (eChain gLe gLe (eC (.int 1)) (eCall fLen (aCons (eVar 0) (aNil))) (eC (.int 3))))) (tE (e2 gNe (eComp (iTxt (eVar 0)) [1] (PF.gName 1) (tE (e2 gNotIn (eVar 1) (eC (.str z_0123456789)))) (eVar 1)) (eLst (aNil))))) (sRet (eC .non)) (sNext))
  (sRet (eIf (tE (e2 gEq (eCall fStr (aCons (eCall fIntT (aCons (eVar 0) (aNil))) (aNil))) (eVar 0))) (eCall fIntT (aCons (eVar 0) (aNil))) (eC .non)))
def f__law_number : Fn := fn 2 b__law_number
def b__law_line : St := sSeq (sSet 1 (eDict [(eC (.str z_put), eC (.int 2)), (eC (.str z_copy), eC (.int 2)), (eC (.str z_add), eC (.int 3)), (eC (.str z_take), eC (.int 3)), (eC (.str z_less), eC (.int 3)), (eC (.str z_call), eC (.int 2)), (eC (.str z_say), eC (.int 1)), (eC (.str z_if), eC (.int 2)), (eC (.str z_go), eC (.int 1)), (eC (.str z_end), eC (.int 0))]))
  (sSeq (sSet 2 (eS1 mSplit (eVar 0) (eC (.str z__))))
  (sSeq (sIf (PF.tOr (tE (e2 gNotInD (e2 gIx (eVar 2) (eC (.int 0))) (eVar 1))) (tE (e2 gNe (eCall fLen (aCons (eVar 2) (aNil))) (e2 gAdd (eC (.int 1)) (e2 gDx (eVar 1) (e2 gIx (eVar 2) (eC (.int 0)))))))) (sRet (eC .non)) (sNext))
  (sSeq (sSet 3 (eComp (iSeq (eSlice (eVar 2) (oSome (eC (.int 1))) (oNone))) [4] (PF.gName 4) (tYes) (eCall f__law_number (aCons (eVar 4) (aNil)))))
  (sRet (eIf (tE (e2 gIn (eC .non) (eVar 3))) (eC .non) (eCall fTuple (aCons (e2 gAdd (eSlice (eVar 2) (oNone) (oSome (eC (.int 1)))) (eVar 3)) (aNil))))))))
def f__law_line : Fn := fn 5 b__law_line
def b__law_read : St := sSeq (sSet 1 (eS1 mSplit (eVar 0) (eC (.str z___38))))
  (sSeq (sSet 2 (eS1 mSplit (e2 gIx (eVar 1) (eC (.int 0))) (eC (.str z__))))
  (sSeq (sIf (PF.tOr (tE (e2 gNe (eCall fLen (aCons (eVar 2) (aNil))) (eC (.int 4)))) (PF.tOr (tE (e2 gNe (e2 gIx (eVar 2) (eC (.int 0))) (eC (.str z_params)))) (tE (e2 gNe (e2 gIx (eVar 2) (eC (.int 2))) (eC (.str z_names)))))) (sRet (eTup (aCons (eC (.str z_BadText)) (aCons (eC (.int 0)) (aNil))))) (sNext))
  (sSeq (sIf (PF.tOr (tE (e1 gIsN (eCall f__law_number (aCons (e2 gIx (eVar 2) (eC (.int 1))) (aNil))))) (tE (e1 gIsN (eCall f__law_number (aCons (e2 gIx (eVar 2) (eC (.int 3))) (aNil)))))) (sRet (eTup (aCons (eC (.str z_BadText)) (aCons (eC (.int 0)) (aNil))))) (sNext))
  (sSeq (sSet 3 (eComp (iSeq (eSlice (eVar 1) (oSome (eC (.int 1))) (oNone))) [6] (PF.gName 6) (tYes) (eCall f__law_line (aCons (eVar 6) (aNil)))))
  (sSeq (sIf (tE (e2 gIn (eC .non) (eVar 3))) (sRet (eTup (aCons (eC (.str z_BadText)) (aCons (e2 gAdd (eC (.int 1)) (eM1 mIndexN (eVar 3) (eC .non))) (aNil))))) (sNext))
  (sSeq (sSet 4 (eTup (aCons (eCall f__law_number (aCons (e2 gIx (eVar 2) (eC (.int 1))) (aNil))) (aCons (eCall f__law_number (aCons (e2 gIx (eVar 2) (eC (.int 3))) (aNil))) (aCons (eCall fTuple (aCons (eVar 3) (aNil))) (aNil))))))
  (sSeq (sSet 5 (eTold [(1, 20), (2, 21)] (eCall f_written (aCons (eVar 4) (aNil)))))
  (sRet (eIf (tE (e2 gEq (eVar 5) (eVar 0))) (eVar 4) (eVar 5))))))))))
def f__law_read : Fn := fn 7 b__law_read
def b_law_v19 : St := sSeq (sSet 1 (eCall f__law_begun (aCons (eVar 0) (aNil))))
  (sSeq (sSet 2 (eLst (aCons (eC (.str z_empty)) (aCons (eC (.str z__)) (aCons (eC (.str z___38)) (aCons (eC (.str z_params_0_names_1)) (aCons (eC (.str z_params_0_names_1_)) (aCons (eC (.str z_params_0_names_1_end)) (aCons (eC (.str z_names_1_params_0_end)) (aNil))))))))))
  (sSeq (sSet 2 (e2 gAdd (eVar 2) (eLst (aCons (eC (.str z_params_2_names_1_end)) (aCons (eC (.str z_params_0_names_0_end)) (aCons (eC (.str z_params_0_names_1_end_)) (aCons (eC (.str z_params_0_names_1_go_1)) (aNil))))))))
  (sSeq (sFor (iRange1 (eC (.int 6))) (PF.gName 3) (sSeq (sSet 4 (eCall f_written (aCons (eCall f__law_program (aCons (eVar 1) (aCons (eC (.int 24)) (aNil)))) (aNil))))
  (sSeq (sIf (tE (e2 gEq (eCall f__law_take (aCons (eVar 1) (aCons (eC (.int 5)) (aNil)))) (eC (.int 0)))) (sSet 4 (e2 gIx (eVar 2) (eCall f__law_take (aCons (eVar 1) (aCons (eC (.int 11)) (aNil)))))) (sNext))
  (sSeq (sFor (iRange1 (eCall f__law_take (aCons (eVar 1) (aCons (eC (.int 4)) (aNil))))) (PF.gName 5) (sSet 4 (eCall f__law_spoilt (aCons (eVar 1) (aCons (eVar 4) (aNil))))))
  (sSeq (sSet 6 (eCall f__law_read (aCons (eVar 4) (aNil))))
  (sFor (iRange1 (eC (.int 2))) (PF.gName 7) (sIf (PF.tNot (tE (eCall (f__law_alike 12) (aCons (eTold [(1, 20), (2, 21)] (eCall f_read (aCons (eVar 4) (aNil)))) (aCons (eVar 6) (aNil)))))) (sRet (eC (.bl false))) (sNext))))))))
  (sRet (eC (.bl true))))))
def f_law_v19 : Fn := fn 8 b_law_v19
end PG
end
section
set_option linter.all false
set_option Elab.async false
set_option linter.all false
set_option maxRecDepth 100003
set_option maxHeartbeats 2000003
set_option autoImplicit false
namespace PF
open PySem PySem.Spec PyProof.Rows L2
section
variable {P : Program} {w : World} {A : Around} {E : Value → Shared → Prop} {s : Shared}
/-- what sets ask of a kind of keys -/
structure Meek {K : Type} [DecidableEq K] (κ : HeapKind P w K) : Prop where
  stay : ∀ {h h' : Heap} {k : K} {a : Addr}, (∀ b o vs n, h.get? b = some o → o.data = .seq vs n → h'.get? b = some o) → κ.is h k a → κ.is h' k a
  cls : ∀ {A : Around} {E : Value → Shared → Prop} {s : Shared} {k : K} {a : Addr} {Q : Bool → Shared → Prop}, κ.is s.heap k a → Q false s → wpAny (model P w) A (ofAClassStatement 8 (.ref a)) Q E s
  byv : ∀ {A : Around} {E : Value → Shared → Prop} {s : Shared} {k : K} {a : Addr} {Q : Bool → Shared → Prop}, κ.is s.heap k a → (∀ b, Q b s) → wpAny (model P w) A (hashByValue 8 (.ref a)) Q E s
end
end PF
end
section
set_option linter.all false
set_option Elab.async false
set_option linter.all false
set_option maxRecDepth 100003
set_option maxHeartbeats 2000003
set_option autoImplicit false
namespace PF
open PySem PySem.Spec PyProof.Rows L2
section
variable {P : Program} {w : World} {K : Type} [DecidableEq K] (κ : HeapKind P w K)
/-- how the members stand in the table -/
def lineOf (ms : List (Addr × K)) : List (Int × Value) := ms.map fun m => (κ.hash m.2, Value.ref m.1)
def hashesOf (ms : List (Addr × K)) : List Int := ms.map fun m => κ.hash m.2
structure SetK (hp : Heap) (c : Addr) (ms : List (Addr × K)) (ents : Array (Int × Value)) (n : Nat) (tb : SetTable) : Prop where
  obj : ∃ ob, hp.get? c = some ob ∧ ob.ExactSet ∧ ob.data = .set ents n tb
  lin : ents.toList = lineOf κ ms
  tbk : L2.TabOk tb (hashesOf κ ms)
  uni : (ms.map (·.2)).Nodup
  mem : ∀ m ∈ ms, κ.is hp m.2 m.1
  gap : ms.length * 5 < tb.mask * 3
  few : ms.length < 64
end
section
variable {P : Program} {w : World} {K : Type} [DecidableEq K] {κ : HeapKind P w K} {A : Around} {E : Value → Shared → Prop} {s : Shared} {c : Addr} {ms : List (Addr × K)} {ents : Array (Int × Value)} {n : Nat} {tb : SetTable}
theorem SetK.cnt {hp : Heap} (R : SetK κ hp c ms ents n tb) : ents.size = ms.length := by
  have e := congrArg List.length R.lin
  unfold lineOf at e
  simpa using e
end
end PF
end
section
set_option linter.all false
set_option Elab.async false
set_option linter.all false
set_option maxRecDepth 100003
set_option maxHeartbeats 2000003
set_option autoImplicit false
namespace PF
open PySem PySem.Spec PyProof.Rows L2
section
variable {P : Program} {w : World} {K : Type} [DecidableEq K] {κ : HeapKind P w K} {A : Around} {E : Value → Shared → Prop} {s : Shared} {c : Addr} {ms : List (Addr × K)} {ents : Array (Int × Value)} {n : Nat} {tb : SetTable}
/-- tuples stay while only the set changes -/
theorem Meek.but (mk : Meek κ) {h h' : Heap} {k : K} {x : Addr} {ob : Obj} (hx : κ.is h k x) (hob : h.get? c = some ob) (hd : ob.data = .set ents n tb) (sb : Heap.SameBut c h h') : κ.is h' k x :=
  mk.stay (fun b o vs m hb ho => (sb.2 b fun e => by
    subst e
    rw [hob] at hb
    cases hb
    rw [hd] at ho
    cases ho).trans hb) hx
end
end PF
end
section
set_option linter.all false
set_option Elab.async false
set_option linter.all false
set_option maxRecDepth 100003
set_option maxHeartbeats 4000003
set_option autoImplicit false
namespace PF
open PySem PySem.Spec PyProof.Rows L2
section
variable {P : Program} {w : World} {K : Type} [DecidableEq K] {κ : HeapKind P w K} {A : Around} {E : Value → Shared → Prop} {s : Shared}
theorem SetK.keep (mk : Meek κ) {h h' : Heap} {c : Addr} {ms : List (Addr × K)} {ents : Array (Int × Value)} {n : Nat} {tb : SetTable} (R : SetK κ h c ms ents n tb) (hc : ∀ o, h.get? c = some o → h'.get? c = some o) (hm : ∀ m ∈ ms, κ.is h' m.2 m.1) : SetK κ h' c ms ents n tb := by
  obtain ⟨ob, hob, r⟩ := R.obj
  exact ⟨⟨ob, hc ob hob, r⟩, R.lin, R.tbk, R.uni, hm, R.gap, R.few⟩
end
end PF
end
section
set_option linter.all false
set_option Elab.async false
set_option linter.all false
set_option maxRecDepth 100003
set_option maxHeartbeats 2000003
set_option autoImplicit false
namespace PF
open PySem L2
section
variable {nm : Nm} {X : Cx} {M : List Addr} {S S' : Sto} {H : Hp} {Q : VK}
theorem strOf_strI (i : Int) : strOf (strI i) = (toString i : Str) := by
  show _ = Str.ofString (toString i)
  rw [Str.ofString_eq_byList]
  rfl
theorem log_small {i : Int} (h : -(2 ^ 60) < i ∧ i < 2 ^ 60) : i.natAbs.log2 < 1920 := by
  by_cases z : i.natAbs = 0
  · rw [z]; decide
  · have l : i.natAbs < 2 ^ 60 := by omega
    have := (Nat.log2_lt z).mpr l
    omega
theorem opn_str : OpN nm X (fun xs H Q => ∃ i, xs = [.int i] ∧ i.natAbs.log2 < 1920 ∧ Q (.str (toString i)) H) fStr := by
  intro M S H xs vs d S' Q rs q h k
  unfold fStr at h
  split at h
  · split at h
    · rename_i c
      cases h
      obtain ⟨v, rfl, q1⟩ := q.one
      rw [q1.int]
      refine ⟨_, rfl, log_small c, ?_⟩
      rw [← strOf_strI]
      exact k.here rs (by unfold RelD; rfl)
    · cases h
  · cases h
theorem bv_str : bootBuiltins "str" = some (.type "str") := by decide +kernel
theorem wd_str {e : Expr} {es : List Expr} {fa : A} {p pos : Pos} (hg : Gl X "str") (hm : X.mg "str" = none) (ha : PXA nm X (e :: es) fa) (he : starEach (e :: es) X.env = (false, eval e X.env) :: starEach es X.env) (hpl : (backTo pos (starEach es X.env)).any (·.1) = false) : PX nm X (.Call (.Name "str" p) (e :: es) [] pos) (eCall fStr fa) :=
  px_cb (pe_callTy call_str_int hg hm bv_str ha (by decide +kernel) (by decide +kernel) he hpl) opn_str
end
end PF
end
section
set_option linter.all false
set_option Elab.async false
set_option linter.all false
set_option maxRecDepth 100003
set_option maxHeartbeats 2000003
set_option autoImplicit false
namespace PF
open PySem L2
section
variable {nm : Nm} {X : Cx} {M M' : List Addr} {H H' : Hp} {S S' S1 : Sto} {ρ : Env} {σ : L2.St} {Q : VK} {d : D}
theorem RelKs.key {K : PySem.W.Frag} : ∀ {kvs : List (D × D)} {ps : List (Key × V)} {i : Nat} {k : Key} {v : V}, RelKs K M H kvs ps → ps[i]? = some (k, v) → (kvs.map (·.1))[i]? = some (keyD k)
  | [], _, _, _, _, h, e => by have z : _ = [] := h; subst z; simp at e
  | p :: _, _, 0, _, _, h, e => by
    obtain ⟨k', v', q, rfl, hk, _, h⟩ := h
    simp at e
    simp [hk, e.1]
  | _ :: _, _, i + 1, _, _, h, e => by
    obtain ⟨k', v', q, rfl, hk, _, h⟩ := h
    simp only [List.getElem?_cons_succ] at e
    simpa using RelKs.key h e
end
end PF
end
section
set_option linter.all false
set_option Elab.async false
set_option linter.all false
set_option maxRecDepth 100003
set_option maxHeartbeats 2000003
set_option autoImplicit false
namespace PF
open PySem PySem.Spec PyProof.Rows L2
section
variable {nm : Nm} {X : Cx} {M M' : List Addr} {H H' : Hp} {S S' S1 : Sto} {ρ : Env} {σ : L2.St} {Q : VK} {d : D}
theorem joinL_eq (a : List Nat) : ∀ ys : List (List Nat), joinL a ys = TL.joinL a ys
  | [] => rfl
  | [_] => rfl
  | p :: q :: r => by
    show p ++ (a ++ joinL a (q :: r)) = p ++ (a ++ TL.joinL a (q :: r))
    rw [joinL_eq a (q :: r)]
theorem spl_eq (s : List Nat) : ∀ (l : List Nat) (k : Nat) (acc : List Nat), spl s k acc l = TL.spl s k acc l
  | [], 0, _ => rfl
  | [], _ + 1, _ => rfl
  | c :: r, 0, acc => by
    show (if ((c :: r).take s.length == s) = true then acc :: spl s (s.length - 1) [] r else spl s 0 (acc ++ [c]) r) = if TL.pre s (c :: r) = true then acc :: TL.spl s (s.length - 1) [] r else TL.spl s 0 (acc ++ [c]) r
    rw [spl_eq s r, spl_eq s r]
    rfl
  | c :: r, k + 1, acc => by
    show spl s k acc r = TL.spl s k acc r
    exact spl_eq s r k acc
theorem strs_rel {K : PySem.W.Frag} : ∀ {ds : List D} {vs : List V} {ys : List (List Nat)}, RelDs K M H ds vs → strsOf ds = some ys → vs = (ys.map strOf).map V.str
  | [], _, _, h, e => by
    unfold RelDs at h
    cases e
    exact h
  | d :: ds, _, ys, h, e => by
    unfold RelDs at h
    obtain ⟨v, r, rfl, h1, h2⟩ := h
    cases d with
    | str s =>
      unfold strsOf at e
      cases e2 : strsOf ds with
      | none => rw [e2] at e; cases e
      | some zs =>
        rw [e2] at e
        cases e
        rw [h1.str, strs_rel h2 e2]
        rfl
    | _ => cases e
theorem rel_strs {K : PySem.W.Frag} : ∀ (ys : List (List Nat)), RelDs K M H (ys.map D.str) ((ys.map strOf).map V.str)
  | [] => .nil
  | y :: ys => .cons (by unfold RelD; rfl) (rel_strs ys)
abbrev rJoin (K : PySem.W.Frag) : V → List V → Hp → VK → Prop := fun x xs H Q => ∃ a p, ∃ ys : List Str, x = .str a ∧ xs = [.ref p] ∧ (SqL K H p (ys.map V.str) ∨ SqT K H p (ys.map V.str)) ∧
    (ys.map (·.length)).sum + ys.length * a.length ≤ 16777216 ∧ Q (.str (Txt.join a ys)) H
theorem px_s1 {r : V → List V → Hp → VK → Prop} {g : D → D → PF.M D} {o e : Expr} {fo fe : E} {E' : Expr} (h : PE X E' (tM1 r (rE nm X fo) (rE nm X fe)))
    (ok : ∀ (M : List Addr) (H : Hp) (S : Sto) (x y : D) (vx vy : V) (d : D) (S' : Sto) (Q : VK), RelS nm X.K X.mg M S H → RelD X.K M H x vx → RelD X.K M H y vy → g x y S = .ok d S' → KD nm X M H S' d Q → r vx [vy] H Q) : PX nm X E' (eS1 g fo fe) :=
  PE.imp h fun σ H Q ⟨M, ρ, S, d, S', rs, re, h, k⟩ => by
    unfold eS1 at h
    obtain ⟨x, S1, h1, h⟩ := bind_inv h
    refine rE.go rs re h1 fun M1 H1 vx e1 r1 q1 => ?_
    split at h
    · rename_i hs
      obtain ⟨y, S2, h2, h⟩ := bind_inv h
      refine ⟨?_, ?_⟩
      · cases x with
        | str s => exact ⟨_, q1.str⟩
        | _ => cases hs
      refine rE.go r1 (re.ext rs e1) h2 fun M2 H2 vy e2 r2 q2 => ?_
      exact ok M2 H2 S2 x y vx vy d S' Q r2 (RelD.ext r1 e2 q1) q2 h (k.ext (e1.trans e2))
    · cases h
theorem px_join {o e : Expr} {fo fe : E} {apos pos : Pos} (ho : PX nm X o fo) (he : PX nm X e fe) (hs : starEach [e] X.env = [(false, eval e X.env)]) (hbase : attributeBase o "join" X.env (eval o X.env) = eval o X.env) (hline : (apos.endLine == pos.line) = true) :
    PX nm X (.Call (.Attribute o "join" apos) [e] [] pos) (eS1 mJoin fo fe) :=
  px_s1 (o := o) (e := e) (pe_join ho he hs hbase hline) fun M H S x y vx vy d S' Q rs hx hy h k => by
    unfold mJoin at h
    cases x with
    | str a =>
      dsimp only at h
      split at h
      · rename_i ds eds
        split at h
        · rename_i ys eys
          split at h
          · rename_i c
            cases h
            have fin : ∀ (p : Addr) (vs : List V), RelDs X.K M H ds vs → (SqL X.K H p vs ∨ SqT X.K H p vs) → rJoin X.K vx [.ref p] H Q := fun p vs q sq => by
              have e := strs_rel q eys
              subst e
              refine ⟨strOf a, p, ys.map strOf, hx.str, rfl, sq, ?_, ?_⟩
              · have e1 : (ys.map strOf).map (·.length) = ys.map (·.length) := by
                  rw [List.map_map]
                  exact List.map_congr_left fun y _ => strOf_len y
                rw [e1, List.length_map, strOf_len]
                exact c
              · have e2 : Txt.join (strOf a) (ys.map strOf) = strOf (joinL a ys) := by rw [joinL_eq]; exact SX.join_S a ys
                rw [e2]
                exact k.here rs (by unfold RelD; rfl)
            cases y with
            | tup es =>
              cases eds
              obtain ⟨b, vs, rfl, hb, qb⟩ := hy.tup
              exact fin b vs qb (.inr hb)
            | ref n =>
              obtain ⟨b, rfl, hb⟩ := hy.ref
              obtain ⟨vs, kb, qb⟩ := rs.lst hb eds
              exact fin b vs qb (.inl kb)
            | _ => cases eds
          · cases h
        · cases h
      · cases h
    | _ => cases h
theorem px_split {o e : Expr} {fo fe : E} {apos pos : Pos} (ho : PX nm X o fo) (he : PX nm X e fe) (hs : starEach [e] X.env = [(false, eval e X.env)]) (hbase : attributeBase o "split" X.env (eval o X.env) = eval o X.env) (hline : (apos.endLine == pos.line) = true) :
    PX nm X (.Call (.Attribute o "split" apos) [e] [] pos) (eS1 mSplit fo fe) :=
  px_s1 (o := o) (e := e) (pe_split ho he hs hbase hline) fun M H S x y vx vy d S' Q rs hx hy h k => by
    unfold mSplit at h
    cases x with
    | str a =>
      cases y with
      | str b =>
        dsimp only at h
        split at h
        · rename_i c
          cases h
          refine ⟨strOf a, strOf b, hx.str, by rw [hy.str], ?_, by rw [strOf_len]; exact c.2.2, fun p hp => ?_⟩
          · rw [strOf_len]
            cases b with
            | nil => exact absurd rfl c.1
            | cons _ _ => rfl
          · have e : Txt.split (strOf a) (strOf b) = (spl b 0 [] a).map strOf := by
              rw [spl_eq]
              exact SX.split_S c.1 c.2.1
            rw [e]
            refine k _ _ _ (Ext.push hp) (rs.push hp ⟨_, upd_same, rel_strs _⟩) ?_
            unfold RelD
            exact ⟨p, rfl, rs.last⟩
        · cases h
      | _ => cases h
    | _ => cases h
theorem opn_intT : OpN nm X (fun xs H Q => ∃ a n, xs = [.str a] ∧ PySem.intText? a = some n ∧ a.length ≤ 640 ∧ Q (.int n) H) fIntT := by
  intro M S H xs vs d S' Q rs q h k
  unfold fIntT at h
  split at h
  · rename_i s
    split at h
    · rename_i c
      cases h
      obtain ⟨v, rfl, q1⟩ := q.one
      refine ⟨strOf s, ((digVal s : Nat) : Int), by rw [q1.str], ?_, by rw [strOf_len]; exact c.2.1, k.here rs .mkI⟩
      have ad : PySem.NumText.AllDigits (strOf s).cps.toList := fun x hx => by
        have hx : x ∈ s := by simpa [strOf] using hx
        exact of_decide_eq_true (List.all_eq_true.mp c.2.2 x hx)
      have z := PySem.intText_digits (x := strOf s) ad (by simpa [strOf] using c.1) (by rw [strOf_len]; omega)
      rw [z]
      rfl
    · cases h
  · cases h
theorem wd_intT {e : Expr} {es : List Expr} {fa : A} {p pos : Pos} (hg : Gl X "int") (hm : X.mg "int" = none) (ha : PXA nm X (e :: es) fa) (he : starEach (e :: es) X.env = (false, eval e X.env) :: starEach es X.env) (hpl : (backTo pos (starEach es X.env)).any (·.1) = false) : PX nm X (.Call (.Name "int" p) (e :: es) [] pos) (eCall fIntT fa) :=
  px_cb (pe_callTy call_int_str hg hm bv_int ha (by decide +kernel) (by decide +kernel) he hpl) opn_intT
theorem every2_range {α : Type} : ∀ (l : List α), (List.range ((l.length + 1) / 2)).filterMap (fun k => l[2 * k]?) = every2 l
  | [] => by
    have e : (([] : List α).length + 1) / 2 = 0 := by simp
    rw [e]
    rfl
  | [x] => by
    have e : ([x].length + 1) / 2 = 1 := by simp
    rw [e]
    rfl
  | x :: y :: r => by
    have e : ((x :: y :: r).length + 1) / 2 = (r.length + 1) / 2 + 1 := by simp only [List.length_cons]; omega
    rw [e, List.range_succ_eq_map, List.filterMap_cons]
    show x :: (List.map Nat.succ _).filterMap _ = x :: every2 r
    rw [List.filterMap_map, ← every2_range r]
    rfl
theorem every2_len {α : Type} : ∀ (l : List α), (every2 l).length ≤ l.length
  | [] => Nat.le_refl _
  | [x] => Nat.le_refl _
  | x :: y :: r => by
    have := every2_len r
    simp only [every2, List.length_cons]
    omega
theorem sliceRange_two (a n : Nat) : sliceRange (a : Int) (n : Int) 2 = (List.range ((n - a + 1) / 2)).map fun k => a + 2 * k := by
  unfold sliceRange
  simp only [show (2 : Int) > 0 by decide, if_true]
  have e : (if (a : Int) < n then ((n : Int) - a + 2 - 1) / 2 else 0).toNat = (n - a + 1) / 2 := by
    split <;> omega
  rw [e]
  exact List.map_congr_left fun k _ => by omega
theorem fmap_congr {α β : Type} {f g : α → Option β} : ∀ {l : List α}, (∀ a ∈ l, f a = g a) → l.filterMap f = l.filterMap g
  | [], _ => rfl
  | a :: l, h => by
    rw [List.filterMap_cons, List.filterMap_cons, h a List.mem_cons_self, fmap_congr fun b hb => h b (List.mem_cons_of_mem _ hb)]
theorem pick_at (items : Array Value) (a : Nat) : ((sliceRange ((min a items.size : Nat) : Int) (items.size : Int) 2).filterMap (items[·]?)).toArray = (every2 (items.toList.drop a)).toArray := by
  rw [sliceRange_two, List.filterMap_map]
  congr 1
  rw [← every2_range]
  have e2 : (items.size - min a items.size + 1) / 2 = ((items.toList.drop a).length + 1) / 2 := by
    rw [List.length_drop, Array.length_toList]
    congr 1
    omega
  rw [e2]
  refine fmap_congr fun k hk => ?_
  have hk := List.mem_range.mp hk
  rw [List.length_drop, Array.length_toList] at hk
  show items[min a items.size + 2 * k]? = _
  rw [List.getElem?_drop, Array.getElem?_toList]
  congr 1
  omega
theorem pick_two (items : Array Value) {lo : Option Int} (h0 : 0 ≤ lo.getD 0) : slicePick items lo none (some 2) = (every2 (items.toList.drop (lo.getD 0).toNat)).toArray := by
  cases lo with
  | none =>
    have z := pick_at items 0
    rw [Nat.zero_min] at z
    exact z
  | some i =>
    have h0 : 0 ≤ i := h0
    have z := pick_at items i.toNat
    have e : ((min i.toNat items.size : Nat) : Int) = max 0 (min (if i < 0 then i + (items.size : Int) else i) (items.size : Int)) := by
      rw [if_neg (by omega)]
      omega
    rw [e] at z
    exact z
theorem vals_every2 : ∀ {xs : List V} {us : List Value}, Vals xs us → Vals (every2 xs) (every2 us)
  | [], _, h => by cases h; exact .nil
  | [x], _, h => by
    cases h with
    | cons a t => cases t; exact .cons a .nil
  | x :: y :: r, _, h => by
    cases h with
    | cons a t =>
      cases t with
      | cons b t => exact .cons a (vals_every2 t)
theorem RelDs.every2 {K : PySem.W.Frag} : ∀ {ds : List D} {vs : List V}, RelDs K M H ds vs → RelDs K M H (every2 ds) (every2 vs)
  | [], _, h => by unfold RelDs at h; subst h; exact .nil
  | [d], _, h => by
    unfold RelDs at h
    obtain ⟨v, r, rfl, h1, h⟩ := h
    unfold RelDs at h
    subst h
    exact .cons h1 .nil
  | d :: d2 :: ds, _, h => by
    unfold RelDs at h
    obtain ⟨v, r, rfl, h1, h⟩ := h
    unfold RelDs at h
    obtain ⟨v2, r, rfl, _, h⟩ := h
    exact .cons h1 (RelDs.every2 h)
def tEvery (K : PySem.W.Frag) (te : TE) (tl : TO) (ts : TO) : TE := fun σ H Q => te σ H fun x H1 => tl σ H1 fun lo H2 => ts σ H2 fun st H3 => st = some 2 ∧ ∃ a xs, x = .ref a ∧ SqL K H3 a xs ∧ 0 ≤ lo.getD 0 ∧ ∀ p, H3 p = none → Q (.ref p) (upd H3 p (.lst (every2 (xs.drop (lo.getD 0).toNat))))
theorem pe_every {e st : Expr} {lo : Option Expr} {te : TE} {tl ts : TO} {p2 pos : Pos} (he : PE X e te) (hl : PO X lo tl) (hs : PO X (some st) ts) : PE X (.Subscript e (.Slice lo none (some st) p2) pos) (tEvery X.K te tl ts) := by
  refine ⟨fun pins s σ H Q I h => ?_⟩
  refine Subscript_ (thn (he.run pins s σ H _ I h) fun v s1 ⟨x, H1, I1, r1, q1⟩ => ?_)
  refine wpAny_Slice (thn (hl.run pins s1 σ H1 _ I1 q1) fun vl s2 ⟨l, H2, I2, pl, q2⟩ => ?_)
  rw [evalPart_none]
  refine wpAny_pure ?_
  refine thn (hs.run pins s2 σ H2 _ I2 q2) fun vs s3 ⟨st', H3, I3, ps, q3⟩ => ?_
  obtain ⟨rfl, a, xs, rfl, hx, h0, q⟩ := q3
  cases r1
  have I4 : Inv X pins σ H3 { s3 with heap := s3.heap.push { cls := .type "slice", data := .fields #[vl, .none, vs] } } := I3.kept (t' := s3.toks) fun b ob q => Heap.get?_push_of_some _ q
  obtain ⟨its, r, ht, hz⟩ := I4.list hx
  have hlen := r.length
  show wpAny (model X.prog X.w) X.A (subscriptTail e (.Slice lo none (some st) p2) (.ref a) (.ref s3.heap.objs.size)) (EP X pins σ Q) X.xe { s3 with heap := s3.heap.push { cls := .type "slice", data := .fields #[vl, .none, vs] } }
  refine tail_any (ops := [.ref a, .ref s3.heap.objs.size]) ht.isList.typeIs slot_list_getitem.lookup ?_ rfl
  refine wpAny_getItem_list_slice ht.isList (Heap.IsSliceOf.new ..) pl .none ps (by decide) ?_ (by rw [List.size_toArray] <;> omega)
  rw [pick_two _ h0]
  refine ⟨.ref _, _, I4.laid (t' := s3.toks) (o := .lst (every2 (xs.drop (l.getD 0).toNat))) (fun b ob q => Heap.get?_push_of_some _ q) (Nat.le_refl _) ?_, rfl, q _ (I4.hok.fresh (Nat.le_refl _))⟩
  refine ⟨Nat.le_trans (every2_len _) (by rw [List.length_drop]; have := r.length; omega), _, 0, vals_every2 (r.drop (l.getD 0).toNat), Heap.get?_push_size _ rfl⟩
theorem px_every {a st : Expr} {lo : Option Expr} {f : E} {l : O} {p2 pos : Pos} (ha : PX nm X a f) (hl : PXO nm X lo l) (hs : PX nm X st (eC (.int 2))) : PX nm X (.Subscript a (.Slice lo none (some st) p2) pos) (eEvery f l) :=
  PE.imp (pe_every ha hl (pxo_some hs)) fun σ H Q ⟨M, ρ, S, d, S', rs, re, h, k⟩ => by
    unfold eEvery at h
    obtain ⟨x, S1, h1, h⟩ := bind_inv h
    obtain ⟨i, S2, h2, h⟩ := bind_inv h
    refine rE.go rs re h1 fun M1 H1 v e1 r1 q1 => ?_
    refine ⟨M1, ρ, S1, i, S2, r1, re.ext rs e1, h2, fun M2 H2 e2 r2 => ?_⟩
    refine ⟨M2, ρ, S2, some 2, S2, r2, (re.ext rs e1).ext r1 e2, rfl, fun M3 H3 e3 r3 => ?_⟩
    have q3 := RelD.ext r2 e3 (RelD.ext r1 e2 q1)
    have kk := k.ext ((e1.trans e2).trans e3)
    refine ⟨rfl, ?_⟩
    unfold gEvery at h
    cases x with
    | ref n =>
      dsimp only at h
      split at h
      · rename_i ds el
        split at h
        · rename_i c
          cases h
          obtain ⟨a, rfl, ha⟩ := q3.ref
          obtain ⟨vs, ka, qa⟩ := r3.lst ha el
          refine ⟨a, vs, rfl, ka, c, fun p hp => ?_⟩
          have ee := Ext.push (M := M3) (o := .lst (every2 (vs.drop (i.getD 0).toNat))) hp
          refine kk _ _ _ ee (r3.push hp ⟨_, upd_same, RelDs.ext r3 ee (RelDs.every2 (qa.drop _))⟩) ?_
          unfold RelD
          exact ⟨p, rfl, r3.last⟩
        · cases h
      · cases h
    | _ => cases h
theorem opn_strA : OpN nm X (fun xs H Q => (∃ i, xs = [.int i] ∧ i.natAbs.log2 < 1920 ∧ Q (.str (toString i)) H) ∨ ∃ a, xs = [.str a] ∧ Q (.str a) H) fStrA := by
  intro M S H xs vs d S' Q rs q h k
  unfold fStrA at h
  split at h
  · split at h
    · rename_i c
      cases h
      obtain ⟨v, rfl, q1⟩ := q.one
      rw [q1.int]
      refine .inl ⟨_, rfl, log_small c, ?_⟩
      rw [← strOf_strI]
      exact k.here rs (by unfold RelD; rfl)
    · cases h
  · cases h
    obtain ⟨v, rfl, q1⟩ := q.one
    rw [q1.str]
    exact .inr ⟨_, rfl, k.here rs (by unfold RelD; rfl)⟩
  · cases h
theorem wd_strA {e : Expr} {es : List Expr} {fa : A} {p pos : Pos} (hg : Gl X "str") (hm : X.mg "str" = none) (ha : PXA nm X (e :: es) fa) (he : starEach (e :: es) X.env = (false, eval e X.env) :: starEach es X.env) (hpl : (backTo pos (starEach es X.env)).any (·.1) = false) : PX nm X (.Call (.Name "str" p) (e :: es) [] pos) (eCall fStrA fa) :=
  px_cb (pe_callTy (PF.CallR.or call_str_int SkE.call_str_str) hg hm bv_str ha (by decide +kernel) (by decide +kernel) he hpl) opn_strA
theorem walk_txt {s : List Nat} : WalkJ nm X (Its (strOf s)) M H ⟨[], charsD s⟩ := by
  have hl : (charsD s).length = (strOf s).cps.size := by unfold charsD strOf; simp
  refine ⟨fun i M2 H2 S2 e r c hi => ?_, fun i d M2 H2 S2 x H3 e r c hd y => ?_, fun i M2 H2 S2 e r c hi => ?_⟩
  · show i < (strOf s).cps.size
    rw [← hl]; exact hi
  · obtain ⟨y1, c, y2, y3⟩ := y
    subst y1
    subst y3
    have hd : (charsD s)[i]? = some d := hd
    unfold charsD at hd
    rw [List.getElem?_map] at hd
    have y2 : s[i]? = some c := by
      have : (strOf s).cps[i]? = s[i]? := by unfold strOf; simp
      rw [← this]; exact y2
    rw [y2] at hd
    cases hd
    exact ⟨Ext.refl, r, .mkS⟩
  · show (strOf s).cps.size ≤ i
    rw [← hl]; exact Nat.le_of_eq hi
theorem pxi_txt {l tg : Expr} {f : E} (hl : PX nm X l f) : PXI nm X tg l (iTxt f) :=
  PI.imp (pi_str hl) fun σ H R ⟨M, ρ, S, it, S', rs, re, h, k⟩ => by
    unfold iTxt at h
    obtain ⟨x, S1, h1, h⟩ := bind_inv h
    refine rE.go rs re h1 fun M1 H1 v e1 r1 q1 => ?_
    cases x with
    | str s =>
      cases h
      exact ⟨strOf s, q1.str, k M1 H1 _ e1 r1 walk_txt⟩
    | _ => cases h
end
end PF
end
section
set_option linter.all false
set_option Elab.async false
set_option linter.all false
set_option maxRecDepth 100003
set_option maxHeartbeats 2000003
set_option autoImplicit false
namespace PF
open PySem PySem.Spec PyProof.Rows L2
theorem keyT_tup {d : D} (h : keyT d = true) : ∃ ds, d = .tup ds ∧ d.plain = true ∧ d.deep ≤ 8 ∧ d.dry = true := by
  unfold keyT tupK at h
  rw [Bool.and_eq_true, Bool.and_eq_true, Bool.and_eq_true] at h
  obtain ⟨⟨⟨h1, h2⟩, h3⟩, h4⟩ := h
  cases d with
  | tup ds => exact ⟨ds, rfl, h2, of_decide_eq_true h3, h4⟩
  | _ => cases h1
theorem RelX.len {K : PySem.W.Frag} {M : List Addr} {H : Hp} : ∀ {kvs : List (D × D)} {xs : List (Int × Addr)}, RelX K M H kvs xs → kvs.length = xs.length
  | [], _, h => by have e : _ = [] := h; subst e; rfl
  | _ :: _, _, h => by
    obtain ⟨_, _, q, rfl, _, _, _, _, h⟩ := h
    simp [RelX.len h]
theorem RelX.snoc {K : PySem.W.Frag} {M : List Addr} {H : Hp} {k : D} {h : Int} {b : Addr} (hk : keyT k = true) (hr : RelD K M H k (.ref b)) (hh : ∀ w : World, (keyN k).hash w = h) : ∀ {kvs : List (D × D)} {xs : List (Int × Addr)}, RelX K M H kvs xs → RelX K M H (kvs ++ [(k, .bl true)]) (xs ++ [(h, b)])
  | [], _, q => by have e : _ = [] := q; subst e; exact ⟨h, b, [], rfl, rfl, hk, hr, hh, rfl⟩
  | _ :: _, _, q => by
    obtain ⟨h1, b1, q1, rfl, e1, e2, e3, e4, q⟩ := q
    exact ⟨h1, b1, _, rfl, e1, e2, e3, e4, RelX.snoc hk hr hh q⟩
section
variable {X : Cx} {pins : List (Addr × Obj)} {σ : L2.St} {M : List Addr} {H : Hp} {s : Shared} {a : Addr}
theorem RelX.plain {K : PySem.W.Frag} : ∀ {kvs : List (D × D)} {xs : List (Int × Addr)}, RelX K M H kvs xs → ∀ p ∈ kvs, p.1.plain = true
  | [], _, _, p, hp => nomatch hp
  | _ :: _, _, h, p, hp => by
    obtain ⟨h1, b1, q1, rfl, e1, e2, e3, e4, q⟩ := h
    rcases List.mem_cons.mp hp with rfl | hp
    · obtain ⟨_, _, z, _⟩ := keyT_tup e2; exact z
    · exact RelX.plain q p hp
end
section
variable {X : Cx} {o i e value : Expr} {pos pos' tpos : Pos} {td ty tv : TE}
end
end PF
namespace PF
open PySem PySem.Spec PyProof.Rows L2
section
variable {nm : Nm} {X : Cx} {M M' : List Addr} {H H' : Hp} {S S' S1 : Sto} {ρ : Env} {σ : L2.St} {Q : VK} {d : D}
end
end PF
end
section
set_option linter.all false
set_option Elab.async false
set_option linter.all false
set_option maxRecDepth 100003
set_option maxHeartbeats 2000003
set_option autoImplicit false
namespace PF
open PySem PySem.Spec PyProof.Rows L2
/-- a class of errors that keeps its row -/
def CalR (nm : Nm) (P : Program) (w : World) (K : PySem.W.Frag) (mg : Str → Option Value) (base : Heap) (c : Nat) (x : Str) : Prop :=
  nm.cls c = x ∧ ∃ (C fI : Addr) (fd : FuncData), OexC K C ∧ PySem.W.findIn K (.ref C) "__init__" = some (some (.ref fI)) ∧ PySem.W.typeIn K (.ref fI) = some (.type "function") ∧
    FnOk P w K mg base CX0 1 fI fd ["self", "row"] (spInit C) ∧ Binds K fd ["self", "row"] [] ∧ mg x = some (.ref C)
section
variable {nm : Nm} {X : Cx} {W : XK}
theorem wx_raiseR {x y : Str} {c : Nat} {p pos pos' : Pos} {e : Expr} {f : E} [ne : NeE f] (hc : X.calm = true) (tk : TkX X W) (ex : x = y) (C : CalR nm X.prog X.w X.K X.mg X.base c y) (hr : Room 2 X.A) (hg : Gl X x) (ha : PX nm X e f) (hdb : (x == ("__debug__" : Str)) = false)
    (he : starEach [e] X.env = (false, eval e X.env) :: starEach [] X.env) (hpl : (backTo pos (starEach [] X.env)).any (·.1) = false) :
    PXX nm X W (.Raise (some (.Call (.Name x p) [e] [] pos)) none pos') (sRaise c (aCons f aNil)) := by
  subst ex
  obtain ⟨ec, C, fI, fd, T, iC, tI, F, hb, hm⟩ := C
  exact xs_raiseR hc tk ec.symm T iC tI F hr hb hg hm ha hdb he hpl
end
end PF
end
section
set_option linter.all false
set_option Elab.async false
set_option linter.all false
set_option maxRecDepth 100003
set_option maxHeartbeats 2000003
set_option autoImplicit false
namespace PF
open PySem PySem.Spec PyProof.Rows L2
section
variable {nm : Nm} {X : Cx} {M M' : List Addr} {H H' : Hp} {S S' S1 : Sto} {σ : L2.St} {Q : VK} {d : D}
def revT (z : Str) : Str := ⟨z.cps.toList.reverse.toArray⟩
theorem revT_made {z : Str} {t u : Tok} (h : z.length ≤ 2) : sliceMade z t none none (some (-1, u)) = .str (revT z) := by
  obtain ⟨⟨l⟩⟩ := z
  rcases l with _ | ⟨a, _ | ⟨b, _ | ⟨c, r⟩⟩⟩
  · rfl
  · have e : slicePicked (⟨⟨[a]⟩⟩ : Str) none none (some (-1, u)) = [0] := by
      show Builtin.Str.strSliceIndices none none (-1) 1 = [0]
      decide +kernel
    unfold sliceMade
    rw [e]
    rfl
  · have e : slicePicked (⟨⟨[a, b]⟩⟩ : Str) none none (some (-1, u)) = [1, 0] := by
      show Builtin.Str.strSliceIndices none none (-1) 2 = [1, 0]
      decide +kernel
    unfold sliceMade
    rw [e]
    rfl
  · exfalso
    have : (c :: r).length + 2 ≤ 2 := by simpa [Str.length] using h
    simp at this
def tRevT (te : TE) : TE := fun σ H Q => te σ H fun x H1 => ∃ z, x = .str z ∧ z.length ≤ 2 ∧ Q (.str (revT z)) H1
theorem pe_revT {e : Expr} {te : TE} {k : Nat} {p1 p2 p3 pos : Pos} (he : PE X e te) : PE X (.Subscript e (.Slice none none (some (.UnaryOp .USub (.Constant (.int 1) k p1) p2)) p3) pos) (tRevT te) := by
  refine ⟨fun pins s σ H Q I h => ?_⟩
  refine Subscript_ (thn (he.run pins s σ H _ I h) fun v s1 ⟨x, H1, I1, r1, q1⟩ => ?_)
  obtain ⟨z, ex, hz, q⟩ := q1
  subst ex
  obtain ⟨t, rfl⟩ := r1
  have hst : PO X (some (.UnaryOp .USub (.Constant (.int 1) k p1) p2)) (tPart (tUn (rU fun i => .int (-i)) (tC (.int 1)))) := po_some (pe_un un_neg pe_int)
  refine wpAny_Slice (thn (po_none.run pins s1 σ H1 (fun o H2 => o = none ∧ H2 = H1) I1 ⟨rfl, rfl⟩) fun vl s2 ⟨l, H2, I2, pl, el, e2⟩ => ?_)
  subst el e2
  refine thn (po_none.run pins s2 σ H2 (fun o H3 => o = none ∧ H3 = H2) I2 ⟨rfl, rfl⟩) fun vu s3 ⟨u, H3, I3, pu, eu, e3⟩ => ?_
  subst eu e3
  refine thn (hst.run pins s3 σ H3 (fun o H4 => o = some (-1) ∧ H4 = H3) I3 ⟨1, rfl, -1, rfl, rfl, rfl⟩) fun vs s4 ⟨o, H4, I4, ps, eo, e4⟩ => ?_
  subst eo e4
  obtain ⟨l, rfl, hl⟩ := IsPart.raw pl
  obtain ⟨u, rfl, hu⟩ := IsPart.raw pu
  obtain ⟨st, rfl, hs⟩ := IsPart.raw ps
  cases l with
  | some _ => cases hl
  | none =>
  cases u with
  | some _ => cases hu
  | none =>
  cases st with
  | none => cases hs
  | some st =>
  obtain ⟨i, ut⟩ := st
  cases hs
  have I5 : Inv X pins σ H4 { s4 with heap := s4.heap.push { cls := .type "slice", data := .fields #[partValue none, partValue none, partValue (some (-1, ut))] } } := I4.kept (t' := s4.toks) fun b ob q => Heap.get?_push_of_some _ q
  have hg : wpAny (model X.prog X.w) X.A (getItem (.str z t) (.ref s4.heap.objs.size)) (EP X pins σ Q) X.xe { s4 with heap := s4.heap.push { cls := .type "slice", data := .fields #[partValue none, partValue none, partValue (some (-1, ut))] } } := by
    refine wpAny_getItem_str_slice (l := none) (u := none) (st := some (-1, ut)) ⟨_, Heap.get?_push_size _ rfl, rfl, rfl⟩ rfl ?_
    rw [revT_made hz]
    have hl : (revT z).length ≤ sizeLine := by
      have : (revT z).length = z.length := by
        show (z.cps.toList.reverse.toArray).size = z.cps.size
        simp
      rw [this]
      exact Nat.le_trans hz (by decide)
    exact ⟨hl, .str _, H4, I5.tok _, ⟨_, rfl⟩, q⟩
  exact tail_any (ops := [.ref s4.heap.objs.size, .str z t]) (typeIs_str _ _ _) PyProof.Rows.slot_str_getitem.lookup hg (by with_unfolding_all rfl)
theorem revT_of (s : List Nat) : revT (strOf s) = strOf s.reverse := by
  unfold revT strOf
  simp
theorem wd_rev {e : Expr} {f : E} {k : Nat} {p1 p2 p3 pos : Pos} (he : PX nm X e f) : PX nm X (.Subscript e (.Slice none none (some (.UnaryOp .USub (.Constant (.int 1) k p1) p2)) p3) pos) (e1 gRev f) :=
  PE.imp (pe_revT he) fun σ H Q ⟨M, ρ, S, d, S', rs, re, h, k⟩ => by
    unfold e1 at h
    obtain ⟨x, S1, h1, h⟩ := bind_inv h
    refine rE.go rs re h1 fun M1 H1 v e1 r1 q1 => ?_
    unfold gRev at h
    cases x with
    | str s =>
      dsimp only at h
      split at h
      · rename_i c
        cases h
        refine ⟨strOf s, q1.str, by unfold strOf; simpa [Str.length] using c, ?_⟩
        rw [revT_of]
        exact k M1 H1 _ e1 r1 (by unfold RelD; rfl)
      · cases h
    | _ => cases h
theorem pys_get {js : List J} {i : Nat} {j : J} (h : js[i]? = some j) : (J.pys js)[i]? = some j.py := by
  induction js generalizing i with
  | nil => cases h
  | cons a r ih =>
    unfold J.pys
    cases i with
    | zero => cases h; rfl
    | succ i => exact ih h
theorem pys_get' {js : List J} {i : Nat} {z : PyData} (h : (J.pys js)[i]? = some z) : ∃ j, js[i]? = some j ∧ z = j.py := by
  induction js generalizing i with
  | nil => unfold J.pys at h; cases h
  | cons a r ih =>
    unfold J.pys at h
    cases i with
    | zero => cases h; exact ⟨a, rfl, rfl⟩
    | succ i => exact ih h
theorem opm_indexN : OpM1 nm X (rIndexD X.K) mIndexN := by
  intro M S H x y vx vy d S' Q rs hx hy h k
  unfold mIndexN at h
  cases x with
  | ref n =>
    dsimp only at h
    split at h
    · rename_i ds el
      split at h
      · rename_i j js e1 e2
        split at h
        · rename_i hlt
          cases h
          obtain ⟨a, rfl, ha⟩ := hx.ref
          obtain ⟨vs, ka, qa⟩ := rs.lst ha el
          have t1 := told_of rs EQD y vy j hy e1
          have t2 := told_all (n := EQD) (told_of rs EQD) qa e2
          refine ⟨a, vy, _, _, js.findIdx (fun z => J.eqv z j), (js[js.findIdx (fun z => J.eqv z j)]'hlt).py, rfl, rfl, .lst ka t2.dp, t1.dp, t2.shaped, t1.shaped, pys_get (List.getElem?_eq_getElem hlt), ?_, fun m z' hm hz => ?_, k.here rs .mkI⟩
          · rw [J.eqv_py]
            exact List.findIdx_getElem (w := hlt)
          · obtain ⟨j', hj, rfl⟩ := pys_get' hz
            rw [J.eqv_py]
            obtain ⟨hml, hme⟩ := List.getElem?_eq_some_iff.mp hj
            have := List.not_of_lt_findIdx hm
            rw [← hme]
            simpa using this
        · cases h
      · cases h
    · cases h
  | _ => cases h
section
variable {o e : Expr} {fo fa : E} {apos cpos : Pos}
theorem wd_indexN (hu : X.A.units + 65 < cLine) (ho : PX nm X o fo) (ha : PX nm X e fa) (hbase : attributeBase o "index" X.env (eval o X.env) = eval o X.env)
    (hfew : ((backTo cpos (starEach [e] X.env)).all (fun x => !x.1) && (backToKw cpos (keywordEach [] X.env)).all (fun x => x.1.isSome) && decide ([e].length + ([] : List Keyword).length + (if ([] : List Keyword).isEmpty then 0 else 1) < 30)) = true)
    (hline : (apos.endLine == cpos.line) = true) (hs : starEach [e] X.env = (false, eval e X.env) :: starEach [] X.env) (hp : (backTo cpos (starEach [] X.env)).any (·.1) = false) : PX nm X (.Call (.Attribute o "index" apos) [e] [] cpos) (eM1 mIndexN fo fa) :=
  px_m1 (pe_bm PySem.F.plainAttrs_list PySem.F.slot_list_index PySem.F.type_list_index (mt_indexD hu) ho (pa_cons ha pa_nil hs) hbase hfew hline hs hp) opm_indexN
end
end
end PF
end
section
set_option linter.all false
set_option Elab.async false
set_option linter.all false
set_option maxRecDepth 100003
set_option maxHeartbeats 4000003
set_option autoImplicit false
namespace Gk22
open PySem L2 PF PG
def top (i : Nat) : Stmt := PySem.Challenge.pw_boxwitness_k22_texts_of_no_programs.main.body.getD i (.Pass ⟨0, 0, 0, 0⟩)
theorem kz_put : strOf z_put = ("put" : Str) := by decide +kernel
theorem kz_copy : strOf z_copy = ("copy" : Str) := by decide +kernel
theorem kz_less : strOf z_less = ("less" : Str) := by decide +kernel
theorem kz_take : strOf z_take = ("take" : Str) := by decide +kernel
theorem kz_add : strOf z_add = ("add" : Str) := by decide +kernel
theorem kz_call : strOf z_call = ("call" : Str) := by decide +kernel
theorem kz_say : strOf z_say = ("say" : Str) := by decide +kernel
theorem kz_if : strOf z_if = ("if" : Str) := by decide +kernel
theorem kz_end : strOf z_end = ("end" : Str) := by decide +kernel
theorem kz_go : strOf z_go = ("go" : Str) := by decide +kernel
theorem kz_d : strOf z_d = ("d" : Str) := by decide +kernel
theorem kz_a : strOf z_a = ("a" : Str) := by decide +kernel
theorem kz_n : strOf z_n = ("n" : Str) := by decide +kernel
theorem kz_r : strOf z_r = ("r" : Str) := by decide +kernel
theorem kz_empty : strOf z_empty = ("" : Str) := by decide +kernel
theorem kz_box : strOf z_box = ("box" : Str) := by decide +kernel
theorem kz_load : strOf z_load = ("load" : Str) := by decide +kernel
theorem kz_names : strOf z_names = ("names" : Str) := by decide +kernel
theorem kz__ : strOf z__ = (" " : Str) := by decide +kernel
theorem kz___38 : strOf z___38 = ("\n" : Str) := by decide +kernel
theorem kz_params : strOf z_params = ("params" : Str) := by decide +kernel
theorem kz_0123456789 : strOf z_0123456789 = ("0123456789" : Str) := by decide +kernel
theorem kz_0 : strOf z_0 = ("0" : Str) := by decide +kernel
theorem kz_names_1_params_0_end : strOf z_names_1_params_0_end = ("names 1 params 0\nend" : Str) := by decide +kernel
theorem kz_params_0_names_1_end : strOf z_params_0_names_1_end = ("params 0 names 1\nend" : Str) := by decide +kernel
theorem kz_params_0_names_1_ : strOf z_params_0_names_1_ = ("params 0 names 1\n" : Str) := by decide +kernel
theorem kz_params_0_names_1 : strOf z_params_0_names_1 = ("params 0 names 1" : Str) := by decide +kernel
theorem kz_params_0_names_1_go_1 : strOf z_params_0_names_1_go_1 = ("params 0 names 1\ngo 1" : Str) := by decide +kernel
theorem kz_params_0_names_1_end_ : strOf z_params_0_names_1_end_ = ("params 0 names 1\nend " : Str) := by decide +kernel
theorem kz_params_0_names_0_end : strOf z_params_0_names_0_end = ("params 0 names 0\nend" : Str) := by decide +kernel
theorem kz_params_2_names_1_end : strOf z_params_2_names_1_end = ("params 2 names 1\nend" : Str) := by decide +kernel
theorem kz_0123456789____abcdefghijklmnopqrstuvwxyz___________________ABCDEFGHIJKLMNOPQRSTUVWXYZ_______ : strOf z_0123456789____abcdefghijklmnopqrstuvwxyz___________________ABCDEFGHIJKLMNOPQRSTUVWXYZ_______ = ("0123456789 |,\nabcdefghijklmnopqrstuvwxyz!#$&'()*+-./:;<=>?@ABCDEFGHIJKLMNOPQRSTUVWXYZ[]^_{}~" : Str) := by decide +kernel
theorem kz__1 : strOf z__1 = ("-1" : Str) := by decide +kernel
theorem kz_1000 : strOf z_1000 = ("1000" : Str) := by decide +kernel
theorem kz_999 : strOf z_999 = ("999" : Str) := by decide +kernel
theorem kz_24 : strOf z_24 = ("24" : Str) := by decide +kernel
theorem kz_23 : strOf z_23 = ("23" : Str) := by decide +kernel
theorem kz_9 : strOf z_9 = ("9" : Str) := by decide +kernel
theorem kz_07 : strOf z_07 = ("07" : Str) := by decide +kernel
theorem kz_00 : strOf z_00 = ("00" : Str) := by decide +kernel
theorem kz___62 : strOf z___62 = ("|" : Str) := by decide +kernel
theorem kz_BadText : strOf z_BadText = ("BadText" : Str) := by decide +kernel
def nms : List Str := ["rows", "at", "said", "done", "numbers", "many", "frame", "names", "held"]
def nm0 (tA tB : Addr) : Nm := nmOfT ["Run", "Junk", "Marks", "!3", "!4", "!5", "!6", "!7", "!8", "!9", "BadChoice", "BadCount", "BadFrame", "BadGiven", "BadPaper", "BadProgram", "BadText", "NoRoom", "TooMany", "!19", "_law_read.<locals>.<lambda>", "law.<locals>.<lambda>"] nms (by decide +kernel) (by decide +kernel) [20, 21] (fun c => if c = 20 then tA else tB)
theorem dbg_FIGURES : (("FIGURES" : Str) == ("__debug__" : Str)) = false := by decide +kernel
theorem dbg_MOST_FIGURES : (("MOST_FIGURES" : Str) == ("__debug__" : Str)) = false := by decide +kernel
theorem dbg_MOST_NAMES : (("MOST_NAMES" : Str) == ("__debug__" : Str)) = false := by decide +kernel
theorem dbg_MOST_ROWS : (("MOST_ROWS" : Str) == ("__debug__" : Str)) = false := by decide +kernel
theorem dbg_NAMES : (("NAMES" : Str) == ("__debug__" : Str)) = false := by decide +kernel
theorem dbg_PARAMS : (("PARAMS" : Str) == ("__debug__" : Str)) = false := by decide +kernel
theorem dbg_RING : (("RING" : Str) == ("__debug__" : Str)) = false := by decide +kernel
theorem dbg_SHAPES : (("SHAPES" : Str) == ("__debug__" : Str)) = false := by decide +kernel
theorem dbg__law_alike : (("_law_alike" : Str) == ("__debug__" : Str)) = false := by decide +kernel
theorem dbg__law_begun : (("_law_begun" : Str) == ("__debug__" : Str)) = false := by decide +kernel
theorem dbg__law_line : (("_law_line" : Str) == ("__debug__" : Str)) = false := by decide +kernel
theorem dbg__law_number : (("_law_number" : Str) == ("__debug__" : Str)) = false := by decide +kernel
theorem dbg__law_program : (("_law_program" : Str) == ("__debug__" : Str)) = false := by decide +kernel
theorem dbg__law_read : (("_law_read" : Str) == ("__debug__" : Str)) = false := by decide +kernel
theorem dbg__law_row : (("_law_row" : Str) == ("__debug__" : Str)) = false := by decide +kernel
theorem dbg__law_spoilt : (("_law_spoilt" : Str) == ("__debug__" : Str)) = false := by decide +kernel
theorem dbg__law_take : (("_law_take" : Str) == ("__debug__" : Str)) = false := by decide +kernel
theorem dbg_is_number : (("is_number" : Str) == ("__debug__" : Str)) = false := by decide +kernel
theorem dbg_is_row : (("is_row" : Str) == ("__debug__" : Str)) = false := by decide +kernel
theorem dbg_need_program : (("need_program" : Str) == ("__debug__" : Str)) = false := by decide +kernel
theorem dbg_number_of : (("number_of" : Str) == ("__debug__" : Str)) = false := by decide +kernel
theorem dbg_read : (("read" : Str) == ("__debug__" : Str)) = false := by decide +kernel
theorem dbg_row_of : (("row_of" : Str) == ("__debug__" : Str)) = false := by decide +kernel
theorem dbg_written : (("written" : Str) == ("__debug__" : Str)) = false := by decide +kernel
open PySem PySem.Spec PyProof.Rows L2 PF PG
abbrev s_told : Stmt := (top 32)
def toldN : List Str := ["_law_work", "e", "_law_kinds", "_law_words", "_law_word"]
theorem sc_told : FnScope toldN ["_law_work"] (defScope s_told) := ⟨rfl, rfl, rfl, by decide +kernel, rfl, by decide +kernel, by decide +kernel⟩
def su_told : List Stmt := match defBody s_told with
  | [.Try _ [.ExceptHandler _ _ b _] _ _ _] => b
  | _ => []
section
variable {P : Program} {w : World} {K : PySem.W.Frag} {mg : Str → Option Value} {base : Heap} {A : Around} {outer : List PySem.Env} {s : Shared} {H : Hp} {E : XK} {g a D : Addr} {cdv : Value} {d : Option Addr} {oe : Obj} {pn : List (Addr × Obj)} {N : Nine}
theorem d_told (X : Cx) (hX : X = (cxOf C8.CX0 P w K mg base toldN "_law_told" (defScope s_told) g cdv A outer s H E).nox) 
    (m_i : mg "isinstance" = none) (m_v : mg "ValueError" = none)
    (m0 : mg "BadChoice" = some (.ref N.c0)) (m1 : mg "BadCount" = some (.ref N.c1)) (m2 : mg "BadFrame" = some (.ref N.c2)) (m3 : mg "BadGiven" = some (.ref N.c3)) (m4 : mg "BadPaper" = some (.ref N.c4)) (m5 : mg "BadProgram" = some (.ref N.c5)) (m6 : mg "BadText" = some (.ref N.c6)) (m7 : mg "NoRoom" = some (.ref N.c7)) (m8 : mg "TooMany" = some (.ref N.c8))
    (C : ExcC K D) (Xf : XfC K D) (hno : PySem.W.findIn K (.ref D) "row" = some none) (hz : Zc (.ref D) d oe) (hf : ∃ vs, oe.data = .fields vs) :
    PSs ((cxOf C8.CX0 P w K mg base toldN "_law_told" (defScope s_told) g cdv A outer s H E).nox.suite a ((a, oe) :: pn)) su_told (tTold K D a d N) := by
  have nds : toldN.Nodup := sc_told.nd
  unfold tTold
  exact pss_cons (ps_set nds rfl (.inl rfl) (pe_lst (pa_cons (pe_callB (call_isX C hz hf) rfl m_i rfl (pa_cons (pe_var rfl (.inl rfl)) (pa_cons (pe_glob rfl m0 rfl) pa_nil))) (pa_cons (pe_callB (call_isX C hz hf) rfl m_i rfl (pa_cons (pe_var rfl (.inl rfl)) (pa_cons (pe_glob rfl m1 rfl) pa_nil))) (pa_cons (pe_callB (call_isX C hz hf) rfl m_i rfl (pa_cons (pe_var rfl (.inl rfl)) (pa_cons (pe_glob rfl m2 rfl) pa_nil))) (pa_cons (pe_callB (call_isX C hz hf) rfl m_i rfl (pa_cons (pe_var rfl (.inl rfl)) (pa_cons (pe_glob rfl m3 rfl) pa_nil))) pa_nil))))))
    (pss_cons (ps_set nds rfl (.inl rfl) (pe_op op_cat (pe_var rfl (.inl rfl)) (pe_lst (pa_cons (pe_callB (call_isX C hz hf) rfl m_i rfl (pa_cons (pe_var rfl (.inl rfl)) (pa_cons (pe_glob rfl m4 rfl) pa_nil))) (pa_cons (pe_callB (call_isX C hz hf) rfl m_i rfl (pa_cons (pe_var rfl (.inl rfl)) (pa_cons (pe_glob rfl m5 rfl) pa_nil))) (pa_cons (pe_callB (call_isX C hz hf) rfl m_i rfl (pa_cons (pe_var rfl (.inl rfl)) (pa_cons (pe_glob rfl m6 rfl) pa_nil))) pa_nil))))))
    (pss_cons (ps_set nds rfl (.inl rfl) (pe_op op_cat (pe_var rfl (.inl rfl)) (pe_lst (pa_cons (pe_callB (call_isX C hz hf) rfl m_i rfl (pa_cons (pe_var rfl (.inl rfl)) (pa_cons (pe_glob rfl m7 rfl) pa_nil))) (pa_cons (pe_callB (call_isX C hz hf) rfl m_i rfl (pa_cons (pe_var rfl (.inl rfl)) (pa_cons (pe_glob rfl m8 rfl) pa_nil))) pa_nil)))))
    (pss_cons (ps_if (PW.pt (pw_or (pt_cmp (pc_neI (pe_bm PySem.F.plainAttrs_list PySem.F.slot_list_count PySem.F.type_list_count mt_countB (pe_var rfl (.inl rfl)) (pa_cons pe_bl pa_nil)) pe_int)) (pw_or1 (pt_not (pt_val (pe_callB (call_isX C hz hf) rfl m_i rfl (pa_cons (pe_var rfl (.inl rfl)) (pa_cons (pe_bltn rfl m_v rfl rfl) pa_nil)))))))) (pss_one (ps_ret (pe_tup (pa_cons pe_str (pa_cons pe_int pa_nil))))) pss_nil)
    (pss_cons (ps_set nds rfl (.inl rfl) (pe_lst (pa_cons pe_str (pa_cons pe_str (pa_cons pe_str (pa_cons pe_str (pa_cons pe_str (pa_cons pe_str (pa_cons pe_str (pa_cons pe_str pa_nil))))))))))
    (pss_cons (ps_set nds rfl (.inl rfl) (pe_ix ix_list (pe_op op_cat (pe_var rfl (.inl rfl)) (pe_lst (pa_cons pe_str pa_nil))) (pe_bm PySem.F.plainAttrs_list PySem.F.slot_list_index PySem.F.type_list_index mt_index (pe_var rfl (.inl rfl)) (pa_cons pe_bl pa_nil)) (fun _ _ => rfl)))
    (pss_one (ps_ret (pe_tup (pa_cons (pe_var rfl (.inl rfl)) (pa_cons (pe_ifExp (pt_cmpR op_in_seq (pe_var rfl (.inl rfl)) (pe_tup (pa_cons pe_str (pa_cons pe_str (pa_cons pe_str (pa_cons pe_str pa_nil))))) rfl) (pe_xf Xf hno hz hf (pe_var rfl (.inl rfl))) pe_int) pa_nil))))))))))
end
end Gk22
namespace Gk22
open PySem PySem.Spec PyProof.Rows L2 LamX PF PG
structure ToldOk (nm : Nm) (K : PySem.W.Frag) (mg : Str → Option Value) (tabs : List (Nat × Nat)) (N : Nine) (BX g : Addr) : Prop where
  cov : ∀ c ∈ nm.tabs, ∃ n, (n, c) ∈ tabs
  no : ∀ p ∈ tabs, mg (nm.cls p.2) = none
  m_i : mg "isinstance" = none
  m_v : mg "ValueError" = none
  m0 : mg "BadChoice" = some (.ref N.c0)
  m1 : mg "BadCount" = some (.ref N.c1)
  m2 : mg "BadFrame" = some (.ref N.c2)
  m3 : mg "BadGiven" = some (.ref N.c3)
  m4 : mg "BadPaper" = some (.ref N.c4)
  m5 : mg "BadProgram" = some (.ref N.c5)
  m6 : mg "BadText" = some (.ref N.c6)
  m7 : mg "NoRoom" = some (.ref N.c7)
  m8 : mg "TooMany" = some (.ref N.c8)
  mB : mg "BoxError" = some (.ref BX)
  nine : ∀ i, i < 9 → ∃ D, mg (nm.cls (10 + i)) = some (.ref D) ∧ ErrOk K N BX D i
  at_ : mg "_law_told" = some (.ref g)
  kp : PySem.W.keepIn K (.ref g) = true
  fn : ∃ (oc : Value) (od : Option Addr) (dV kV doc pm : Value) (an : Option Addr) (cdv ct : Value) (osl : Array (Option Value)),
    K.lookup g = some ⟨oc, od, .func (PySem.W.fnOf "_law_told" "_law_told" (defArgs s_told) (defBody s_told) (defScope s_told) dV kV doc pm an cdv ct), osl⟩ ∧ PySem.W.codeIn K cdv "_law_told" = true ∧
      Binds K (PySem.W.fnOf "_law_told" "_law_told" (defArgs s_told) (defBody s_told) (defScope s_told) dV kV doc pm an cdv ct) ["_law_work"] []
theorem wd_told {nm : Nm} {X : Cx} {tabs : List (Nat × Nat)} {N : Nine} {BX g c P : Addr} {k : Nat} {params : Arguments} {body : Expr} {scope : Scope} {p lpos pos : Pos} {fb : E} (T : ToldOk nm X.K X.mg tabs N BX g) (TB : TabB X.base X.mg c P) (hcode : X.env.code = .ref c)
    (hmT : (P, X.env.qual ++ "<lambda>") ∈ tabs.map (fun p => (nm.tab p.2, nm.cls p.2))) (hu : ∀ p ∈ tabs.map (fun p => (nm.tab p.2, nm.cls p.2)), p.1 = P → p.2 = X.env.qual ++ "<lambda>") (hg : Gl X "_law_told") (hr : Room (k + 2) X.A) (L : LamS X.env.scope scope) (hdef : defaultsOf params X.env = ([], []))
    (hbind : ∀ (q : Str) (cl : List (Str × Addr)) (pm cv ctv : Value), bindArgs (PySem.W.kla_fn "<lambda>" q params body scope cl pm cv ctv) ⟨[], []⟩ = pure [])
    (hbody : ∀ (A : Around) (outer : List PySem.Env) (s : Shared) (H : Hp) (E : XK) (f c' : Addr), Room k (A.deeper (lamEnv X scope s.heap.objs.size f c')) → PE (lamCx X A outer s H E scope f c') body (rEX nm X E fb)) :
    PX nm X (.Call (.Name "_law_told" p) [.Lambda params body scope lpos] [] pos) (eTold tabs fb) := by
  obtain ⟨oc, od, dV, kV, doc, pm, an, cdv, ct, osl, lk, hcg, hb⟩ := T.fn
  refine px_told T.cov T.no T.nine (pe_lamcall (Ng := toldN) (TT := TTold2 X.K N BX) hg T.at_ T.kp lk hcg hb sc_told rfl (.inl rfl) ?_ TB hcode hmT hu hr L hdef hbind hbody)
  exact told_gives2 (b₀ := su_told.head (by decide)) (suite := su_told.tail) (bx := "BoxError") (en := "e") (by decide) rfl T.mB (by decide) sc_told.nd rfl rfl (fun _ => rfl) fun s H a oe D i d pn ok hz hf => d_told _ rfl T.m_i T.m_v T.m0 T.m1 T.m2 T.m3 T.m4 T.m5 T.m6 T.m7 T.m8 ok.ex ok.xf ok.no hz hf
structure Txt (P : Program) (base : Heap) (w : World) (K : PySem.W.Frag) (mg : Str → Option Value) (N : Nine) (BX gT tA tB c__law_read c_law : Addr) : Prop where
  m_bool : mg "bool" = none
  m_enumerate : mg "enumerate" = none
  m_int : mg "int" = none
  m_isinstance : mg "isinstance" = none
  m_len : mg "len" = none
  m_list : mg "list" = none
  m_min : mg "min" = none
  m_range : mg "range" = none
  m_str : mg "str" = none
  m_tuple : mg "tuple" = none
  m_FIGURES : GlS mg "FIGURES" z_0123456789
  m_MOST_FIGURES : GlI mg "MOST_FIGURES" 3
  m_MOST_NAMES : GlI mg "MOST_NAMES" 8
  m_MOST_ROWS : GlI mg "MOST_ROWS" 24
  m_NAMES : GlS mg "NAMES" z_names
  m_PARAMS : GlS mg "PARAMS" z_params
  m_RING : GlI mg "RING" 1000
  m_SHAPES : GlD K w mg "SHAPES" t_SHAPES
  x_BadProgram : CalR (nm0 tA tB) P w K mg base 15 "BadProgram"
  x_BadText : CalR (nm0 tA tB) P w K mg base 16 "BadText"
  told : ToldOk (nm0 tA tB) K mg [(1, 20), (2, 21)] N BX gT
  tb__law_read : TabB base mg c__law_read tA
  tb_law : TabB base mg c_law tB
  tne : tA ≠ tB
theorem ql__law_read : ("_law_read" : Str) ++ ".<locals>." ++ "<lambda>" = (nm0 0 0).cls 20 := by decide +kernel
theorem tm__law_read {tA tB n f : Addr} {sc : Scope} {cd : Value} : (tA, (PyProof.Rows.envOfC "_law_read" sc n f cd).qual ++ "<lambda>") ∈ [(1, 20), (2, 21)].map (fun p : Nat × Nat => ((nm0 tA tB).tab p.2, (nm0 tA tB).cls p.2)) := by
  show (tA, ("_law_read" : Str) ++ ".<locals>." ++ "<lambda>") ∈ _
  rw [ql__law_read]
  exact List.Mem.head _
theorem tu__law_read {tA tB n f : Addr} {sc : Scope} {cd : Value} (ne : tA ≠ tB) : ∀ p ∈ [(1, 20), (2, 21)].map (fun p : Nat × Nat => ((nm0 tA tB).tab p.2, (nm0 tA tB).cls p.2)), p.1 = tA → p.2 = (PyProof.Rows.envOfC "_law_read" sc n f cd).qual ++ "<lambda>" := fun p hp e => by
  rcases List.mem_cons.mp hp with h | h
  · subst h; exact ql__law_read.symm
  · rcases List.mem_cons.mp h with h | h
    · subst h; exact absurd e.symm ne
    · cases h
theorem ql_law : ("law" : Str) ++ ".<locals>." ++ "<lambda>" = (nm0 0 0).cls 21 := by decide +kernel
theorem tm_law {tA tB n f : Addr} {sc : Scope} {cd : Value} : (tB, (PyProof.Rows.envOfC "law" sc n f cd).qual ++ "<lambda>") ∈ [(1, 20), (2, 21)].map (fun p : Nat × Nat => ((nm0 tA tB).tab p.2, (nm0 tA tB).cls p.2)) := by
  show (tB, ("law" : Str) ++ ".<locals>." ++ "<lambda>") ∈ _
  rw [ql_law]
  exact List.Mem.tail _ (List.Mem.head _)
theorem tu_law {tA tB n f : Addr} {sc : Scope} {cd : Value} (ne : tA ≠ tB) : ∀ p ∈ [(1, 20), (2, 21)].map (fun p : Nat × Nat => ((nm0 tA tB).tab p.2, (nm0 tA tB).cls p.2)), p.1 = tB → p.2 = (PyProof.Rows.envOfC "law" sc n f cd).qual ++ "<lambda>" := fun p hp e => by
  rcases List.mem_cons.mp hp with h | h
  · subst h; exact absurd e ne
  · rcases List.mem_cons.mp h with h | h
    · subst h; exact ql_law.symm
    · cases h
theorem dbg_BadProgram : (("BadProgram" : Str) == ("__debug__" : Str)) = false := by decide +kernel
theorem dbg_BadText : (("BadText" : Str) == ("__debug__" : Str)) = false := by decide +kernel
section
variable {P : Program} {w : World} {K : PySem.W.Frag} {mg : Str → Option Value} {base : Heap} {N : Nine} {BX gT tA tB c__law_read c_law : Addr}
abbrev s__law_begun : Stmt := (top 29)
theorem sc__law_begun : FnScope ["_law_script", "_law_stirred", "_law_cell"] ["_law_script"] (defScope s__law_begun) := ⟨rfl, rfl, rfl, by decide +kernel, rfl, by decide +kernel, by decide +kernel⟩
theorem nd__law_begun : (["_law_script", "_law_stirred", "_law_cell"] : List Str).all ndbg = true := by decide +kernel
theorem d__law_begun (T : Txt P base w K mg N BX gT tA tB c__law_read c_law) {f : Addr} {fd : FuncData} (F : Fun K "_law_begun" "_law_begun" s__law_begun f fd) : FnOk P w K mg base CX0 1 f fd ["_law_script"] (spF (nm0 tA tB) K mg 1 f__law_begun) :=
  fn_ok F sc__law_begun fun cdv A outer s H E hr =>
    have nds : (["_law_script", "_law_stirred", "_law_cell"] : List Str).Nodup := sc__law_begun.nd
    have nd := nd__law_begun
    pxss_cons (pxs_set nds rfl (.inl rfl) (px_int) rfl (.inr rfl))
    (pxss_cons (pxs_for PassesOwn.never rfl (pxi_seq (wv nd rfl (.inl rfl))) (pg_name nds rfl (.inl rfl) (.inr rfl)) (gok_name 2) (pxss_one (pxs_set nds rfl (.inl rfl) (px_op op_mod op2_mod (px_op op_addA op2_add (px_op op_addA op2_add (px_op op_mulA op2_mul (wv nd rfl (.inl rfl)) (px_int)) (px_op op_mulA op2_mul (px_op op_mod op2_mod (wv nd rfl (.inl rfl)) (px_int)) (px_int))) (px_int)) (px_int)) rfl (.inr rfl))) (fun _ => rfl))
    (pxss_one (pxs_ret (px_lst (pxa_cons (wd_list rfl T.m_list (pxa_cons (wv nd rfl (.inl rfl)) (pxa_nil) rfl) rfl rfl) (pxa_cons (px_op op_mulA op2_mul (wv nd rfl (.inl rfl)) (wd_int rfl T.m_int (pxa_cons (px_cmp op_gt op2_cmp (wd_len rfl T.m_len (pxa_cons (wv nd rfl (.inl rfl)) (pxa_nil) rfl) rfl rfl) (px_int) rfl) (pxa_nil) rfl) rfl rfl)) (pxa_nil) rfl) rfl) (by decide) (len_cons (len_cons (len_nil)))))))
abbrev s_is_number : Stmt := (top 16)
theorem sc_is_number : FnScope ["part", "low", "high"] ["part", "low", "high"] (defScope s_is_number) := ⟨rfl, rfl, rfl, by decide +kernel, rfl, by decide +kernel, by decide +kernel⟩
theorem nd_is_number : (["part", "low", "high"] : List Str).all ndbg = true := by decide +kernel
set_option synthInstance.maxHeartbeats 0 in
set_option synthInstance.maxSize 4000 in
instance : NeF f_is_number := by unfold f_is_number b_is_number; exact fn_calm
theorem d_is_number (T : Txt P base w K mg N BX gT tA tB c__law_read c_law) {f : Addr} {fd : FuncData} (F : Fun K "is_number" "is_number" s_is_number f fd) : FnOk P w K mg base CX0 1 f fd ["part", "low", "high"] (spF (nm0 tA tB) K mg 3 f_is_number) :=
  fn_ok F sc_is_number fun cdv A outer s H E hr =>
    have nds : (["part", "low", "high"] : List Str).Nodup := sc_is_number.nd
    have nd := nd_is_number
    pxss_one (pxs_ret (px_and (px_isi .int rfl (wv nd rfl (.inl rfl)) rfl T.m_isinstance rfl T.m_int rfl rfl rfl) (px_and (px_not (px_isi .bool rfl (wv nd rfl (.inl rfl)) rfl T.m_isinstance rfl T.m_bool rfl rfl rfl)) (px_one (px_chain op_le op2_cmp op_le op2_cmp (wv nd rfl (.inl rfl)) (wv nd rfl (.inl rfl)) (wv nd rfl (.inl rfl)) rfl)))))
abbrev s_is_row : Stmt := (top 17)
theorem sc_is_row : FnScope ["row", "names", "many", "shape", "most", "k"] ["row", "names", "many"] (defScope s_is_row) := ⟨rfl, rfl, rfl, by decide +kernel, rfl, by decide +kernel, by decide +kernel⟩
theorem nd_is_row : (["row", "names", "many", "shape", "most", "k"] : List Str).all ndbg = true := by decide +kernel
set_option synthInstance.maxHeartbeats 0 in
set_option synthInstance.maxSize 4000 in
instance : NeF f_is_row := by unfold f_is_row b_is_row; exact fn_calm
theorem d_is_row (T : Txt P base w K mg N BX gT tA tB c__law_read c_law) (C_is_number : Cal (nm0 tA tB) P w K mg base 1 "is_number" ["part", "low", "high"] f_is_number) {f : Addr} {fd : FuncData} (F : Fun K "is_row" "is_row" s_is_row f fd) : FnOk P w K mg base CX0 2 f fd ["row", "names", "many"] (spF (nm0 tA tB) K mg 3 f_is_row) :=
  fn_ok F sc_is_row fun cdv A outer s H E hr =>
    have nds : (["row", "names", "many", "shape", "most", "k"] : List Str).Nodup := sc_is_row.nd
    have nd := nd_is_row
    pxss_cons (pxs_if (pxt_w (pxw_or (pxt_not (pxt_val (px_isi .tup rfl (wv nd rfl (.inr (.inl rfl))) rfl T.m_isinstance rfl T.m_tuple rfl rfl rfl) (fun _ => rfl))) (pxw_or (pxt_cmp (op_eqA (hu64 hr)) op2_eq (wd_len rfl T.m_len (pxa_cons (wv nd rfl (.inr (.inl rfl))) (pxa_nil) rfl) rfl rfl) (px_int) rfl) (pxw_or1 (pxt_not (pxt_val (px_isi .str rfl (px_ix (wv nd rfl (.inr (.inl rfl))) (px_int) (fun _ _ => rfl)) rfl T.m_isinstance rfl T.m_str rfl rfl rfl) (fun _ => rfl))))))) (pxss_one (pxs_ret (px_bl))) (pxss_nil))
    (pxss_cons (pxs_set nds rfl (.inr rfl) (wd_kget T.m_SHAPES rfl dbg_SHAPES (px_ix (wv nd rfl (.inr (.inl rfl))) (px_int) (fun _ _ => rfl)) (px_non) ⟨rfl, rfl, rfl, rfl⟩) rfl (.inl rfl))
    (pxss_cons (pxs_if (pxt_w (pxw_or (pxt_isN (wv nd rfl (.inr (.inl rfl)))) (pxw_or1 (pxt_cmp (op_neA (hu64 hr)) op2_ne (wd_len rfl T.m_len (pxa_cons (wv nd rfl (.inr (.inl rfl))) (pxa_nil) rfl) rfl rfl) (px_op op_addA op2_add (wd_len rfl T.m_len (pxa_cons (wv nd rfl (.inr (.inl rfl))) (pxa_nil) rfl) rfl rfl) (px_int)) rfl)))) (pxss_one (pxs_ret (px_bl))) (pxss_nil))
    (pxss_cons (pxs_set nds rfl (.inr rfl) (px_disp (pxp_cons (px_str kz_d) (px_op op_sub op2_sub (wv nd rfl (.inl rfl)) (px_int)) (pxp_cons (px_str kz_a) (px_op op_sub op2_sub (wv nd rfl (.inl rfl)) (px_int)) (pxp_cons (px_str kz_n) (px_op op_sub op2_sub (wd_globI T.m_RING rfl dbg_RING) (px_int)) (pxp_cons (px_str kz_r) (px_op op_sub op2_sub (wv nd rfl (.inl rfl)) (px_int)) (pxp_nil))))) rfl rfl (by simp) (by decide) (by decide)) rfl (.inl rfl))
    (pxss_one (pxs_ret (px_cmp (op_eqA (hu64 hr)) op2_eq (px_lc rfl nds (own := [("k", 5)]) (pxi_range1 rfl T.m_range (wd_len rfl T.m_len (pxa_cons (wv nd rfl (.inr (.inl rfl))) (pxa_nil) rfl) rfl rfl) rfl) (blkOk_by (by kernel_rfl)) (by decide) (gok_name 5) (fun _ _ _ _ _ => pg_name nds rfl (.inl rfl) (.inr rfl)) (fun _ _ _ _ _ => pxts_one (pxt_not (pxt_val (wd_call C_is_number (alen_cons (alen_cons (alen_cons (alen_nil)))) (hr.mono (by decide)) rfl (pxa_cons (px_ix (wv nd rfl (.inr (.inl rfl))) (px_op op_addA op2_add (wv nd rfl (.inl rfl)) (px_int)) (fun _ _ => rfl)) (pxa_cons (px_int) (pxa_cons (px_dx (hu1 hr) (wv nd rfl (.inr (.inl rfl))) (px_ix (wv nd rfl (.inr (.inl rfl))) (wv nd rfl (.inl rfl)) (fun _ _ => rfl)) (fun _ _ => rfl)) (pxa_nil) rfl) rfl) rfl) dbg_is_number rfl rfl) (fun _ => rfl)))) (fun _ _ _ _ _ => wv nd rfl (.inl rfl)) (fun _ => rfl)) (px_lst (pxa_nil) (by decide) (len_nil)) rfl))))))
abbrev s_need_program : Stmt := (top 18)
theorem sc_need_program : FnScope ["program", "params", "names", "rows", "number", "row"] ["program"] (defScope s_need_program) := ⟨rfl, rfl, rfl, by decide +kernel, rfl, by decide +kernel, by decide +kernel⟩
theorem nd_need_program : (["program", "params", "names", "rows", "number", "row"] : List Str).all ndbg = true := by decide +kernel
theorem d_need_program (T : Txt P base w K mg N BX gT tA tB c__law_read c_law) (C_is_number : Cal (nm0 tA tB) P w K mg base 1 "is_number" ["part", "low", "high"] f_is_number) (C_is_row : Cal (nm0 tA tB) P w K mg base 2 "is_row" ["row", "names", "many"] f_is_row) {f : Addr} {fd : FuncData} (F : Fun K "need_program" "need_program" s_need_program f fd) : FnOk P w K mg base (L2.CX P w) 3 f fd ["program"] (spX (nm0 tA tB) K mg 1 f_need_program) :=
  fnx_ok F sc_need_program fun cdv A outer s H E hr tk =>
    have nds : (["program", "params", "names", "rows", "number", "row"] : List Str).Nodup := sc_need_program.nd
    have nd := nd_need_program
    xss_cons (xs_if (pxt_w (pxw_or (pxt_not (pxt_val (px_isi .tup rfl (wv nd rfl (.inl rfl)) rfl T.m_isinstance rfl T.m_tuple rfl rfl rfl) (fun _ => rfl))) (pxw_or (pxt_cmp (op_neA (hu64 hr)) op2_ne (wd_len rfl T.m_len (pxa_cons (wv nd rfl (.inl rfl)) (pxa_nil) rfl) rfl rfl) (px_int) rfl) (pxw_or1 (pxt_not (pxt_val (wd_call C_is_number (alen_cons (alen_cons (alen_cons (alen_nil)))) (hr.mono (by decide)) rfl (pxa_cons (px_ix (wv nd rfl (.inl rfl)) (px_int) (fun _ _ => rfl)) (pxa_cons (px_int) (pxa_cons (wd_globI T.m_MOST_NAMES rfl dbg_MOST_NAMES) (pxa_nil) rfl) rfl) rfl) dbg_is_number rfl rfl) (fun _ => rfl))))))) (xss_one (wx_raiseR rfl tk rfl T.x_BadProgram (hr.mono (by decide)) rfl (px_neg (px_int)) dbg_BadProgram rfl rfl)) (xss_lift pxss_nil))
    (xss_cons (xs_lift (pxs_asg (wv nd rfl (.inl rfl)) (pg_tup rfl (pgs_cons (pg_name nds rfl (.inl rfl) (.inr rfl)) (pgs_cons (pg_name nds rfl (.inl rfl) (.inr rfl)) (pgs_cons (pg_name nds rfl (.inl rfl) (.inr rfl)) (pgs_nil) rfl) rfl) rfl) rfl rfl) (gok_tup (is := [1, 2, 3])) rfl rfl rfl))
    (xss_cons (xs_if (pxt_w (pxw_or (pxt_not (pxt_val (wd_call C_is_number (alen_cons (alen_cons (alen_cons (alen_nil)))) (hr.mono (by decide)) rfl (pxa_cons (wv nd rfl (.inl rfl)) (pxa_cons (px_int) (pxa_cons (wv nd rfl (.inl rfl)) (pxa_nil) rfl) rfl) rfl) dbg_is_number rfl rfl) (fun _ => rfl))) (pxw_or (pxt_not (pxt_val (px_isi .tup rfl (wv nd rfl (.inl rfl)) rfl T.m_isinstance rfl T.m_tuple rfl rfl rfl) (fun _ => rfl))) (pxw_or1 (pxt_cmp (op_eqA (hu64 hr)) op2_eq (wd_len rfl T.m_len (pxa_cons (wv nd rfl (.inl rfl)) (pxa_nil) rfl) rfl rfl) (px_int) rfl))))) (xss_one (wx_raiseR rfl tk rfl T.x_BadProgram (hr.mono (by decide)) rfl (px_neg (px_int)) dbg_BadProgram rfl rfl)) (xss_lift pxss_nil))
    (xss_one (xs_for (passes_of rfl) rfl (pxi_enum rfl T.m_enumerate (wv nd rfl (.inl rfl)) rfl) (pg_tup rfl (pgs_cons (pg_name nds rfl (.inl rfl) (.inr rfl)) (pgs_cons (pg_name nds rfl (.inl rfl) (.inr rfl)) (pgs_nil) rfl) rfl) rfl rfl) (gok_tup (is := [4, 5])) (xss_one (xs_if (pxt_w (pxw_or (pxt_cmp op_ge op2_cmp (wv nd rfl (.inl rfl)) (wd_globI T.m_MOST_ROWS rfl dbg_MOST_ROWS) rfl) (pxw_or1 (pxt_not (pxt_val (wd_call C_is_row (alen_cons (alen_cons (alen_cons (alen_nil)))) (hr.mono (by decide)) rfl (pxa_cons (wv nd rfl (.inl rfl)) (pxa_cons (wv nd rfl (.inl rfl)) (pxa_cons (wd_min rfl rfl T.m_min (pxa_cons (wd_len rfl T.m_len (pxa_cons (wv nd rfl (.inl rfl)) (pxa_nil) rfl) rfl rfl) (pxa_cons (wd_globI T.m_MOST_ROWS rfl dbg_MOST_ROWS) (pxa_nil) rfl) rfl) rfl rfl) (pxa_nil) rfl) rfl) rfl) dbg_is_row rfl rfl) (fun _ => rfl)))))) (xss_one (wx_raiseR rfl tk rfl T.x_BadProgram (hr.mono (by decide)) rfl (wv nd rfl (.inl rfl)) dbg_BadProgram rfl rfl)) (xss_lift pxss_nil))) (fun _ => rfl)))))
abbrev s_written : Stmt := (top 24)
theorem sc_written : FnScope ["program", "head", "row", "part"] ["program"] (defScope s_written) := ⟨rfl, rfl, rfl, by decide +kernel, rfl, by decide +kernel, by decide +kernel⟩
theorem nd_written : (["program", "head", "row", "part"] : List Str).all ndbg = true := by decide +kernel
theorem d_written (T : Txt P base w K mg N BX gT tA tB c__law_read c_law) (C_need_program : CalX (nm0 tA tB) P w K mg base 3 "need_program" ["program"] f_need_program) {f : Addr} {fd : FuncData} (F : Fun K "written" "written" s_written f fd) : FnOk P w K mg base (L2.CX P w) 4 f fd ["program"] (spX (nm0 tA tB) K mg 1 f_written) :=
  fnx_ok F sc_written fun cdv A outer s H E hr tk =>
    have nds : (["program", "head", "row", "part"] : List Str).Nodup := sc_written.nd
    have nd := nd_written
    xss_cons (xs_expr (wx_call C_need_program tk (alen_cons (alen_nil)) (hr.mono (by decide)) rfl (pxa_cons (wv nd rfl (.inl rfl)) (pxa_nil) rfl) dbg_need_program rfl rfl) rfl)
    (xss_cons (xs_lift (pxs_set nds rfl (.inl rfl) (px_join (px_str kz__) (px_lst (pxa_cons (wd_globS T.m_PARAMS rfl dbg_PARAMS) (pxa_cons (wd_str rfl T.m_str (pxa_cons (px_ix (wv nd rfl (.inl rfl)) (px_int) (fun _ _ => rfl)) (pxa_nil) rfl) rfl rfl) (pxa_cons (wd_globS T.m_NAMES rfl dbg_NAMES) (pxa_cons (wd_str rfl T.m_str (pxa_cons (px_ix (wv nd rfl (.inl rfl)) (px_int) (fun _ _ => rfl)) (pxa_nil) rfl) rfl rfl) (pxa_nil) rfl) rfl) rfl) rfl) (by decide) (len_cons (len_cons (len_cons (len_cons (len_nil)))))) rfl rfl rfl) rfl (.inr rfl)))
    (xss_one (xs_lift (pxs_ret (px_join (px_str kz___38) (px_op op_addA op2_add (px_lst (pxa_cons (wv nd rfl (.inl rfl)) (pxa_nil) rfl) (by decide) (len_cons (len_nil))) (px_lc rfl nds (own := [("row", 2)]) (pxi_seq (px_ix (wv nd rfl (.inl rfl)) (px_int) (fun _ _ => rfl))) (blkOk_by (by kernel_rfl)) (by decide) (gok_name 2) (fun _ _ _ _ _ => pg_name nds rfl (.inl rfl) (.inr rfl)) (fun _ _ _ _ _ => pxts_nil) (fun _ _ _ _ _ => px_join (px_str kz__) (px_lc rfl nds (own := [("part", 3)]) (pxi_seq (wv nd rfl (.inl rfl))) (blkOk_by (by kernel_rfl)) (by decide) (gok_name 3) (fun _ _ _ _ _ => pg_name nds rfl (.inl rfl) (.inr rfl)) (fun _ _ _ _ _ => pxts_nil) (fun _ _ _ _ _ => wd_strA rfl T.m_str (pxa_cons (wv nd rfl (.inl rfl)) (pxa_nil) rfl) rfl rfl) (fun _ => rfl)) rfl rfl rfl) (fun _ => rfl))) rfl rfl rfl)))))
abbrev s__law_take : Stmt := (top 30)
theorem sc__law_take : FnScope ["_law_box", "_law_many", "_law_number_here"] ["_law_box", "_law_many"] (defScope s__law_take) := ⟨rfl, rfl, rfl, by decide +kernel, rfl, by decide +kernel, by decide +kernel⟩
theorem nd__law_take : (["_law_box", "_law_many", "_law_number_here"] : List Str).all ndbg = true := by decide +kernel
theorem d__law_take (T : Txt P base w K mg N BX gT tA tB c__law_read c_law) {f : Addr} {fd : FuncData} (F : Fun K "_law_take" "_law_take" s__law_take f fd) : FnOk P w K mg base CX0 1 f fd ["_law_box", "_law_many"] (spF (nm0 tA tB) K mg 2 f__law_take) :=
  fn_ok F sc__law_take fun cdv A outer s H E hr =>
    have nds : (["_law_box", "_law_many", "_law_number_here"] : List Str).Nodup := sc__law_take.nd
    have nd := nd__law_take
    pxss_cons (pxs_if (pxt_cmp (op_eqA (hu64 hr)) op2_eq (px_ix (wv nd rfl (.inl rfl)) (px_int) (fun _ _ => rfl)) (px_lst (pxa_nil) (by decide) (len_nil)) rfl) (pxss_cons (pxs_sub (wv nd rfl (.inl rfl)) (px_int) (px_op op_mod op2_mod (px_op op_mulA op2_mul (px_ix (wv nd rfl (.inl rfl)) (px_int) (fun _ _ => rfl)) (px_int)) (px_int)) (fun _ => rfl) rfl rfl rfl)
    (pxss_one (pxs_ret (px_op op_mod op2_mod (px_op op_fdiv op2_fdiv (px_ix (wv nd rfl (.inl rfl)) (px_int) (fun _ _ => rfl)) (px_int)) (wv nd rfl (.inl rfl)))))) (pxss_nil))
    (pxss_cons (pxs_set nds rfl (.inl rfl) (px_ix (px_ix (wv nd rfl (.inl rfl)) (px_int) (fun _ _ => rfl)) (px_int) (fun _ _ => rfl)) rfl (.inr rfl))
    (pxss_cons (pxs_sub (px_ix (wv nd rfl (.inl rfl)) (px_int) (fun _ _ => rfl)) (px_int) (px_op op_fdiv op2_fdiv (wv nd rfl (.inl rfl)) (wv nd rfl (.inl rfl))) (fun _ => rfl) rfl rfl rfl)
    (pxss_cons (pxs_if (pxt_w (pxw_or (pxt_cmp (op_eqA (hu64 hr)) op2_eq (px_ix (px_ix (wv nd rfl (.inl rfl)) (px_int) (fun _ _ => rfl)) (px_int) (fun _ _ => rfl)) (px_int) rfl) (pxw_or1 (pxt_cmp (op_eqA (hu64 hr)) op2_eq (px_ix (px_ix (wv nd rfl (.inl rfl)) (px_int) (fun _ _ => rfl)) (px_int) (fun _ _ => rfl)) (px_neg (px_int)) rfl)))) (pxss_one (pxs_expr (wd_pop (px_ix (wv nd rfl (.inl rfl)) (px_int) (fun _ _ => rfl)) (px_int) rfl rfl rfl rfl rfl) rfl)) (pxss_nil))
    (pxss_one (pxs_ret (px_op op_mod op2_mod (wv nd rfl (.inl rfl)) (wv nd rfl (.inl rfl))))))))
abbrev s__law_row : Stmt := (top 34)
theorem sc__law_row : FnScope ["_law_box", "_law_names", "_law_many", "_law_at", "_law_way", "_law_name", "_law_one", "_law_other", "_law_goal"] ["_law_box", "_law_names", "_law_many", "_law_at"] (defScope s__law_row) := ⟨rfl, rfl, rfl, by decide +kernel, rfl, by decide +kernel, by decide +kernel⟩
theorem nd__law_row : (["_law_box", "_law_names", "_law_many", "_law_at", "_law_way", "_law_name", "_law_one", "_law_other", "_law_goal"] : List Str).all ndbg = true := by decide +kernel
theorem d__law_row (T : Txt P base w K mg N BX gT tA tB c__law_read c_law) (C__law_take : Cal (nm0 tA tB) P w K mg base 1 "_law_take" ["_law_box", "_law_many"] f__law_take) {f : Addr} {fd : FuncData} (F : Fun K "_law_row" "_law_row" s__law_row f fd) : FnOk P w K mg base CX0 2 f fd ["_law_box", "_law_names", "_law_many", "_law_at"] (spF (nm0 tA tB) K mg 4 f__law_row) :=
  fn_ok F sc__law_row fun cdv A outer s H E hr =>
    have nds : (["_law_box", "_law_names", "_law_many", "_law_at", "_law_way", "_law_name", "_law_one", "_law_other", "_law_goal"] : List Str).Nodup := sc__law_row.nd
    have nd := nd__law_row
    pxss_cons (pxs_set nds rfl (.inl rfl) (wd_call C__law_take (alen_cons (alen_cons (alen_nil))) (hr.mono (by decide)) rfl (pxa_cons (wv nd rfl (.inl rfl)) (pxa_cons (px_int) (pxa_nil) rfl) rfl) dbg__law_take rfl rfl) rfl (.inr rfl))
    (pxss_cons (pxs_par3 rfl nds rfl rfl rfl  (by decide) (by decide) (by decide)  rfl rfl rfl  (pxa_cons (wd_call C__law_take (alen_cons (alen_cons (alen_nil))) (hr.mono (by decide)) rfl (pxa_cons (wv nd rfl (.inl rfl)) (pxa_cons (wv nd rfl (.inl rfl)) (pxa_nil) rfl) rfl) dbg__law_take rfl rfl) (pxa_cons (wd_call C__law_take (alen_cons (alen_cons (alen_nil))) (hr.mono (by decide)) rfl (pxa_cons (wv nd rfl (.inl rfl)) (pxa_cons (wv nd rfl (.inl rfl)) (pxa_nil) rfl) rfl) dbg__law_take rfl rfl) (pxa_cons (wd_call C__law_take (alen_cons (alen_cons (alen_nil))) (hr.mono (by decide)) rfl (pxa_cons (wv nd rfl (.inl rfl)) (pxa_cons (wv nd rfl (.inl rfl)) (pxa_nil) rfl) rfl) dbg__law_take rfl rfl) (pxa_nil) rfl) rfl) rfl) rfl rfl)
    (pxss_cons (pxs_if (pxt_cmp op_lt op2_cmp (wv nd rfl (.inl rfl)) (px_int) rfl) (pxss_one (pxs_ret (px_tup (pxa_cons (px_str kz_put) (pxa_cons (wv nd rfl (.inl rfl)) (pxa_cons (px_ix (px_lst (pxa_cons (wd_call C__law_take (alen_cons (alen_cons (alen_nil))) (hr.mono (by decide)) rfl (pxa_cons (wv nd rfl (.inl rfl)) (pxa_cons (px_int) (pxa_nil) rfl) rfl) dbg__law_take rfl rfl) (pxa_cons (wd_call C__law_take (alen_cons (alen_cons (alen_nil))) (hr.mono (by decide)) rfl (pxa_cons (wv nd rfl (.inl rfl)) (pxa_cons (px_int) (pxa_nil) rfl) rfl) dbg__law_take rfl rfl) (pxa_nil) rfl) rfl) (by decide) (len_cons (len_cons (len_nil)))) (wd_call C__law_take (alen_cons (alen_cons (alen_nil))) (hr.mono (by decide)) rfl (pxa_cons (wv nd rfl (.inl rfl)) (pxa_cons (px_int) (pxa_nil) rfl) rfl) dbg__law_take rfl rfl) (fun _ _ => rfl)) (pxa_nil) rfl) rfl) rfl) (by decide) (len_cons (len_cons (len_cons (len_nil))))))) (pxss_nil))
    (pxss_cons (pxs_if (pxt_cmp op_lt op2_cmp (wv nd rfl (.inl rfl)) (px_int) rfl) (pxss_one (pxs_ret (px_tup (pxa_cons (px_str kz_copy) (pxa_cons (wv nd rfl (.inl rfl)) (pxa_cons (wv nd rfl (.inl rfl)) (pxa_nil) rfl) rfl) rfl) (by decide) (len_cons (len_cons (len_cons (len_nil))))))) (pxss_nil))
    (pxss_cons (pxs_if (pxt_cmp op_lt op2_cmp (wv nd rfl (.inl rfl)) (px_int) rfl) (pxss_one (pxs_ret (px_tup (pxa_cons (px_ix (px_lst (pxa_cons (px_str kz_add) (pxa_cons (px_str kz_take) (pxa_cons (px_str kz_less) (pxa_nil) rfl) rfl) rfl) (by decide) (len_cons (len_cons (len_cons (len_nil))))) (px_op op_sub op2_sub (wv nd rfl (.inl rfl)) (px_int)) (fun _ _ => rfl)) (pxa_cons (wv nd rfl (.inl rfl)) (pxa_cons (wv nd rfl (.inl rfl)) (pxa_cons (wv nd rfl (.inl rfl)) (pxa_nil) rfl) rfl) rfl) rfl) (by decide) (len_cons (len_cons (len_cons (len_cons (len_nil)))))))) (pxss_nil))
    (pxss_cons (pxs_if (pxt_cmp op_lt op2_cmp (wv nd rfl (.inl rfl)) (px_int) rfl) (pxss_one (pxs_ret (px_tup (pxa_cons (px_str kz_call) (pxa_cons (wv nd rfl (.inl rfl)) (pxa_cons (wv nd rfl (.inl rfl)) (pxa_nil) rfl) rfl) rfl) (by decide) (len_cons (len_cons (len_cons (len_nil))))))) (pxss_nil))
    (pxss_cons (pxs_if (pxt_cmp op_lt op2_cmp (wv nd rfl (.inl rfl)) (px_int) rfl) (pxss_one (pxs_ret (px_tup (pxa_cons (px_str kz_say) (pxa_cons (wv nd rfl (.inl rfl)) (pxa_nil) rfl) rfl) (by decide) (len_cons (len_cons (len_nil)))))) (pxss_nil))
    (pxss_cons (pxs_set nds rfl (.inl rfl) (wd_call C__law_take (alen_cons (alen_cons (alen_nil))) (hr.mono (by decide)) rfl (pxa_cons (wv nd rfl (.inl rfl)) (pxa_cons (wv nd rfl (.inl rfl)) (pxa_nil) rfl) rfl) dbg__law_take rfl rfl) rfl (.inr rfl))
    (pxss_cons (pxs_if (pxt_cmp op_lt op2_cmp (wv nd rfl (.inl rfl)) (px_int) rfl) (pxss_one (pxs_ret (px_tup (pxa_cons (px_str kz_if) (pxa_cons (wv nd rfl (.inl rfl)) (pxa_cons (px_ix (px_lst (pxa_cons (wv nd rfl (.inl rfl)) (pxa_cons (wd_min rfl rfl T.m_min (pxa_cons (px_op op_sub op2_sub (wv nd rfl (.inl rfl)) (px_int)) (pxa_cons (px_op op_addA op2_add (px_op op_addA op2_add (wv nd rfl (.inl rfl)) (px_int)) (px_op op_mod op2_mod (wv nd rfl (.inl rfl)) (px_int))) (pxa_nil) rfl) rfl) rfl rfl) (pxa_nil) rfl) rfl) (by decide) (len_cons (len_cons (len_nil)))) (wd_call C__law_take (alen_cons (alen_cons (alen_nil))) (hr.mono (by decide)) rfl (pxa_cons (wv nd rfl (.inl rfl)) (pxa_cons (px_int) (pxa_nil) rfl) rfl) dbg__law_take rfl rfl) (fun _ _ => rfl)) (pxa_nil) rfl) rfl) rfl) (by decide) (len_cons (len_cons (len_cons (len_nil))))))) (pxss_nil))
    (pxss_one (pxs_ret (px_ix (px_lst (pxa_cons (px_tup (pxa_cons (px_str kz_go) (pxa_cons (wd_min rfl rfl T.m_min (pxa_cons (px_op op_sub op2_sub (wv nd rfl (.inl rfl)) (px_int)) (pxa_cons (px_op op_addA op2_add (px_op op_addA op2_add (wv nd rfl (.inl rfl)) (px_int)) (px_op op_mod op2_mod (wv nd rfl (.inl rfl)) (px_int))) (pxa_nil) rfl) rfl) rfl rfl) (pxa_nil) rfl) rfl) (by decide) (len_cons (len_cons (len_nil)))) (pxa_cons (px_tup (pxa_cons (px_str kz_go) (pxa_cons (wv nd rfl (.inl rfl)) (pxa_nil) rfl) rfl) (by decide) (len_cons (len_cons (len_nil)))) (pxa_cons (px_tup (pxa_cons (px_str kz_end) (pxa_nil) rfl) (by decide) (len_cons (len_nil))) (pxa_nil) rfl) rfl) rfl) (by decide) (len_cons (len_cons (len_cons (len_nil))))) (wd_call C__law_take (alen_cons (alen_cons (alen_nil))) (hr.mono (by decide)) rfl (pxa_cons (wv nd rfl (.inl rfl)) (pxa_cons (px_int) (pxa_nil) rfl) rfl) dbg__law_take rfl rfl) (fun _ _ => rfl))))))))))))
abbrev s__law_program : Stmt := (top 35)
theorem sc__law_program : FnScope ["_law_box", "_law_most", "_law_names", "_law_params", "_law_many", "_law_at"] ["_law_box", "_law_most"] (defScope s__law_program) := ⟨rfl, rfl, rfl, by decide +kernel, rfl, by decide +kernel, by decide +kernel⟩
theorem nd__law_program : (["_law_box", "_law_most", "_law_names", "_law_params", "_law_many", "_law_at"] : List Str).all ndbg = true := by decide +kernel
theorem d__law_program (T : Txt P base w K mg N BX gT tA tB c__law_read c_law) (C__law_take : Cal (nm0 tA tB) P w K mg base 1 "_law_take" ["_law_box", "_law_many"] f__law_take) (C__law_row : Cal (nm0 tA tB) P w K mg base 2 "_law_row" ["_law_box", "_law_names", "_law_many", "_law_at"] f__law_row) {f : Addr} {fd : FuncData} (F : Fun K "_law_program" "_law_program" s__law_program f fd) : FnOk P w K mg base CX0 3 f fd ["_law_box", "_law_most"] (spF (nm0 tA tB) K mg 2 f__law_program) :=
  fn_ok F sc__law_program fun cdv A outer s H E hr =>
    have nds : (["_law_box", "_law_most", "_law_names", "_law_params", "_law_many", "_law_at"] : List Str).Nodup := sc__law_program.nd
    have nd := nd__law_program
    pxss_cons (pxs_set nds rfl (.inr rfl) (px_op op_addA op2_add (px_int) (wd_call C__law_take (alen_cons (alen_cons (alen_nil))) (hr.mono (by decide)) rfl (pxa_cons (wv nd rfl (.inr (.inl rfl))) (pxa_cons (px_ix (px_lst (pxa_cons (px_int) (pxa_cons (px_int) (pxa_cons (px_int) (pxa_nil) rfl) rfl) rfl) (by decide) (len_cons (len_cons (len_cons (len_nil))))) (wd_call C__law_take (alen_cons (alen_cons (alen_nil))) (hr.mono (by decide)) rfl (pxa_cons (wv nd rfl (.inr (.inl rfl))) (pxa_cons (px_int) (pxa_nil) rfl) rfl) dbg__law_take rfl rfl) (fun _ _ => rfl)) (pxa_nil) rfl) rfl) dbg__law_take rfl rfl)) rfl (.inl rfl))
    (pxss_cons (pxs_set nds rfl (.inl rfl) (px_ix (px_lst (pxa_cons (wv nd rfl (.inr (.inl rfl))) (pxa_cons (wd_call C__law_take (alen_cons (alen_cons (alen_nil))) (hr.mono (by decide)) rfl (pxa_cons (wv nd rfl (.inr (.inl rfl))) (pxa_cons (px_op op_addA op2_add (wv nd rfl (.inr (.inl rfl))) (px_int)) (pxa_nil) rfl) rfl) dbg__law_take rfl rfl) (pxa_nil) rfl) rfl) (by decide) (len_cons (len_cons (len_nil)))) (wd_call C__law_take (alen_cons (alen_cons (alen_nil))) (hr.mono (by decide)) rfl (pxa_cons (wv nd rfl (.inr (.inl rfl))) (pxa_cons (px_int) (pxa_nil) rfl) rfl) dbg__law_take rfl rfl) (fun _ _ => rfl)) rfl (.inr rfl))
    (pxss_cons (pxs_set nds rfl (.inr rfl) (px_op op_addA op2_add (px_int) (wd_call C__law_take (alen_cons (alen_cons (alen_nil))) (hr.mono (by decide)) rfl (pxa_cons (wv nd rfl (.inr (.inl rfl))) (pxa_cons (px_ix (px_lst (pxa_cons (wv nd rfl (.inl rfl)) (pxa_cons (wd_min rfl rfl T.m_min (pxa_cons (wv nd rfl (.inl rfl)) (pxa_cons (px_int) (pxa_nil) rfl) rfl) rfl rfl) (pxa_nil) rfl) rfl) (by decide) (len_cons (len_cons (len_nil)))) (wd_call C__law_take (alen_cons (alen_cons (alen_nil))) (hr.mono (by decide)) rfl (pxa_cons (wv nd rfl (.inr (.inl rfl))) (pxa_cons (px_int) (pxa_nil) rfl) rfl) dbg__law_take rfl rfl) (fun _ _ => rfl)) (pxa_nil) rfl) rfl) dbg__law_take rfl rfl)) rfl (.inl rfl))
    (pxss_one (pxs_ret (px_tup (pxa_cons (wv nd rfl (.inl rfl)) (pxa_cons (wv nd rfl (.inr (.inl rfl))) (pxa_cons (wd_tuple rfl T.m_tuple (pxa_cons (px_lc rfl nds (own := [("_law_at", 5)]) (pxi_range1 rfl T.m_range (wv nd rfl (.inr (.inl rfl))) rfl) (blkOk_by (by kernel_rfl)) (by decide) (gok_name 5) (fun _ _ _ _ _ => pg_name nds rfl (.inl rfl) (.inr rfl)) (fun _ _ _ _ _ => pxts_nil) (fun _ _ _ _ _ => wd_call C__law_row (alen_cons (alen_cons (alen_cons (alen_cons (alen_nil))))) (hr.mono (by decide)) rfl (pxa_cons (wv nd rfl (.inr (.inl rfl))) (pxa_cons (wv nd rfl (.inr (.inl rfl))) (pxa_cons (wv nd rfl (.inr (.inl rfl))) (pxa_cons (wv nd rfl (.inl rfl)) (pxa_nil) rfl) rfl) rfl) rfl) dbg__law_row rfl rfl) (fun _ => rfl)) (pxa_nil) rfl) rfl rfl) (pxa_nil) rfl) rfl) rfl) (by decide) (len_cons (len_cons (len_cons (len_nil)))))))))
abbrev s__law_spoilt : Stmt := (top 41)
theorem sc__law_spoilt : FnScope ["_law_box", "_law_text", "_law_deed", "_law_place", "_law_every", "_law_sign", "_law_two", "_law_rows", "_law_k", "_law_words", "_law_j", "_law_odd"] ["_law_box", "_law_text"] (defScope s__law_spoilt) := ⟨rfl, rfl, rfl, by decide +kernel, rfl, by decide +kernel, by decide +kernel⟩
theorem nd__law_spoilt : (["_law_box", "_law_text", "_law_deed", "_law_place", "_law_every", "_law_sign", "_law_two", "_law_rows", "_law_k", "_law_words", "_law_j", "_law_odd"] : List Str).all ndbg = true := by decide +kernel
theorem d__law_spoilt (T : Txt P base w K mg N BX gT tA tB c__law_read c_law) (C__law_take : Cal (nm0 tA tB) P w K mg base 1 "_law_take" ["_law_box", "_law_many"] f__law_take) {f : Addr} {fd : FuncData} (F : Fun K "_law_spoilt" "_law_spoilt" s__law_spoilt f fd) : FnOk P w K mg base CX0 2 f fd ["_law_box", "_law_text"] (spF (nm0 tA tB) K mg 2 f__law_spoilt) :=
  fn_ok F sc__law_spoilt fun cdv A outer s H E hr =>
    have nds : (["_law_box", "_law_text", "_law_deed", "_law_place", "_law_every", "_law_sign", "_law_two", "_law_rows", "_law_k", "_law_words", "_law_j", "_law_odd"] : List Str).Nodup := sc__law_spoilt.nd
    have nd := nd__law_spoilt
    pxss_cons (pxs_par2 rfl nds rfl rfl  (by decide)  rfl rfl  (pxa_cons (wd_call C__law_take (alen_cons (alen_cons (alen_nil))) (hr.mono (by decide)) rfl (pxa_cons (wv nd rfl (.inl rfl)) (pxa_cons (px_int) (pxa_nil) rfl) rfl) dbg__law_take rfl rfl) (pxa_cons (wd_call C__law_take (alen_cons (alen_cons (alen_nil))) (hr.mono (by decide)) rfl (pxa_cons (wv nd rfl (.inl rfl)) (pxa_cons (px_op op_addA op2_add (wd_len rfl T.m_len (pxa_cons (wv nd rfl (.inl rfl)) (pxa_nil) rfl) rfl rfl) (px_int)) (pxa_nil) rfl) rfl) dbg__law_take rfl rfl) (pxa_nil) rfl) rfl) rfl rfl)
    (pxss_cons (pxs_set nds rfl (.inl rfl) (px_str kz_0123456789____abcdefghijklmnopqrstuvwxyz___________________ABCDEFGHIJKLMNOPQRSTUVWXYZ_______) rfl (.inr rfl))
    (pxss_cons (pxs_set nds rfl (.inl rfl) (px_ix (wv nd rfl (.inl rfl)) (wd_call C__law_take (alen_cons (alen_cons (alen_nil))) (hr.mono (by decide)) rfl (pxa_cons (wv nd rfl (.inl rfl)) (pxa_cons (px_ix (px_lst (pxa_cons (px_int) (pxa_cons (wd_len rfl T.m_len (pxa_cons (wv nd rfl (.inl rfl)) (pxa_nil) rfl) rfl rfl) (pxa_nil) rfl) rfl) (by decide) (len_cons (len_cons (len_nil)))) (wd_call C__law_take (alen_cons (alen_cons (alen_nil))) (hr.mono (by decide)) rfl (pxa_cons (wv nd rfl (.inl rfl)) (pxa_cons (px_int) (pxa_nil) rfl) rfl) dbg__law_take rfl rfl) (fun _ _ => rfl)) (pxa_nil) rfl) rfl) dbg__law_take rfl rfl) (fun _ _ => rfl)) rfl (.inr rfl))
    (pxss_cons (pxs_if (pxt_cmp op_lt op2_cmp (wv nd rfl (.inl rfl)) (px_int) rfl) (pxss_one (pxs_ret (px_op op_addA op2_add (px_op op_addA op2_add (px_slice (wv nd rfl (.inl rfl)) (pxo_none) (pxo_some (wv nd rfl (.inl rfl)))) (px_ix (px_lst (pxa_cons (px_str kz_empty) (pxa_cons (wv nd rfl (.inl rfl)) (pxa_cons (wv nd rfl (.inl rfl)) (pxa_nil) rfl) rfl) rfl) (by decide) (len_cons (len_cons (len_cons (len_nil))))) (wv nd rfl (.inl rfl)) (fun _ _ => rfl))) (px_slice (wv nd rfl (.inl rfl)) (pxo_some (px_op op_addA op2_add (wv nd rfl (.inl rfl)) (wd_int rfl T.m_int (pxa_cons (px_cmp op_lt op2_cmp (wv nd rfl (.inl rfl)) (px_int) rfl) (pxa_nil) rfl) rfl rfl))) (pxo_none))))) (pxss_nil))
    (pxss_cons (pxs_if (pxt_cmp (op_eqA (hu64 hr)) op2_eq (wv nd rfl (.inl rfl)) (px_int) rfl) (pxss_cons (pxs_set nds rfl (.inl rfl) (wd_rev (px_slice (wv nd rfl (.inl rfl)) (pxo_some (wv nd rfl (.inl rfl))) (pxo_some (px_op op_addA op2_add (wv nd rfl (.inl rfl)) (px_int))))) rfl (.inr rfl))
    (pxss_one (pxs_ret (px_op op_addA op2_add (px_op op_addA op2_add (px_slice (wv nd rfl (.inl rfl)) (pxo_none) (pxo_some (wv nd rfl (.inl rfl)))) (wv nd rfl (.inl rfl))) (px_slice (wv nd rfl (.inl rfl)) (pxo_some (px_op op_addA op2_add (wv nd rfl (.inl rfl)) (px_int))) (pxo_none)))))) (pxss_nil))
    (pxss_cons (pxs_set nds rfl (.inl rfl) (px_split (wv nd rfl (.inl rfl)) (px_str kz___38) rfl rfl rfl) rfl (.inr rfl))
    (pxss_cons (pxs_set nds rfl (.inl rfl) (px_ix (px_lst (pxa_cons (px_op op_sub op2_sub (wd_len rfl T.m_len (pxa_cons (wv nd rfl (.inl rfl)) (pxa_nil) rfl) rfl rfl) (px_int)) (pxa_cons (wd_call C__law_take (alen_cons (alen_cons (alen_nil))) (hr.mono (by decide)) rfl (pxa_cons (wv nd rfl (.inl rfl)) (pxa_cons (wd_len rfl T.m_len (pxa_cons (wv nd rfl (.inl rfl)) (pxa_nil) rfl) rfl rfl) (pxa_nil) rfl) rfl) dbg__law_take rfl rfl) (pxa_nil) rfl) rfl) (by decide) (len_cons (len_cons (len_nil)))) (wd_call C__law_take (alen_cons (alen_cons (alen_nil))) (hr.mono (by decide)) rfl (pxa_cons (wv nd rfl (.inl rfl)) (pxa_cons (px_int) (pxa_nil) rfl) rfl) dbg__law_take rfl rfl) (fun _ _ => rfl)) rfl (.inr rfl))
    (pxss_cons (pxs_if (pxt_cmp op_lt op2_cmp (wv nd rfl (.inl rfl)) (px_int) rfl) (pxss_one (pxs_ret (px_join (px_str kz___38) (px_op op_addA op2_add (px_op op_addA op2_add (px_slice (wv nd rfl (.inl rfl)) (pxo_none) (pxo_some (wv nd rfl (.inl rfl)))) (px_op op_mulA op2_mul (px_slice (wv nd rfl (.inl rfl)) (pxo_some (wv nd rfl (.inl rfl))) (pxo_some (px_op op_addA op2_add (wv nd rfl (.inl rfl)) (px_int)))) (px_ix (px_lst (pxa_cons (px_int) (pxa_cons (px_int) (pxa_nil) rfl) rfl) (by decide) (len_cons (len_cons (len_nil)))) (px_op op_sub op2_sub (wv nd rfl (.inl rfl)) (px_int)) (fun _ _ => rfl)))) (px_slice (wv nd rfl (.inl rfl)) (pxo_some (px_op op_addA op2_add (wv nd rfl (.inl rfl)) (px_int))) (pxo_none))) rfl rfl rfl))) (pxss_nil))
    (pxss_cons (pxs_set nds rfl (.inl rfl) (px_split (px_ix (wv nd rfl (.inl rfl)) (wv nd rfl (.inl rfl)) (fun _ _ => rfl)) (px_str kz__) rfl rfl rfl) rfl (.inr rfl))
    (pxss_cons (pxs_set nds rfl (.inl rfl) (wd_call C__law_take (alen_cons (alen_cons (alen_nil))) (hr.mono (by decide)) rfl (pxa_cons (wv nd rfl (.inl rfl)) (pxa_cons (wd_len rfl T.m_len (pxa_cons (wv nd rfl (.inl rfl)) (pxa_nil) rfl) rfl rfl) (pxa_nil) rfl) rfl) dbg__law_take rfl rfl) rfl (.inr rfl))
    (pxss_cons (pxs_set nds rfl (.inl rfl) (px_lst (pxa_cons (px_str kz_empty) (pxa_cons (px_str kz_0) (pxa_cons (px_str kz_00) (pxa_cons (px_str kz_07) (pxa_cons (px_str kz_9) (pxa_cons (px_str kz_23) (pxa_cons (px_str kz_24) (pxa_cons (px_str kz_999) (pxa_cons (px_str kz_1000) (pxa_cons (px_str kz__1) (pxa_cons (px_str kz_add) (pxa_cons (px_str kz_go) (pxa_cons (px_str kz_end) (pxa_cons (px_str kz_say) (pxa_cons (px_str kz_load) (pxa_cons (px_str kz_copy) (pxa_nil) rfl) rfl) rfl) rfl) rfl) rfl) rfl) rfl) rfl) rfl) rfl) rfl) rfl) rfl) rfl) rfl) (by decide) (len_cons (len_cons (len_cons (len_cons (len_cons (len_cons (len_cons (len_cons (len_cons (len_cons (len_cons (len_cons (len_cons (len_cons (len_cons (len_cons (len_nil)))))))))))))))))) rfl (.inr rfl))
    (pxss_cons (pxs_set nds rfl (.inl rfl) (px_op op_addA op2_add (wv nd rfl (.inl rfl)) (px_lst (pxa_cons (px_str kz___62) (pxa_cons (px_str kz_box) (pxa_nil) rfl) rfl) (by decide) (len_cons (len_cons (len_nil))))) rfl (.inr rfl))
    (pxss_cons (pxs_set nds rfl (.inl rfl) (px_op op_addA op2_add (px_op op_addA op2_add (px_slice (wv nd rfl (.inl rfl)) (pxo_none) (pxo_some (wv nd rfl (.inl rfl)))) (px_ix (px_lst (pxa_cons (px_lst (pxa_nil) (by decide) (len_nil)) (pxa_cons (px_op op_mulA op2_mul (px_lst (pxa_cons (px_ix (wv nd rfl (.inl rfl)) (wv nd rfl (.inl rfl)) (fun _ _ => rfl)) (pxa_nil) rfl) (by decide) (len_cons (len_nil))) (px_int)) (pxa_cons (px_lst (pxa_cons (px_ix (wv nd rfl (.inl rfl)) (wd_call C__law_take (alen_cons (alen_cons (alen_nil))) (hr.mono (by decide)) rfl (pxa_cons (wv nd rfl (.inl rfl)) (pxa_cons (px_int) (pxa_nil) rfl) rfl) dbg__law_take rfl rfl) (fun _ _ => rfl)) (pxa_nil) rfl) (by decide) (len_cons (len_nil))) (pxa_nil) rfl) rfl) rfl) (by decide) (len_cons (len_cons (len_cons (len_nil))))) (px_op op_sub op2_sub (wv nd rfl (.inl rfl)) (px_int)) (fun _ _ => rfl))) (px_slice (wv nd rfl (.inl rfl)) (pxo_some (px_op op_addA op2_add (wv nd rfl (.inl rfl)) (px_int))) (pxo_none))) rfl (.inr rfl))
    (pxss_one (pxs_ret (px_join (px_str kz___38) (px_op op_addA op2_add (px_op op_addA op2_add (px_slice (wv nd rfl (.inl rfl)) (pxo_none) (pxo_some (wv nd rfl (.inl rfl)))) (px_lst (pxa_cons (px_join (px_str kz__) (wv nd rfl (.inl rfl)) rfl rfl rfl) (pxa_nil) rfl) (by decide) (len_cons (len_nil)))) (px_slice (wv nd rfl (.inl rfl)) (pxo_some (px_op op_addA op2_add (wv nd rfl (.inl rfl)) (px_int))) (pxo_none))) rfl rfl rfl)))))))))))))))
abbrev s__law_number : Stmt := (top 42)
theorem sc__law_number : FnScope ["_law_word", "_law_sign"] ["_law_word"] (defScope s__law_number) := ⟨rfl, rfl, rfl, by decide +kernel, rfl, by decide +kernel, by decide +kernel⟩
theorem nd__law_number : (["_law_word", "_law_sign"] : List Str).all ndbg = true := by decide +kernel
theorem d__law_number (T : Txt P base w K mg N BX gT tA tB c__law_read c_law) {f : Addr} {fd : FuncData} (F : Fun K "_law_number" "_law_number" s__law_number f fd) : FnOk P w K mg base CX0 1 f fd ["_law_word"] (spF (nm0 tA tB) K mg 1 f__law_number) :=
  fn_ok F sc__law_number fun cdv A outer s H E hr =>
    have nds : (["_law_word", "_law_sign"] : List Str).Nodup := sc__law_number.nd
    have nd := nd__law_number
    pxss_cons (pxs_if (pxt_w (pxw_or (pxt_not (pxt_chain op_le op2_cmp op_le op2_cmp (px_int) (wd_len rfl T.m_len (pxa_cons (wv nd rfl (.inl rfl)) (pxa_nil) rfl) rfl rfl) (px_int) rfl)) (pxw_or1 (pxt_cmp (op_neA (hu64 hr)) op2_ne (px_lc rfl nds (own := [("_law_sign", 1)]) (pxi_txt (wv nd rfl (.inl rfl))) (blkOk_by (by kernel_rfl)) (by decide) (gok_name 1) (fun _ _ _ _ _ => pg_name nds rfl (.inl rfl) (.inr rfl)) (fun _ _ _ _ _ => pxts_one (pxt_cmp (op_notInA (hu65 hr)) op2_notIn (wv nd rfl (.inl rfl)) (px_str kz_0123456789) rfl)) (fun _ _ _ _ _ => wv nd rfl (.inl rfl)) (fun _ => rfl)) (px_lst (pxa_nil) (by decide) (len_nil)) rfl)))) (pxss_one (pxs_ret (px_non))) (pxss_nil))
    (pxss_one (pxs_ret (px_if (pxt_cmp (op_eqA (hu64 hr)) op2_eq (wd_str rfl T.m_str (pxa_cons (wd_intT rfl T.m_int (pxa_cons (wv nd rfl (.inl rfl)) (pxa_nil) rfl) rfl rfl) (pxa_nil) rfl) rfl rfl) (wv nd rfl (.inl rfl)) rfl) (wd_intT rfl T.m_int (pxa_cons (wv nd rfl (.inl rfl)) (pxa_nil) rfl) rfl rfl) (px_non))))
abbrev s__law_line : Stmt := (top 43)
theorem sc__law_line : FnScope ["_law_line_here", "_law_counts", "_law_words", "_law_numbers", "_law_word"] ["_law_line_here"] (defScope s__law_line) := ⟨rfl, rfl, rfl, by decide +kernel, rfl, by decide +kernel, by decide +kernel⟩
theorem nd__law_line : (["_law_line_here", "_law_counts", "_law_words", "_law_numbers", "_law_word"] : List Str).all ndbg = true := by decide +kernel
theorem d__law_line (T : Txt P base w K mg N BX gT tA tB c__law_read c_law) (C__law_number : Cal (nm0 tA tB) P w K mg base 1 "_law_number" ["_law_word"] f__law_number) {f : Addr} {fd : FuncData} (F : Fun K "_law_line" "_law_line" s__law_line f fd) : FnOk P w K mg base CX0 2 f fd ["_law_line_here"] (spF (nm0 tA tB) K mg 1 f__law_line) :=
  fn_ok F sc__law_line fun cdv A outer s H E hr =>
    have nds : (["_law_line_here", "_law_counts", "_law_words", "_law_numbers", "_law_word"] : List Str).Nodup := sc__law_line.nd
    have nd := nd__law_line
    pxss_cons (pxs_set nds rfl (.inl rfl) (px_disp (pxp_cons (px_str kz_put) (px_int) (pxp_cons (px_str kz_copy) (px_int) (pxp_cons (px_str kz_add) (px_int) (pxp_cons (px_str kz_take) (px_int) (pxp_cons (px_str kz_less) (px_int) (pxp_cons (px_str kz_call) (px_int) (pxp_cons (px_str kz_say) (px_int) (pxp_cons (px_str kz_if) (px_int) (pxp_cons (px_str kz_go) (px_int) (pxp_cons (px_str kz_end) (px_int) (pxp_nil))))))))))) rfl rfl (by simp) (by decide) (by decide)) rfl (.inr rfl))
    (pxss_cons (pxs_set nds rfl (.inl rfl) (px_split (wv nd rfl (.inl rfl)) (px_str kz__) rfl rfl rfl) rfl (.inr rfl))
    (pxss_cons (pxs_if (pxt_w (pxw_or (pxt_notInD (hu1 hr) (px_ix (wv nd rfl (.inl rfl)) (px_int) (fun _ _ => rfl)) (wv nd rfl (.inl rfl)) rfl) (pxw_or1 (pxt_cmp (op_neA (hu64 hr)) op2_ne (wd_len rfl T.m_len (pxa_cons (wv nd rfl (.inl rfl)) (pxa_nil) rfl) rfl rfl) (px_op op_addA op2_add (px_int) (px_dx (hu1 hr) (wv nd rfl (.inl rfl)) (px_ix (wv nd rfl (.inl rfl)) (px_int) (fun _ _ => rfl)) (fun _ _ => rfl))) rfl)))) (pxss_one (pxs_ret (px_non))) (pxss_nil))
    (pxss_cons (pxs_setLc rfl nds rfl rfl rfl (own := [("_law_word", 4)]) (pxi_seq (px_slice (wv nd rfl (.inl rfl)) (pxo_some (px_int)) (pxo_none))) (blkOk_by (by kernel_rfl)) (by decide) (gok_name 4) (fun _ _ _ _ _ => pg_name nds rfl (.inl rfl) (.inr rfl)) (fun _ _ _ _ _ => pxts_nil) (fun _ _ _ _ _ => wd_call C__law_number (alen_cons (alen_nil)) (hr.mono (by decide)) rfl (pxa_cons (wv nd rfl (.inl rfl)) (pxa_nil) rfl) dbg__law_number rfl rfl) (fun _ => rfl))
    (pxss_one (pxs_ret (px_if (pxt_cmp (op_inA (hu65 hr)) op2_in (px_non) (wv nd rfl (.inl rfl)) rfl) (px_non) (wd_tuple rfl T.m_tuple (pxa_cons (px_op op_addA op2_add (px_slice (wv nd rfl (.inl rfl)) (pxo_none) (pxo_some (px_int))) (wv nd rfl (.inl rfl))) (pxa_nil) rfl) rfl rfl)))))))
abbrev s__law_read : Stmt := (top 44)
theorem sc__law_read : FnScope ["_law_text", "_law_lines", "_law_words", "_law_rows", "_law_program_here", "_law_told_here", "_law_line_here"] ["_law_text"] (defScope s__law_read) := ⟨rfl, rfl, rfl, by decide +kernel, rfl, by decide +kernel, by decide +kernel⟩
theorem nd__law_read : (["_law_text", "_law_lines", "_law_words", "_law_rows", "_law_program_here", "_law_told_here", "_law_line_here"] : List Str).all ndbg = true := by decide +kernel
abbrev s__law_alike : Stmt := (top 31)
theorem sc__law_alike : FnScope ["_law_found", "_law_due", "_law_k"] ["_law_found", "_law_due"] (defScope s__law_alike) := ⟨rfl, rfl, rfl, by decide +kernel, rfl, by decide +kernel, by decide +kernel⟩
theorem nd__law_alike : (["_law_found", "_law_due", "_law_k"] : List Str).all ndbg = true := by decide +kernel
theorem d__law_alike {k : Nat} {F0 : Fn} (T : Txt P base w K mg N BX gT tA tB c__law_read c_law) (C0 : Cal (nm0 tA tB) P w K mg base (1 + k) "_law_alike" ["_law_found", "_law_due"] F0) {f : Addr} {fd : FuncData} (F : Fun K "_law_alike" "_law_alike" s__law_alike f fd) : FnOk P w K mg base CX0 (2 + k) f fd ["_law_found", "_law_due"] (spF (nm0 tA tB) K mg 2 (fn 3 (b__law_alike F0))) :=
  (by omega : 1 + k + 1 = 2 + k) ▸ fn_ok F sc__law_alike fun cdv A outer s H E hr0 =>
    have nds : (["_law_found", "_law_due", "_law_k"] : List Str).Nodup := sc__law_alike.nd
    have nd := nd__law_alike
    have hr := hr0
    pxss_cons (pxs_if (pxt_isN (wv nd rfl (.inl rfl))) (pxss_one (pxs_ret (px_isN (wv nd rfl (.inl rfl))))) (pxss_nil))
    (pxss_cons (pxs_if (pxt_val (px_isi .bool rfl (wv nd rfl (.inl rfl)) rfl T.m_isinstance rfl T.m_bool rfl rfl rfl) (fun _ => rfl)) (pxss_one (pxs_ret (px_and (px_isi .bool rfl (wv nd rfl (.inl rfl)) rfl T.m_isinstance rfl T.m_bool rfl rfl rfl) (px_one (px_cmp (op_eqA (hu64 hr)) op2_eq (wv nd rfl (.inl rfl)) (wv nd rfl (.inl rfl)) rfl))))) (pxss_nil))
    (pxss_cons (pxs_if (pxt_val (px_isi .int rfl (wv nd rfl (.inl rfl)) rfl T.m_isinstance rfl T.m_int rfl rfl rfl) (fun _ => rfl)) (pxss_one (pxs_ret (px_and (px_isi .int rfl (wv nd rfl (.inl rfl)) rfl T.m_isinstance rfl T.m_int rfl rfl rfl) (px_and (px_not (px_isi .bool rfl (wv nd rfl (.inl rfl)) rfl T.m_isinstance rfl T.m_bool rfl rfl rfl)) (px_one (px_cmp (op_eqA (hu64 hr)) op2_eq (wv nd rfl (.inl rfl)) (wv nd rfl (.inl rfl)) rfl)))))) (pxss_nil))
    (pxss_cons (pxs_if (pxt_val (px_isi .str rfl (wv nd rfl (.inl rfl)) rfl T.m_isinstance rfl T.m_str rfl rfl rfl) (fun _ => rfl)) (pxss_one (pxs_ret (px_and (px_isi .str rfl (wv nd rfl (.inl rfl)) rfl T.m_isinstance rfl T.m_str rfl rfl rfl) (px_one (px_cmp (op_eqA (hu64 hr)) op2_eq (wv nd rfl (.inl rfl)) (wv nd rfl (.inl rfl)) rfl))))) (pxss_nil))
    (pxss_cons (pxs_if (pxt_w (pxw_or (pxt_cmp (op_neA (hu64 hr)) op2_ne (px_isi .tup rfl (wv nd rfl (.inl rfl)) rfl T.m_isinstance rfl T.m_tuple rfl rfl rfl) (px_isi .tup rfl (wv nd rfl (.inl rfl)) rfl T.m_isinstance rfl T.m_tuple rfl rfl rfl) rfl) (pxw_or1 (pxt_cmp (op_neA (hu64 hr)) op2_ne (px_isi .lst rfl (wv nd rfl (.inl rfl)) rfl T.m_isinstance rfl T.m_list rfl rfl rfl) (px_isi .lst rfl (wv nd rfl (.inl rfl)) rfl T.m_isinstance rfl T.m_list rfl rfl rfl) rfl)))) (pxss_one (pxs_ret (px_bl))) (pxss_nil))
    (pxss_cons (pxs_if (pxt_cmp (op_neA (hu64 hr)) op2_ne (wd_len rfl T.m_len (pxa_cons (wv nd rfl (.inl rfl)) (pxa_nil) rfl) rfl rfl) (wd_len rfl T.m_len (pxa_cons (wv nd rfl (.inl rfl)) (pxa_nil) rfl) rfl rfl) rfl) (pxss_one (pxs_ret (px_bl))) (pxss_nil))
    (pxss_cons (pxs_for PassesOwn.never rfl (pxi_range1 rfl T.m_range (wd_len rfl T.m_len (pxa_cons (wv nd rfl (.inl rfl)) (pxa_nil) rfl) rfl rfl) rfl) (pg_name nds rfl (.inl rfl) (.inr rfl)) (gok_name 2) (pxss_one (pxs_if (pxt_not (pxt_val (wd_call C0 (alen_cons (alen_cons (alen_nil))) hr0 rfl (pxa_cons (px_ix (wv nd rfl (.inl rfl)) (wv nd rfl (.inl rfl)) (fun _ _ => rfl)) (pxa_cons (px_ix (wv nd rfl (.inl rfl)) (wv nd rfl (.inl rfl)) (fun _ _ => rfl)) (pxa_nil) rfl) rfl) dbg__law_alike rfl rfl) (fun _ => rfl))) (pxss_one (pxs_ret (px_bl))) (pxss_nil))) (fun _ => rfl))
    (pxss_one (pxs_ret (px_bl)))))))))
abbrev s_number_of : Stmt := (top 25)
theorem sc_number_of : FnScope ["word", "sign"] ["word"] (defScope s_number_of) := ⟨rfl, rfl, rfl, by decide +kernel, rfl, by decide +kernel, by decide +kernel⟩
theorem nd_number_of : (["word", "sign"] : List Str).all ndbg = true := by decide +kernel
set_option synthInstance.maxHeartbeats 0 in
set_option synthInstance.maxSize 4000 in
instance : NeF f_number_of := by unfold f_number_of b_number_of; exact fn_calm
theorem d_number_of (T : Txt P base w K mg N BX gT tA tB c__law_read c_law) {f : Addr} {fd : FuncData} (F : Fun K "number_of" "number_of" s_number_of f fd) : FnOk P w K mg base CX0 1 f fd ["word"] (spF (nm0 tA tB) K mg 1 f_number_of) :=
  fn_ok F sc_number_of fun cdv A outer s H E hr =>
    have nds : (["word", "sign"] : List Str).Nodup := sc_number_of.nd
    have nd := nd_number_of
    pxss_cons (pxs_if (pxt_w (pxw_or (pxt_not (pxt_chain op_le op2_cmp op_le op2_cmp (px_int) (wd_len rfl T.m_len (pxa_cons (wv nd rfl (.inl rfl)) (pxa_nil) rfl) rfl rfl) (wd_globI T.m_MOST_FIGURES rfl dbg_MOST_FIGURES) rfl)) (pxw_or1 (pxt_cmp (op_neA (hu64 hr)) op2_ne (px_lc rfl nds (own := [("sign", 1)]) (pxi_txt (wv nd rfl (.inl rfl))) (blkOk_by (by kernel_rfl)) (by decide) (gok_name 1) (fun _ _ _ _ _ => pg_name nds rfl (.inl rfl) (.inr rfl)) (fun _ _ _ _ _ => pxts_one (pxt_cmp (op_notInA (hu65 hr)) op2_notIn (wv nd rfl (.inl rfl)) (wd_globS T.m_FIGURES rfl dbg_FIGURES) rfl)) (fun _ _ _ _ _ => wv nd rfl (.inl rfl)) (fun _ => rfl)) (px_lst (pxa_nil) (by decide) (len_nil)) rfl)))) (pxss_one (pxs_ret (px_non))) (pxss_nil))
    (pxss_one (pxs_ret (px_if (pxt_w (pxw_or (pxt_cmp (op_neA (hu64 hr)) op2_ne (px_ix (wv nd rfl (.inl rfl)) (px_int) (fun _ _ => rfl)) (px_str kz_0) rfl) (pxw_or1 (pxt_cmp (op_eqA (hu64 hr)) op2_eq (wv nd rfl (.inl rfl)) (px_str kz_0) rfl)))) (wd_intT rfl T.m_int (pxa_cons (wv nd rfl (.inl rfl)) (pxa_nil) rfl) rfl rfl) (px_non))))
abbrev s_row_of : Stmt := (top 26)
theorem sc_row_of : FnScope ["line", "words", "numbers", "word"] ["line"] (defScope s_row_of) := ⟨rfl, rfl, rfl, by decide +kernel, rfl, by decide +kernel, by decide +kernel⟩
theorem nd_row_of : (["line", "words", "numbers", "word"] : List Str).all ndbg = true := by decide +kernel
set_option synthInstance.maxHeartbeats 0 in
set_option synthInstance.maxSize 4000 in
instance : NeF f_row_of := by unfold f_row_of b_row_of; exact fn_calm
theorem d_row_of (T : Txt P base w K mg N BX gT tA tB c__law_read c_law) (C_number_of : Cal (nm0 tA tB) P w K mg base 1 "number_of" ["word"] f_number_of) {f : Addr} {fd : FuncData} (F : Fun K "row_of" "row_of" s_row_of f fd) : FnOk P w K mg base CX0 2 f fd ["line"] (spF (nm0 tA tB) K mg 1 f_row_of) :=
  fn_ok F sc_row_of fun cdv A outer s H E hr =>
    have nds : (["line", "words", "numbers", "word"] : List Str).Nodup := sc_row_of.nd
    have nd := nd_row_of
    pxss_cons (pxs_set nds rfl (.inl rfl) (px_split (wv nd rfl (.inl rfl)) (px_str kz__) rfl rfl rfl) rfl (.inr rfl))
    (pxss_cons (pxs_setLc rfl nds rfl rfl rfl (own := [("word", 3)]) (pxi_seq (px_slice (wv nd rfl (.inl rfl)) (pxo_some (px_int)) (pxo_none))) (blkOk_by (by kernel_rfl)) (by decide) (gok_name 3) (fun _ _ _ _ _ => pg_name nds rfl (.inl rfl) (.inr rfl)) (fun _ _ _ _ _ => pxts_nil) (fun _ _ _ _ _ => wd_call C_number_of (alen_cons (alen_nil)) (hr.mono (by decide)) rfl (pxa_cons (wv nd rfl (.inl rfl)) (pxa_nil) rfl) dbg_number_of rfl rfl) (fun _ => rfl))
    (pxss_cons (pxs_if (pxt_w (pxw_or (wd_kNotIn T.m_SHAPES rfl dbg_SHAPES (px_ix (wv nd rfl (.inl rfl)) (px_int) (fun _ _ => rfl))) (pxw_or (pxt_cmp (op_inA (hu65 hr)) op2_in (px_non) (wv nd rfl (.inl rfl)) rfl) (pxw_or1 (pxt_cmp (op_neA (hu64 hr)) op2_ne (wd_len rfl T.m_len (pxa_cons (wv nd rfl (.inl rfl)) (pxa_nil) rfl) rfl rfl) (wd_len rfl T.m_len (pxa_cons (wd_kix T.m_SHAPES rfl dbg_SHAPES (px_ix (wv nd rfl (.inl rfl)) (px_int) (fun _ _ => rfl)) (fun _ _ => rfl)) (pxa_nil) rfl) rfl rfl) rfl))))) (pxss_one (pxs_ret (px_non))) (pxss_nil))
    (pxss_one (pxs_ret (wd_tuple rfl T.m_tuple (pxa_cons (px_op op_addA op2_add (px_lst (pxa_cons (px_ix (wv nd rfl (.inl rfl)) (px_int) (fun _ _ => rfl)) (pxa_nil) rfl) (by decide) (len_cons (len_nil))) (wv nd rfl (.inl rfl))) (pxa_nil) rfl) rfl rfl)))))
abbrev s_read : Stmt := (top 27)
theorem sc_read : FnScope ["text", "lines", "words", "numbers", "rows", "number", "line", "row", "program", "word"] ["text"] (defScope s_read) := ⟨rfl, rfl, rfl, by decide +kernel, rfl, by decide +kernel, by decide +kernel⟩
theorem nd_read : (["text", "lines", "words", "numbers", "rows", "number", "line", "row", "program", "word"] : List Str).all ndbg = true := by decide +kernel
theorem d_read (T : Txt P base w K mg N BX gT tA tB c__law_read c_law) (C_number_of : Cal (nm0 tA tB) P w K mg base 1 "number_of" ["word"] f_number_of) (C_row_of : Cal (nm0 tA tB) P w K mg base 2 "row_of" ["line"] f_row_of) (C_need_program : CalX (nm0 tA tB) P w K mg base 3 "need_program" ["program"] f_need_program) {f : Addr} {fd : FuncData} (F : Fun K "read" "read" s_read f fd) : FnOk P w K mg base (L2.CX P w) 4 f fd ["text"] (spX (nm0 tA tB) K mg 1 f_read) :=
  fnx_ok F sc_read fun cdv A outer s H E hr tk =>
    have nds : (["text", "lines", "words", "numbers", "rows", "number", "line", "row", "program", "word"] : List Str).Nodup := sc_read.nd
    have nd := nd_read
    xss_cons (xs_lift (pxs_set nds rfl (.inl rfl) (px_split (wv nd rfl (.inl rfl)) (px_str kz___38) rfl rfl rfl) rfl (.inr rfl)))
    (xss_cons (xs_lift (pxs_set nds rfl (.inl rfl) (px_split (px_ix (wv nd rfl (.inl rfl)) (px_int) (fun _ _ => rfl)) (px_str kz__) rfl rfl rfl) rfl (.inr rfl)))
    (xss_cons (xs_lift (pxs_setLc rfl nds rfl rfl rfl (own := [("word", 9)]) (pxi_seq (px_every (wv nd rfl (.inl rfl)) (pxo_some (px_int)) (px_int))) (blkOk_by (by kernel_rfl)) (by decide) (gok_name 9) (fun _ _ _ _ _ => pg_name nds rfl (.inl rfl) (.inr rfl)) (fun _ _ _ _ _ => pxts_nil) (fun _ _ _ _ _ => wd_call C_number_of (alen_cons (alen_nil)) (hr.mono (by decide)) rfl (pxa_cons (wv nd rfl (.inl rfl)) (pxa_nil) rfl) dbg_number_of rfl rfl) (fun _ => rfl)))
    (xss_cons (xs_if (pxt_w (pxw_or (pxt_cmp (op_neA (hu64 hr)) op2_ne (wd_len rfl T.m_len (pxa_cons (wv nd rfl (.inl rfl)) (pxa_nil) rfl) rfl rfl) (px_int) rfl) (pxw_or (pxt_cmp (op_neA (hu64 hr)) op2_ne (px_every (wv nd rfl (.inl rfl)) (pxo_none) (px_int)) (px_lst (pxa_cons (wd_globS T.m_PARAMS rfl dbg_PARAMS) (pxa_cons (wd_globS T.m_NAMES rfl dbg_NAMES) (pxa_nil) rfl) rfl) (by decide) (len_cons (len_cons (len_nil)))) rfl) (pxw_or1 (pxt_cmp (op_inA (hu65 hr)) op2_in (px_non) (wv nd rfl (.inl rfl)) rfl))))) (xss_one (wx_raiseR rfl tk rfl T.x_BadText (hr.mono (by decide)) rfl (px_int) dbg_BadText rfl rfl)) (xss_lift pxss_nil))
    (xss_cons (xs_lift (pxs_set nds rfl (.inl rfl) (px_lst (pxa_nil) (by decide) (len_nil)) rfl (.inr rfl)))
    (xss_cons (xs_for (passes_of rfl) rfl (pxi_enum rfl T.m_enumerate (px_slice (wv nd rfl (.inl rfl)) (pxo_some (px_int)) (pxo_none)) rfl) (pg_tup rfl (pgs_cons (pg_name nds rfl (.inl rfl) (.inr rfl)) (pgs_cons (pg_name nds rfl (.inl rfl) (.inr rfl)) (pgs_nil) rfl) rfl) rfl rfl) (gok_tup (is := [5, 6])) (xss_cons (xs_lift (pxs_set nds rfl (.inl rfl) (wd_call C_row_of (alen_cons (alen_nil)) (hr.mono (by decide)) rfl (pxa_cons (wv nd rfl (.inl rfl)) (pxa_nil) rfl) dbg_row_of rfl rfl) rfl (.inr rfl)))
    (xss_cons (xs_if (pxt_isN (wv nd rfl (.inl rfl))) (xss_one (wx_raiseR rfl tk rfl T.x_BadText (hr.mono (by decide)) rfl (px_op op_addA op2_add (wv nd rfl (.inl rfl)) (px_int)) dbg_BadText rfl rfl)) (xss_lift pxss_nil))
    (xss_one (xs_lift (pxs_expr (wd_append (wv nd rfl (.inl rfl)) (wv nd rfl (.inl rfl)) rfl rfl rfl rfl rfl) rfl))))) (fun _ => rfl))
    (xss_cons (xs_lift (pxs_set nds rfl (.inl rfl) (px_tup (pxa_cons (px_ix (wv nd rfl (.inl rfl)) (px_int) (fun _ _ => rfl)) (pxa_cons (px_ix (wv nd rfl (.inl rfl)) (px_int) (fun _ _ => rfl)) (pxa_cons (wd_tuple rfl T.m_tuple (pxa_cons (wv nd rfl (.inl rfl)) (pxa_nil) rfl) rfl rfl) (pxa_nil) rfl) rfl) rfl) (by decide) (len_cons (len_cons (len_cons (len_nil))))) rfl (.inr rfl)))
    (xss_cons (xs_expr (wx_call C_need_program tk (alen_cons (alen_nil)) (hr.mono (by decide)) rfl (pxa_cons (wv nd rfl (.inl rfl)) (pxa_nil) rfl) dbg_need_program rfl rfl) rfl)
    (xss_one (xs_lift (pxs_ret (wv nd rfl (.inl rfl))))))))))))
abbrev s_law : Stmt := (top 45)
theorem sc_law : FnScope ["_law_script", "_law_box", "_law_odd", "_law_turn", "_law_text", "_law_change", "_law_due", "_law_again"] ["_law_script"] (defScope s_law) := ⟨rfl, rfl, rfl, by decide +kernel, rfl, by decide +kernel, by decide +kernel⟩
theorem nd_law : (["_law_script", "_law_box", "_law_odd", "_law_turn", "_law_text", "_law_change", "_law_due", "_law_again"] : List Str).all ndbg = true := by decide +kernel
theorem d__law_read (T : Txt P base w K mg N BX gT tA tB c__law_read c_law) (C__law_number : Cal (nm0 tA tB) P w K mg base 1 "_law_number" ["_law_word"] f__law_number) (C__law_line : Cal (nm0 tA tB) P w K mg base 2 "_law_line" ["_law_line_here"] f__law_line) (C_written : CalX (nm0 tA tB) P w K mg base 4 "written" ["program"] f_written) {oc kV doc pm ct : Value} {od an : Option Addr} {osl : Array (Option Value)} {f : Addr}
    (lk : K.lookup f = some ⟨oc, od, .func (PySem.W.fnOf "_law_read" "_law_read" (defArgs s__law_read) (defBody s__law_read) (defScope s__law_read) .none kV doc pm an (.ref c__law_read) ct), osl⟩) (hcd : PySem.W.codeIn K (.ref c__law_read) "_law_read" = true) :
    FnOk P w K mg base CX0 7 f (PySem.W.fnOf "_law_read" "_law_read" (defArgs s__law_read) (defBody s__law_read) (defScope s__law_read) .none kV doc pm an (.ref c__law_read) ct) ["_law_text"] (spF (nm0 tA tB) K mg 1 f__law_read) :=
  fn_okC lk hcd sc__law_read fun A outer s H E hr =>
    have nds : (["_law_text", "_law_lines", "_law_words", "_law_rows", "_law_program_here", "_law_told_here", "_law_line_here"] : List Str).Nodup := sc__law_read.nd
    have nd := nd__law_read
    pxss_cons (pxs_set nds rfl (.inl rfl) (px_split (wv nd rfl (.inl rfl)) (px_str kz___38) rfl rfl rfl) rfl (.inr rfl))
    (pxss_cons (pxs_set nds rfl (.inl rfl) (px_split (px_ix (wv nd rfl (.inl rfl)) (px_int) (fun _ _ => rfl)) (px_str kz__) rfl rfl rfl) rfl (.inr rfl))
    (pxss_cons (pxs_if (pxt_w (pxw_or (pxt_cmp (op_neA (hu64 hr)) op2_ne (wd_len rfl T.m_len (pxa_cons (wv nd rfl (.inl rfl)) (pxa_nil) rfl) rfl rfl) (px_int) rfl) (pxw_or (pxt_cmp (op_neA (hu64 hr)) op2_ne (px_ix (wv nd rfl (.inl rfl)) (px_int) (fun _ _ => rfl)) (px_str kz_params) rfl) (pxw_or1 (pxt_cmp (op_neA (hu64 hr)) op2_ne (px_ix (wv nd rfl (.inl rfl)) (px_int) (fun _ _ => rfl)) (px_str kz_names) rfl))))) (pxss_one (pxs_ret (px_tup (pxa_cons (px_str kz_BadText) (pxa_cons (px_int) (pxa_nil) rfl) rfl) (by decide) (len_cons (len_cons (len_nil)))))) (pxss_nil))
    (pxss_cons (pxs_if (pxt_w (pxw_or (pxt_isN (wd_call C__law_number (alen_cons (alen_nil)) (hr.mono (by decide)) rfl (pxa_cons (px_ix (wv nd rfl (.inl rfl)) (px_int) (fun _ _ => rfl)) (pxa_nil) rfl) dbg__law_number rfl rfl)) (pxw_or1 (pxt_isN (wd_call C__law_number (alen_cons (alen_nil)) (hr.mono (by decide)) rfl (pxa_cons (px_ix (wv nd rfl (.inl rfl)) (px_int) (fun _ _ => rfl)) (pxa_nil) rfl) dbg__law_number rfl rfl))))) (pxss_one (pxs_ret (px_tup (pxa_cons (px_str kz_BadText) (pxa_cons (px_int) (pxa_nil) rfl) rfl) (by decide) (len_cons (len_cons (len_nil)))))) (pxss_nil))
    (pxss_cons (pxs_setLc rfl nds rfl rfl rfl (own := [("_law_line_here", 6)]) (pxi_seq (px_slice (wv nd rfl (.inl rfl)) (pxo_some (px_int)) (pxo_none))) (blkOk_by (by kernel_rfl)) (by decide) (gok_name 6) (fun _ _ _ _ _ => pg_name nds rfl (.inl rfl) (.inr rfl)) (fun _ _ _ _ _ => pxts_nil) (fun _ _ _ _ _ => wd_call C__law_line (alen_cons (alen_nil)) (hr.mono (by decide)) rfl (pxa_cons (wv nd rfl (.inl rfl)) (pxa_nil) rfl) dbg__law_line rfl rfl) (fun _ => rfl))
    (pxss_cons (pxs_if (pxt_cmp (op_inA (hu65 hr)) op2_in (px_non) (wv nd rfl (.inl rfl)) rfl) (pxss_one (pxs_ret (px_tup (pxa_cons (px_str kz_BadText) (pxa_cons (px_op op_addA op2_add (px_int) (wd_indexN (hu65 hr) (wv nd rfl (.inl rfl)) (px_non) rfl rfl rfl rfl rfl)) (pxa_nil) rfl) rfl) (by decide) (len_cons (len_cons (len_nil)))))) (pxss_nil))
    (pxss_cons (pxs_set nds rfl (.inr rfl) (px_tup (pxa_cons (wd_call C__law_number (alen_cons (alen_nil)) (hr.mono (by decide)) rfl (pxa_cons (px_ix (wv nd rfl (.inl rfl)) (px_int) (fun _ _ => rfl)) (pxa_nil) rfl) dbg__law_number rfl rfl) (pxa_cons (wd_call C__law_number (alen_cons (alen_nil)) (hr.mono (by decide)) rfl (pxa_cons (px_ix (wv nd rfl (.inl rfl)) (px_int) (fun _ _ => rfl)) (pxa_nil) rfl) dbg__law_number rfl rfl) (pxa_cons (wd_tuple rfl T.m_tuple (pxa_cons (wv nd rfl (.inl rfl)) (pxa_nil) rfl) rfl rfl) (pxa_nil) rfl) rfl) rfl) (by decide) (len_cons (len_cons (len_cons (len_nil))))) rfl (.inl rfl))
    (pxss_cons (pxs_set nds rfl (.inl rfl) (wd_told (k := 4) T.told T.tb__law_read rfl tm__law_read (tu__law_read T.tne) rfl (hr.mono (by decide)) (lamS_by rfl) rfl (fun _ _ _ _ _ => rfl) (fun A outer s H E f c' hr => have tk := takes_of rfl rfl rfl rfl; wx_call C_written tk (alen_cons (alen_nil)) (hr.mono (by decide)) rfl (pxa_cons (wv nd rfl (.inr (.inr rfl))) (pxa_nil) rfl) dbg_written rfl rfl)) rfl (.inr rfl))
    (pxss_one (pxs_ret (px_if (pxt_cmp (op_eqA (hu64 hr)) op2_eq (wv nd rfl (.inl rfl)) (wv nd rfl (.inl rfl)) rfl) (wv nd rfl (.inr (.inl rfl))) (wv nd rfl (.inl rfl))))))))))))
theorem d_law (T : Txt P base w K mg N BX gT tA tB c__law_read c_law) (C__law_begun : Cal (nm0 tA tB) P w K mg base 1 "_law_begun" ["_law_script"] f__law_begun) (C_written : CalX (nm0 tA tB) P w K mg base 4 "written" ["program"] f_written) (C__law_program : Cal (nm0 tA tB) P w K mg base 3 "_law_program" ["_law_box", "_law_most"] f__law_program) (C__law_take : Cal (nm0 tA tB) P w K mg base 1 "_law_take" ["_law_box", "_law_many"] f__law_take) (C__law_spoilt : Cal (nm0 tA tB) P w K mg base 2 "_law_spoilt" ["_law_box", "_law_text"] f__law_spoilt) (C__law_read : Cal (nm0 tA tB) P w K mg base 7 "_law_read" ["_law_text"] f__law_read) (C__law_alike : Cal (nm0 tA tB) P w K mg base 13 "_law_alike" ["_law_found", "_law_due"] (f__law_alike 12)) (C_read : CalX (nm0 tA tB) P w K mg base 4 "read" ["text"] f_read) {oc kV doc pm ct : Value} {od an : Option Addr} {osl : Array (Option Value)} {f : Addr}
    (lk : K.lookup f = some ⟨oc, od, .func (PySem.W.fnOf "law" "law" (defArgs s_law) (defBody s_law) (defScope s_law) .none kV doc pm an (.ref c_law) ct), osl⟩) (hcd : PySem.W.codeIn K (.ref c_law) "law" = true) :
    FnOk P w K mg base CX0 14 f (PySem.W.fnOf "law" "law" (defArgs s_law) (defBody s_law) (defScope s_law) .none kV doc pm an (.ref c_law) ct) ["_law_script"] (spF (nm0 tA tB) K mg 1 f_law_v19) :=
  fn_okC lk hcd sc_law fun A outer s H E hr =>
    have nds : (["_law_script", "_law_box", "_law_odd", "_law_turn", "_law_text", "_law_change", "_law_due", "_law_again"] : List Str).Nodup := sc_law.nd
    have nd := nd_law
    pxss_cons (pxs_set nds rfl (.inl rfl) (wd_call C__law_begun (alen_cons (alen_nil)) (hr.mono (by decide)) rfl (pxa_cons (wv nd rfl (.inl rfl)) (pxa_nil) rfl) dbg__law_begun rfl rfl) rfl (.inr rfl))
    (pxss_cons (pxs_set nds rfl (.inl rfl) (px_lst (pxa_cons (px_str kz_empty) (pxa_cons (px_str kz__) (pxa_cons (px_str kz___38) (pxa_cons (px_str kz_params_0_names_1) (pxa_cons (px_str kz_params_0_names_1_) (pxa_cons (px_str kz_params_0_names_1_end) (pxa_cons (px_str kz_names_1_params_0_end) (pxa_nil) rfl) rfl) rfl) rfl) rfl) rfl) rfl) (by decide) (len_cons (len_cons (len_cons (len_cons (len_cons (len_cons (len_cons (len_nil))))))))) rfl (.inr rfl))
    (pxss_cons (pxs_set nds rfl (.inl rfl) (px_op op_addA op2_add (wv nd rfl (.inl rfl)) (px_lst (pxa_cons (px_str kz_params_2_names_1_end) (pxa_cons (px_str kz_params_0_names_0_end) (pxa_cons (px_str kz_params_0_names_1_end_) (pxa_cons (px_str kz_params_0_names_1_go_1) (pxa_nil) rfl) rfl) rfl) rfl) (by decide) (len_cons (len_cons (len_cons (len_cons (len_nil))))))) rfl (.inr rfl))
    (pxss_cons (pxs_for PassesOwn.never rfl (pxi_range1 rfl T.m_range (px_int) rfl) (pg_name nds rfl (.inl rfl) (.inr rfl)) (gok_name 3) (pxss_cons (pxs_set nds rfl (.inr rfl) (wd_callX C_written (alen_cons (alen_nil)) (hr.mono (by decide)) rfl (pxa_cons (wd_call C__law_program (alen_cons (alen_cons (alen_nil))) (hr.mono (by decide)) rfl (pxa_cons (wv nd rfl (.inl rfl)) (pxa_cons (px_int) (pxa_nil) rfl) rfl) dbg__law_program rfl rfl) (pxa_nil) rfl) dbg_written rfl rfl) rfl (.inl rfl))
    (pxss_cons (pxs_if (pxt_cmp (op_eqA (hu64 hr)) op2_eq (wd_call C__law_take (alen_cons (alen_cons (alen_nil))) (hr.mono (by decide)) rfl (pxa_cons (wv nd rfl (.inl rfl)) (pxa_cons (px_int) (pxa_nil) rfl) rfl) dbg__law_take rfl rfl) (px_int) rfl) (pxss_one (pxs_set nds rfl (.inr rfl) (px_ix (wv nd rfl (.inl rfl)) (wd_call C__law_take (alen_cons (alen_cons (alen_nil))) (hr.mono (by decide)) rfl (pxa_cons (wv nd rfl (.inl rfl)) (pxa_cons (px_int) (pxa_nil) rfl) rfl) dbg__law_take rfl rfl) (fun _ _ => rfl)) rfl (.inl rfl))) (pxss_nil))
    (pxss_cons (pxs_for PassesOwn.never rfl (pxi_range1 rfl T.m_range (wd_call C__law_take (alen_cons (alen_cons (alen_nil))) (hr.mono (by decide)) rfl (pxa_cons (wv nd rfl (.inl rfl)) (pxa_cons (px_int) (pxa_nil) rfl) rfl) dbg__law_take rfl rfl) rfl) (pg_name nds rfl (.inl rfl) (.inr rfl)) (gok_name 5) (pxss_one (pxs_set nds rfl (.inr rfl) (wd_call C__law_spoilt (alen_cons (alen_cons (alen_nil))) (hr.mono (by decide)) rfl (pxa_cons (wv nd rfl (.inl rfl)) (pxa_cons (wv nd rfl (.inr (.inl rfl))) (pxa_nil) rfl) rfl) dbg__law_spoilt rfl rfl) rfl (.inl rfl))) (fun _ => rfl))
    (pxss_cons (pxs_set nds rfl (.inl rfl) (wd_call C__law_read (alen_cons (alen_nil)) (hr.mono (by decide)) rfl (pxa_cons (wv nd rfl (.inr (.inl rfl))) (pxa_nil) rfl) dbg__law_read rfl rfl) rfl (.inr rfl))
    (pxss_one (pxs_for PassesOwn.never rfl (pxi_range1 rfl T.m_range (px_int) rfl) (pg_name nds rfl (.inl rfl) (.inr rfl)) (gok_name 7) (pxss_one (pxs_if (pxt_not (pxt_val (wd_call C__law_alike (alen_cons (alen_cons (alen_nil))) (hr.mono (by decide)) rfl (pxa_cons (wd_told (k := 4) T.told T.tb_law rfl tm_law (tu_law T.tne) rfl (hr.mono (by decide)) (lamS_by rfl) rfl (fun _ _ _ _ _ => rfl) (fun A outer s H E f c' hr => have tk := takes_of rfl rfl rfl rfl; wx_call C_read tk (alen_cons (alen_nil)) (hr.mono (by decide)) rfl (pxa_cons (wv nd rfl (.inr (.inr rfl))) (pxa_nil) rfl) dbg_read rfl rfl)) (pxa_cons (wv nd rfl (.inl rfl)) (pxa_nil) rfl) rfl) dbg__law_alike rfl rfl) (fun _ => rfl))) (pxss_one (pxs_ret (px_bl))) (pxss_nil))) (fun _ => rfl))))))) (fun _ => rfl))
    (pxss_one (pxs_ret (px_bl))))))
end
end Gk22
end
section
set_option linter.all false
set_option autoImplicit false
set_option maxRecDepth 100003
namespace PF
def wp {α : Type} (o : Out α) (Q : α → Sto → Prop) : Prop := ∃ a S, o = .ok a S ∧ Q a S
section
variable {α β : Type} {o : Out α} {Q R : α → Sto → Prop} {S S' : Sto} {ρ : Env}
theorem wp_ok {a : α} : wp (.ok a S) Q = Q a S := by
  refine propext ⟨fun ⟨b, U, e, q⟩ => ?_, fun q => ⟨a, S, rfl, q⟩⟩
  cases e
  exact q
theorem wp_bad : wp (.bad : Out α) Q = False := propext ⟨fun ⟨_, _, e, _⟩ => (nomatch e), fun h => h.elim⟩
theorem wp_bind {k : α → M β} {P : β → Sto → Prop} : wp (o.bind k) P = wp o (fun a S => wp (k a S) P) := by
  refine propext ⟨fun ⟨b, U, e, q⟩ => ?_, fun ⟨a, U, e, b, V, e2, q⟩ => ?_⟩
  · cases o with
    | ok a V => exact ⟨a, V, rfl, b, U, e, q⟩
    | err x V => cases e
    | bad => cases e
  · subst e
    exact ⟨b, V, e2, q⟩
theorem wp_mono (h : wp o Q) (k : ∀ a S, Q a S → R a S) : wp o R := let ⟨a, S, e, q⟩ := h; ⟨a, S, e, k a S q⟩
theorem wp_ite {c : Prop} [Decidable c] {a b : Out α} : wp (if c then a else b) Q = if c then wp a Q else wp b Q := by split <;> rfl
variable {P : D → Sto → Prop}
theorem w_var {i : Nat} {d : D} (h : ρ[i]? = some (some d)) : wp (eVar i ρ S) P = P d S := by unfold eVar; rw [h]; exact wp_ok
theorem w_c {d : D} : wp (eC d ρ S) P = P d S := wp_ok
theorem w_e1 {g : D → M D} {a : E} : wp (e1 g a ρ S) P = wp (a ρ S) fun x S => wp (g x S) P := wp_bind
theorem w_e2 {g : D → D → M D} {a b : E} : wp (e2 g a b ρ S) P = wp (a ρ S) fun x S => wp (b ρ S) fun y S => wp (g x y S) P := by
  unfold e2
  rw [wp_bind]
  simp only [wp_bind]
theorem w_nil {P : List D → Sto → Prop} : wp (aNil ρ S) P = P [] S := wp_ok
theorem w_cons {P : List D → Sto → Prop} {a : E} {r : A} : wp (aCons a r ρ S) P = wp (a ρ S) fun x S => wp (r ρ S) fun xs S => P (x :: xs) S := by
  unfold aCons
  simp only [wp_bind, wp_ok]
theorem w_tup {a : A} : wp (eTup a ρ S) P = wp (a ρ S) fun xs S => P (.tup xs) S := by
  unfold eTup
  simp only [wp_bind, wp_ok]
theorem w_lst {a : A} : wp (eLst a ρ S) P = wp (a ρ S) fun xs S => P (.ref S.length) (S ++ [.lst xs]) := by
  unfold eLst alloc
  simp only [wp_bind, wp_ok]
theorem w_call {f : Fn} {a : A} : wp (eCall f a ρ S) P = wp (a ρ S) fun xs S => wp (f xs S) P := wp_bind
theorem w_if {t : T} {a b : E} : wp (eIf t a b ρ S) P = wp (t ρ S) fun c S => if c = true then wp (a ρ S) P else wp (b ρ S) P := by
  unfold eIf
  simp only [wp_bind, wp_ite]
theorem w_te {P : Bool → Sto → Prop} {a : E} : wp (tE a ρ S) P = wp (a ρ S) fun x S => ∃ c, x = .bl c ∧ P c S := by
  unfold tE
  rw [wp_bind]
  congr
  funext x S
  cases x <;> simp [wp_ok, wp_bad]
theorem w_and {a b : E} : wp (eAnd a b ρ S) P = wp (a ρ S) fun x S => ∃ c, x = .bl c ∧ if c = true then wp (b ρ S) P else P (.bl false) S := by
  unfold eAnd
  rw [wp_bind]
  congr
  funext x S
  cases x with
  | bl c => cases c <;> simp [wp_ok]
  | _ => simp [wp_bad]
theorem w_or {a b : E} : wp (eOr a b ρ S) P = wp (a ρ S) fun x S => ∃ c, x = .bl c ∧ if c = true then P (.bl true) S else wp (b ρ S) P := by
  unfold eOr
  rw [wp_bind]
  congr
  funext x S
  cases x with
  | bl c => cases c <;> simp [wp_ok]
  | _ => simp [wp_bad]
theorem w_not {a : E} : wp (eNot a ρ S) P = wp (a ρ S) fun x S => ∃ c, x = .bl c ∧ P (.bl (!c)) S := by
  unfold eNot
  rw [wp_bind]
  congr
  funext x S
  cases x <;> simp [wp_ok, wp_bad]
theorem w_tand {P : Bool → Sto → Prop} {a b : T} : wp (tAnd a b ρ S) P = wp (a ρ S) fun c S => if c = true then wp (b ρ S) P else P false S := by
  unfold tAnd
  simp only [wp_bind, wp_ite, wp_ok]
theorem w_tor {P : Bool → Sto → Prop} {a b : T} : wp (tOr a b ρ S) P = wp (a ρ S) fun c S => if c = true then P true S else wp (b ρ S) P := by
  unfold tOr
  simp only [wp_bind, wp_ite, wp_ok]
theorem w_tnot {P : Bool → Sto → Prop} {a : T} : wp (tNot a ρ S) P = wp (a ρ S) fun c S => P (!c) S := by
  unfold tNot
  simp only [wp_bind, wp_ok]
theorem w_tyes {P : Bool → Sto → Prop} : wp (tYes ρ S) P = P true S := wp_ok
theorem w_chain {g g' : D → D → M D} {a b c : E} : wp (eChain g g' a b c ρ S) P = wp (a ρ S) fun x S => wp (b ρ S) fun y S => wp (g x y S) fun z S => ∃ k, z = .bl k ∧ if k = true then wp (c ρ S) fun w S => wp (g' y w S) P else P (.bl false) S := by
  unfold eChain
  simp only [wp_bind]
  congr
  funext x S
  congr
  funext y S
  congr
  funext z S
  cases z with
  | bl k => cases k <;> simp [wp_ok, wp_bind]
  | _ => simp [wp_bad]
variable {Z : Fl × Env → Sto → Prop}
theorem w_next : wp (sNext ρ S) Z = Z (.nx, ρ) S := wp_ok
theorem w_seq {a b : St} : wp (sSeq a b ρ S) Z = wp (a ρ S) fun r S => match r.1 with
    | .nx => wp (b r.2 S) Z
    | f => Z (f, r.2) S := by
  unfold sSeq
  rw [wp_bind]
  congr
  funext r S
  cases r.1 <;> simp [wp_ok]
theorem w_set {i : Nat} {a : E} : wp (sSet i a ρ S) Z = wp (a ρ S) fun x S => Z (.nx, ρ.set i (some x)) S := by
  unfold sSet
  simp only [wp_bind, wp_ok]
theorem w_asg {g : G} {a : E} : wp (sAsg g a ρ S) Z = wp (a ρ S) fun x S => ∃ ρ1, g x ρ = some ρ1 ∧ Z (.nx, ρ1) S := by
  unfold sAsg
  rw [wp_bind]
  congr
  funext x S
  cases g x ρ <;> simp [wp_ok, wp_bad]
theorem w_par {is : List Nat} {a : A} : wp (sPar is a ρ S) Z = wp (a ρ S) fun xs S => ∃ ρ1, setAll is xs ρ = some ρ1 ∧ Z (.nx, ρ1) S := by
  unfold sPar
  rw [wp_bind]
  congr
  funext x S
  cases setAll is x ρ <;> simp [wp_ok, wp_bad]
theorem w_expr {a : E} : wp (sExpr a ρ S) Z = wp (a ρ S) fun _ S => Z (.nx, ρ) S := by
  unfold sExpr
  simp only [wp_bind, wp_ok]
theorem w_ret {a : E} : wp (sRet a ρ S) Z = wp (a ρ S) fun x S => Z (.rt x, ρ) S := by
  unfold sRet
  simp only [wp_bind, wp_ok]
theorem w_sif {t : T} {a b : St} : wp (sIf t a b ρ S) Z = wp (t ρ S) fun c S => if c = true then wp (a ρ S) Z else wp (b ρ S) Z := by
  unfold sIf
  simp only [wp_bind, wp_ite]
theorem w_break : wp (sBreak ρ S) Z = Z (.bk, ρ) S := wp_ok
theorem w_cont : wp (sCont ρ S) Z = Z (.ct, ρ) S := wp_ok
theorem w_sub {o i v : E} : wp (sSub o i v ρ S) Z = wp (v ρ S) fun x S => wp (o ρ S) fun a S => wp (i ρ S) fun k S => ∃ S1, setItem a k x S = some S1 ∧ Z (.nx, ρ) S1 := by
  unfold sSub
  simp only [wp_bind]
  congr
  funext x S
  congr
  funext a S
  congr
  funext k S
  cases setItem a k x S <;> simp [wp_ok, wp_bad]
theorem w_dct {o i v : E} : wp (sDct o i v ρ S) Z = wp (v ρ S) fun x S => wp (o ρ S) fun a S => wp (i ρ S) fun k S => ∃ S1, setDct a k x S = some S1 ∧ Z (.nx, ρ) S1 := by
  unfold sDct
  simp only [wp_bind]
  congr
  funext x S
  congr
  funext a S
  congr
  funext k S
  cases setDct a k x S <;> simp [wp_ok, wp_bad]
theorem w_fld {c f : Nat} {o v : E} : wp (sFld c f o v ρ S) Z = wp (v ρ S) fun x S => wp (o ρ S) fun a S => ∃ S1, setFld c f a x S = some S1 ∧ Z (.nx, ρ) S1 := by
  unfold sFld
  simp only [wp_bind]
  congr
  funext x S
  congr
  funext a S
  cases setFld c f a x S <;> simp [wp_ok, wp_bad]
theorem w_fn {n : Nat} {b : St} {xs : List D} : wp (fn n b xs S) P = (xs.length ≤ n ∧ wp (b (xs.map some ++ List.replicate (n - xs.length) none) S) fun r S => match r.1 with
    | .nx => P .non S
    | .rt d => P d S
    | _ => False) := by
  unfold fn
  split
  · rename_i c
    rw [wp_bind]
    simp only [c, true_and]
    congr
    funext r S
    cases r.1 <;> simp [wp_ok, wp_bad]
  · rename_i c
    simp [wp_bad, c]
theorem w_comp {i : I} {vs : List Nat} {g : G} {t : T} {e : E} : wp (eComp i vs g t e ρ S) P = wp (i ρ S) fun it S => wp (compLoop it g t e (wipe ρ vs) it.all S) fun ys S => ys.length ≤ LIM ∧ P (.ref S.length) (S ++ [.lst ys]) := by
  unfold eComp
  simp only [wp_bind]
  congr
  funext it S
  congr
  funext ys S
  split
  · rename_i c
    unfold alloc
    simp [wp_ok, c]
  · rename_i c
    simp [wp_bad, c]
theorem w_for {i : I} {g : G} {b : St} : wp (sFor i g b ρ S) Z = wp (i ρ S) fun it S => wp (forLoop it g b it.all ρ S) Z := wp_bind
theorem w_iseq {P : Iter → Sto → Prop} {a : E} : wp (iSeq a ρ S) P = wp (a ρ S) fun x S => ∃ ds, seqOf x S = some ds ∧ P ⟨chkOf x S, ds⟩ S := by
  unfold iSeq
  rw [wp_bind]
  congr
  funext x S
  cases seqOf x S <;> simp [wp_ok, wp_bad]
theorem w_range1 {P : Iter → Sto → Prop} {a : E} : wp (iRange1 a ρ S) P = wp (a ρ S) fun x S => ∃ j, x = .int j ∧ (-(2 ^ 62) ≤ j ∧ j < 2 ^ 62) ∧ P ⟨[], rangeD 0 j⟩ S := by
  unfold iRange1
  rw [wp_bind]
  congr
  funext x S
  cases x with
  | int j =>
    refine propext ⟨fun h => ?_, fun ⟨k, e, h, p⟩ => ?_⟩
    · dsimp only at h
      split at h
      · rename_i c; rw [wp_ok] at h; exact ⟨j, rfl, c, h⟩
      · rw [wp_bad] at h; exact h.elim
    · cases e
      dsimp only
      rw [if_pos h, wp_ok]
      exact p
  | _ => simp [wp_bad]
theorem w_enum {P : Iter → Sto → Prop} {a : E} : wp (iEnum a ρ S) P = wp (a ρ S) fun x S => ∃ ds, seqZ x S = some ds ∧ P ⟨chkOf x S, enumD 0 ds⟩ S := by
  unfold iEnum
  rw [wp_bind]
  congr
  funext x S
  cases seqZ x S <;> simp [wp_ok, wp_bad]
/-- a comprehension by its invariant: how many were walked, what is made, the store -/
theorem wp_loop {it : Iter} {g : G} {t : T} {e : E} (J : Nat → List D → Sto → Prop) (hs : ∀ k acc S, J k acc S → it.same S = true)
    (step : ∀ k x acc S, it.all[k]? = some x → J k acc S → ∃ ρ1, g x ρ = some ρ1 ∧ wp (t ρ1 S) fun b S1 => if b = true then wp (e ρ1 S1) fun y S2 => J (k + 1) (acc ++ [y]) S2 else J (k + 1) acc S1) (h0 : J 0 [] S) :
    wp (compLoop it g t e ρ it.all S) fun ys S' => J it.all.length ys S' := by
  have key : ∀ (xs : List D) (k : Nat) (acc : List D) (S : Sto), it.all = it.all.take k ++ xs → k + xs.length = it.all.length → J k acc S → wp (compLoop it g t e ρ xs S) fun ys S' => J it.all.length (acc ++ ys) S' := by
    intro xs
    induction xs with
    | nil =>
      intro k acc S e1 e2 h
      unfold compLoop
      rw [if_pos (hs _ _ _ h), wp_ok, List.append_nil]
      have : k = it.all.length := by simpa using e2
      rw [← this]
      exact h
    | cons x xs ih =>
      intro k acc S e1 e2 h
      have hx : it.all[k]? = some x := by
        have hk : (it.all.take k).length = k := by
          rw [List.length_take]
          rw [List.length_cons] at e2
          omega
        rw [e1, List.getElem?_append_right (by rw [hk]; exact Nat.le_refl _), hk, Nat.sub_self]
        rfl
      have e1' : it.all = it.all.take (k + 1) ++ xs := by
        rw [List.take_add_one, hx, List.append_assoc]
        exact e1
      obtain ⟨ρ1, eg, w⟩ := step k x acc S hx h
      unfold compLoop
      rw [if_pos (hs _ _ _ h), eg]
      simp only [wp_bind]
      refine wp_mono w fun b S1 w1 => ?_
      cases b with
      | true =>
        simp only [if_true] at w1 ⊢
        rw [wp_bind]
        refine wp_mono w1 fun y S2 j => ?_
        rw [wp_bind]
        refine wp_mono (ih (k + 1) _ S2 e1' (by rw [List.length_cons] at e2; omega) j) fun ys S3 j2 => ?_
        rw [wp_ok]
        rw [List.append_assoc] at j2
        exact j2
      | false =>
        simp only [Bool.false_eq_true, if_false] at w1 ⊢
        exact ih (k + 1) _ S1 e1' (by rw [List.length_cons] at e2; omega) w1
  exact key it.all 0 [] S (by simp) (by simp) h0
/-- a for by its invariant -/
theorem wp_for {it : Iter} {g : G} {b : St} (J : Nat → Env → Sto → Prop) (hs : ∀ k ρ S, J k ρ S → it.same S = true)
    (step : ∀ k x ρ S, it.all[k]? = some x → J k ρ S → ∃ ρ1, g x ρ = some ρ1 ∧ wp (b ρ1 S) fun r S1 => match r.1 with
      | .nx => J (k + 1) r.2 S1
      | .ct => J (k + 1) r.2 S1
      | .bk => Z (.nx, r.2) S1
      | .rt d => Z (.rt d, r.2) S1) (h0 : J 0 ρ S) (hd : ∀ ρ S, J it.all.length ρ S → Z (.nx, ρ) S) : wp (forLoop it g b it.all ρ S) Z := by
  have key : ∀ (xs : List D) (k : Nat) (ρ : Env) (S : Sto), it.all = it.all.take k ++ xs → k + xs.length = it.all.length → J k ρ S → wp (forLoop it g b xs ρ S) Z := by
    intro xs
    induction xs with
    | nil =>
      intro k ρ S e1 e2 h
      unfold forLoop
      rw [if_pos (hs _ _ _ h), wp_ok]
      have : k = it.all.length := by simpa using e2
      rw [this] at h
      exact hd _ _ h
    | cons x xs ih =>
      intro k ρ S e1 e2 h
      have hx : it.all[k]? = some x := by
        have hk : (it.all.take k).length = k := by
          rw [List.length_take]
          rw [List.length_cons] at e2
          omega
        rw [e1, List.getElem?_append_right (by rw [hk]; exact Nat.le_refl _), hk, Nat.sub_self]
        rfl
      have e1' : it.all = it.all.take (k + 1) ++ xs := by
        rw [List.take_add_one, hx, List.append_assoc]
        exact e1
      obtain ⟨ρ1, eg, w⟩ := step k x ρ S hx h
      unfold forLoop
      rw [if_pos (hs _ _ _ h), eg]
      simp only [wp_bind]
      refine wp_mono w fun r S1 w1 => ?_
      have el : k + 1 + xs.length = it.all.length := by rw [List.length_cons] at e2; omega
      split at w1
      · rename_i er; (try rw [er]); exact ih (k + 1) _ S1 e1' el w1
      · rename_i er; (try rw [er]); exact ih (k + 1) _ S1 e1' el w1
      · rename_i er; (try rw [er]); (try simp only [wp_ok]); exact w1
      · rename_i er; (try rw [er]); (try simp only [wp_ok]); exact w1
  exact key it.all 0 ρ S (by simp) (by simp) h0
end
/-- all but W as it was, more may stand behind -/
structure Keep (W : List Nat) (S S' : Sto) : Prop where
  len : S.length ≤ S'.length
  get : ∀ i, i < S.length → i ∉ W → S'[i]? = S[i]?
section
variable {W W' : List Nat} {S S' S2 U : Sto} {n i : Nat} {o u : MO}
theorem Keep.refl : Keep W S S := ⟨Nat.le_refl _, fun _ _ _ => rfl⟩
theorem Keep.trans (a : Keep W S S') (b : Keep W S' S2) : Keep W S S2 :=
  ⟨Nat.le_trans a.len b.len, fun i h n => (b.get i (Nat.lt_of_lt_of_le h a.len) n).trans (a.get i h n)⟩
theorem Keep.mono (a : Keep W S S') (h : ∀ i, i < S.length → i ∈ W → i ∈ W') : Keep W' S S' := ⟨a.len, fun i l n => a.get i l fun m => n (h i l m)⟩
theorem Keep.all (a : Keep [] S S') : Keep W S S' := a.mono fun _ _ m => nomatch m
theorem Keep.app : Keep W S (S ++ U) := ⟨by simp, fun i h _ => List.getElem?_append_left h⟩
theorem Keep.set (h : n ∈ W) : Keep W S (S.set n o) := ⟨by simp, fun i _ m => List.getElem?_set_ne fun e => m (by rw [← e]; exact h)⟩
theorem lt_of_get (h : S[i]? = some o) : i < S.length := (List.getElem?_eq_some_iff.mp h).1
theorem Keep.at (a : Keep W S S') (h : S[i]? = some o) (n : i ∉ W) : S'[i]? = some o := (a.get i (lt_of_get h) n).trans h
theorem get_app (h : S[i]? = some o) : (S ++ U)[i]? = some o := by rw [List.getElem?_append_left (lt_of_get h)]; exact h
theorem get_last : (S ++ [o])[S.length]? = some o := by simp
theorem get_set (h : i < S.length) : (S.set i o)[i]? = some o := by simp [h]
theorem get_ne (h : S[i]? = some o) (ne : n ≠ i) : (S.set n u)[i]? = some o := by rw [List.getElem?_set_ne ne]; exact h
/-- what is made behind is no old one -/
theorem Keep.new (a : Keep W S S') (h : ∀ i ∈ W, S.length ≤ i) : Keep [] S S' := a.mono fun i l m => absurd l (Nat.not_lt_of_le (h i m))
theorem lstOf_lst {ds : List D} (h : S[n]? = some (.lst ds)) : lstOf n S = some ds := by unfold lstOf; rw [h]
theorem wrOf_lst {ds : List D} (h : S[n]? = some (.lst ds)) : wrOf n S = some ds := by unfold wrOf; rw [h]
end
section
variable {S : Sto} {P : D → Sto → Prop}
theorem w_add {i j : Int} : wp (gAdd (.int i) (.int j) S) P = P (.int (i + j)) S := wp_ok
theorem w_sub2 {i j : Int} : wp (gSub (.int i) (.int j) S) P = P (.int (i - j)) S := wp_ok
theorem w_mul {i j : Int} (h : (-(2 ^ 64) < i ∧ i < 2 ^ 64) ∨ (-(2 ^ 64) < j ∧ j < 2 ^ 64)) : wp (gMul (.int i) (.int j) S) P = P (.int (i * j)) S := by
  unfold gMul
  simp only [if_pos h, wp_ok]
theorem w_fdiv {i j : Int} (h : 0 < j ∧ j < 1073741824) : wp (gFdiv (.int i) (.int j) S) P = P (.int (i / j)) S := by
  unfold gFdiv
  simp only [if_pos h, wp_ok]
theorem w_mod {i j : Int} (h : 0 < j) : wp (gMod (.int i) (.int j) S) P = P (.int (i % j)) S := by
  unfold gMod
  simp only [if_pos h, wp_ok]
theorem w_neg {i : Int} : wp (gNeg (.int i) S) P = P (.int (-i)) S := wp_ok
theorem w_lt {i j : Int} : wp (gLt (.int i) (.int j) S) P = P (.bl (decide (i < j))) S := wp_ok
theorem w_le {i j : Int} : wp (gLe (.int i) (.int j) S) P = P (.bl (decide (i ≤ j))) S := wp_ok
theorem w_gt {i j : Int} : wp (gGt (.int i) (.int j) S) P = P (.bl (decide (j < i))) S := wp_ok
theorem w_ge {i j : Int} : wp (gGe (.int i) (.int j) S) P = P (.bl (decide (j ≤ i))) S := wp_ok
theorem w_eqI {i j : Int} : wp (gEq (.int i) (.int j) S) P = P (.bl (i == j)) S := wp_ok
theorem w_neI {i j : Int} : wp (gNe (.int i) (.int j) S) P = P (.bl (!(i == j))) S := wp_ok
theorem w_eqS {i j : List Nat} : wp (gEq (.str i) (.str j) S) P = P (.bl (i == j)) S := wp_ok
theorem w_neS {i j : List Nat} : wp (gNe (.str i) (.str j) S) P = P (.bl (!(i == j))) S := wp_ok
theorem w_eq {x y : D} {b : Bool} (h : eqF S x y = some b) : wp (gEq x y S) P = P (.bl b) S := by unfold gEq; simp only [h, wp_ok]
theorem w_ne {x y : D} {b : Bool} (h : eqF S x y = some b) : wp (gNe x y S) P = P (.bl (!b)) S := by unfold gNe; simp only [h, wp_ok]
theorem w_isN {x : D} : wp (gIsN x S) P = P (.bl (decide (x = .non))) S := wp_ok
theorem w_notN {x : D} : wp (gNotN x S) P = P (.bl (!decide (x = .non))) S := wp_ok
theorem w_is {k : Kind} {x : D} {b : Bool} (h : isK k x S = some b) : wp (gIs k x S) P = P (.bl b) S := by unfold gIs; simp only [h, wp_ok]
theorem w_ixT {ds : List D} {i : Int} {d : D} (h : at? ds i = some d) : wp (gIx (.tup ds) (.int i) S) P = P d S := by unfold gIx; simp only [h, wp_ok]
theorem w_ixL {n : Nat} {ds : List D} {i : Int} {d : D} (h : lstOf n S = some ds) (h2 : at? ds i = some d) : wp (gIx (.ref n) (.int i) S) P = P d S := by unfold gIx; simp only [h, h2, wp_ok]
theorem w_ixS {s : List Nat} {i : Int} {c : Nat} (hl : s.length ≤ LIM) (h : at? s i = some c) : wp (gIx (.str s) (.int i) S) P = P (.str [c]) S := by unfold gIx; simp only [if_pos hl, h, wp_ok]
theorem w_dx {n : Nat} {kvs : List (D × D)} {k d : D} (h : dicOf n S = some kvs) (hk : keyOk k = true) (h2 : dget kvs k = some d) : wp (gDx (.ref n) k S) P = P d S := by unfold gDx; simp only [h, hk, h2, if_true, wp_ok]
theorem w_in {x y : D} {b : Bool} (h : inB x y S = some b) : wp (gIn x y S) P = P (.bl b) S := by unfold gIn; simp only [h, wp_ok]
theorem w_notIn {x y : D} {b : Bool} (h : inB x y S = some b) : wp (gNotIn x y S) P = P (.bl (!b)) S := by unfold gNotIn; simp only [h, wp_ok]
theorem w_gfld {c f n : Nat} {fs : List (Nat × D)} {d : D} (h : insOf c n S = some fs) (h2 : fget fs f = some d) : wp (gFld c f (.ref n) S) P = P d S := by unfold gFld; simp only [h, h2, wp_ok]
theorem w_lenT {ds : List D} : wp (fLen [.tup ds] S) P = P (.int ds.length) S := wp_ok
theorem w_lenL {n : Nat} {ds : List D} (h : lstOf n S = some ds) : wp (fLen [.ref n] S) P = P (.int ds.length) S := by unfold fLen; simp only [h, wp_ok]
theorem w_intB {b : Bool} : wp (fInt [.bl b] S) P = P (.int (b2i b)) S := wp_ok
theorem w_min2 {i j : Int} : wp (fMin [.int i, .int j] S) P = P (.int (if j < i then j else i)) S := wp_ok
theorem w_max2 {i j : Int} : wp (fMax [.int i, .int j] S) P = P (.int (if j > i then j else i)) S := wp_ok
theorem w_listOf {d : D} {ds : List D} (h : seqOf d S = some ds) : wp (fList [d] S) P = P (.ref S.length) (S ++ [.lst ds]) := by unfold fList; simp only [h, alloc, wp_ok]
theorem w_tupOf {d : D} {ds : List D} (h : seqOf d S = some ds) : wp (fTuple [d] S) P = P (.tup ds) S := by unfold fTuple; simp only [h, wp_ok]
theorem at0 {α : Type} {xs : List α} : at? xs 0 = xs[0]? := by
  unfold at? ixN
  cases xs with
  | nil => simp
  | cons x xs => simp
theorem at_nat {α : Type} {xs : List α} {n : Nat} : at? xs (n : Int) = xs[n]? := by
  unfold at? ixN
  by_cases h : n < xs.length
  · simp [h]
  · simp [h]
theorem at_lit {α : Type} {xs : List α} (n : Nat) (i : Int) (h : i = (n : Int)) : at? xs i = xs[n]? := by subst h; exact at_nat
end
end PF
end
section
set_option linter.all false
set_option autoImplicit false
set_option maxRecDepth 100003
namespace PF
/-- there is one, and so on with it -/
def on {α : Type} (o : Option α) (k : α → Prop) : Prop := ∃ a, o = some a ∧ k a
theorem on_some {α : Type} {a : α} {k : α → Prop} : on (some a) k = k a := propext ⟨fun ⟨b, e, h⟩ => by cases e; exact h, fun h => ⟨a, rfl, h⟩⟩
theorem on_none {α : Type} {k : α → Prop} : on (none : Option α) k = False := propext ⟨fun ⟨b, e, h⟩ => (nomatch e), fun h => h.elim⟩
theorem ex_bl {c : Bool} {k : Bool → Prop} : (∃ d, D.bl c = .bl d ∧ k d) = k c := propext ⟨fun ⟨d, e, h⟩ => by cases e; exact h, fun h => ⟨c, rfl, h⟩⟩
theorem ex_int {c : Int} {k : Int → Prop} : (∃ d, D.int c = .int d ∧ k d) = k c := propext ⟨fun ⟨d, e, h⟩ => by cases e; exact h, fun h => ⟨c, rfl, h⟩⟩
section
variable {S : Sto} {ρ : Env} {P : D → Sto → Prop}
theorem v_var {i : Nat} : wp (eVar i ρ S) P = on ρ[i]? fun o => on o fun d => P d S := by
  cases h : ρ[i]? with
  | none => unfold eVar; rw [h, on_none]; exact wp_bad
  | some o =>
    cases o with
    | none => unfold eVar; rw [h, on_some, on_none]; exact wp_bad
    | some d => rw [w_var h, on_some, on_some]
theorem v_asg {Z : Fl × Env → Sto → Prop} {g : G} {a : E} : wp (sAsg g a ρ S) Z = wp (a ρ S) fun x S => on (g x ρ) fun ρ1 => Z (.nx, ρ1) S := w_asg
theorem v_par {Z : Fl × Env → Sto → Prop} {is : List Nat} {a : A} : wp (sPar is a ρ S) Z = wp (a ρ S) fun xs S => on (setAll is xs ρ) fun ρ1 => Z (.nx, ρ1) S := w_par
theorem v_sub {Z : Fl × Env → Sto → Prop} {o i v : E} : wp (sSub o i v ρ S) Z = wp (v ρ S) fun x S => wp (o ρ S) fun a S => wp (i ρ S) fun k S => on (setItem a k x S) fun S1 => Z (.nx, ρ) S1 := w_sub
theorem v_dct {Z : Fl × Env → Sto → Prop} {o i v : E} : wp (sDct o i v ρ S) Z = wp (v ρ S) fun x S => wp (o ρ S) fun a S => wp (i ρ S) fun k S => on (setDct a k x S) fun S1 => Z (.nx, ρ) S1 := w_dct
theorem v_fld {Z : Fl × Env → Sto → Prop} {c f : Nat} {o v : E} : wp (sFld c f o v ρ S) Z = wp (v ρ S) fun x S => wp (o ρ S) fun a S => on (setFld c f a x S) fun S1 => Z (.nx, ρ) S1 := w_fld
theorem v_ixT {ds : List D} {i : Int} : wp (gIx (.tup ds) (.int i) S) P = on (at? ds i) fun d => P d S := by
  cases h : at? ds i with
  | none => unfold gIx; simp only [h, wp_bad, on_none]
  | some d => rw [w_ixT h, on_some]
theorem v_ixL {n : Nat} {i : Int} : wp (gIx (.ref n) (.int i) S) P = on (lstOf n S) fun ds => on (at? ds i) fun d => P d S := by
  cases h : lstOf n S with
  | none => unfold gIx; simp only [h, wp_bad, on_none]
  | some ds =>
    cases h2 : at? ds i with
    | none => unfold gIx; simp only [h, h2, wp_bad, on_none, on_some]
    | some d => rw [w_ixL h h2, on_some, h2, on_some]
theorem v_ixS {s : List Nat} {i : Int} (hl : s.length ≤ LIM) : wp (gIx (.str s) (.int i) S) P = on (at? s i) fun c => P (.str [c]) S := by
  cases h : at? s i with
  | none => unfold gIx; simp only [h, if_pos hl, wp_bad, on_none]
  | some d => rw [w_ixS hl h, on_some]
theorem v_dx {n : Nat} {k : D} (hk : keyOk k = true) : wp (gDx (.ref n) k S) P = on (dicOf n S) fun kvs => on (dget kvs k) fun d => P d S := by
  cases h : dicOf n S with
  | none => unfold gDx; simp only [h, wp_bad, on_none]
  | some kvs =>
    cases h2 : dget kvs k with
    | none => unfold gDx; simp only [h, h2, hk, if_true, wp_bad, on_none, on_some]
    | some d => rw [w_dx h hk h2, on_some, h2, on_some]
theorem v_eq {x y : D} : wp (gEq x y S) P = on (eqF S x y) fun b => P (.bl b) S := by
  cases h : eqF S x y with
  | none => unfold gEq; simp only [h, wp_bad, on_none]
  | some b => rw [w_eq h, on_some]
theorem v_ne {x y : D} : wp (gNe x y S) P = on (eqF S x y) fun b => P (.bl (!b)) S := by
  cases h : eqF S x y with
  | none => unfold gNe; simp only [h, wp_bad, on_none]
  | some b => rw [w_ne h, on_some]
theorem v_is {k : Kind} {x : D} : wp (gIs k x S) P = on (isK k x S) fun b => P (.bl b) S := by
  cases h : isK k x S with
  | none => unfold gIs; simp only [h, wp_bad, on_none]
  | some b => rw [w_is h, on_some]
theorem v_in {x y : D} : wp (gIn x y S) P = on (inB x y S) fun b => P (.bl b) S := by
  cases h : inB x y S with
  | none => unfold gIn; simp only [h, wp_bad, on_none]
  | some b => rw [w_in h, on_some]
theorem v_notIn {x y : D} : wp (gNotIn x y S) P = on (inB x y S) fun b => P (.bl (!b)) S := by
  cases h : inB x y S with
  | none => unfold gNotIn; simp only [h, wp_bad, on_none]
  | some b => rw [w_notIn h, on_some]
theorem v_gfld {c f n : Nat} : wp (gFld c f (.ref n) S) P = on (insOf c n S) fun fs => on (fget fs f) fun d => P d S := by
  cases h : insOf c n S with
  | none => unfold gFld; simp only [h, wp_bad, on_none]
  | some fs =>
    cases h2 : fget fs f with
    | none => unfold gFld; simp only [h, h2, wp_bad, on_none, on_some]
    | some d => rw [w_gfld h h2, on_some, h2, on_some]
theorem v_lenL {n : Nat} : wp (fLen [.ref n] S) P = on (lstOf n S) fun ds => P (.int ds.length) S := by
  cases h : lstOf n S with
  | none => unfold fLen; simp only [h, wp_bad, on_none]
  | some ds => rw [w_lenL h, on_some]
theorem v_lenS {s : List Nat} : wp (fLen [.str s] S) P = (s.length ≤ LIM ∧ P (.int s.length) S) := by
  unfold fLen
  by_cases h : s.length ≤ LIM
  · simp [h, wp_ok]
  · simp [h, wp_bad]
theorem v_listOf {d : D} : wp (fList [d] S) P = on (seqOf d S) fun ds => P (.ref S.length) (S ++ [.lst ds]) := by
  cases h : seqOf d S with
  | none => unfold fList; simp only [h, wp_bad, on_none]
  | some ds => rw [w_listOf h, on_some]
theorem v_tupOf {d : D} : wp (fTuple [d] S) P = on (seqOf d S) fun ds => P (.tup ds) S := by
  cases h : seqOf d S with
  | none => unfold fTuple; simp only [h, wp_bad, on_none]
  | some ds => rw [w_tupOf h, on_some]
theorem v_iseq {P : Iter → Sto → Prop} {a : E} : wp (iSeq a ρ S) P = wp (a ρ S) fun x S => on (seqOf x S) fun ds => P ⟨chkOf x S, ds⟩ S := w_iseq
theorem v_range1 {P : Iter → Sto → Prop} {a : E} : wp (iRange1 a ρ S) P = wp (a ρ S) fun x S => ∃ j, x = .int j ∧ (-(2 ^ 62) ≤ j ∧ j < 2 ^ 62) ∧ P ⟨[], rangeD 0 j⟩ S := w_range1
theorem v_enum {P : Iter → Sto → Prop} {a : E} : wp (iEnum a ρ S) P = wp (a ρ S) fun x S => on (seqZ x S) fun ds => P ⟨chkOf x S, enumD 0 ds⟩ S := w_enum
theorem v_m1 {g : D → D → M D} {o a : E} : wp (eM1 g o a ρ S) P = wp (o ρ S) fun x S => isL x S = true ∧ wp (a ρ S) fun y S => wp (g x y S) P := by
  unfold eM1
  rw [wp_bind]
  congr
  funext x S
  by_cases h : isL x S = true
  · simp [h, wp_bind]
  · simp [h, wp_bad]
theorem v_append {n : Nat} {v : D} : wp (mAppend (.ref n) v S) P = on (wrOf n S) fun ds => ds.length < LIM ∧ P .non (S.set n (.lst (ds ++ [v]))) := by
  unfold mAppend
  cases h : wrOf n S with
  | none => simp only [h, on_none, wp_bad]
  | some ds =>
    by_cases c : ds.length < LIM
    · simp only [h, on_some, c, if_true, true_and, wp_ok]
    · simp only [h, on_some, c, if_false, false_and, wp_bad]
theorem v_pop0 {n : Nat} : wp (mPop (.ref n) (.int 0) S) P = on (wrOf n S) fun ds => on ds[0]? fun d => P d (S.set n (.lst (ds.eraseIdx 0))) := by
  unfold mPop
  cases h : wrOf n S with
  | none => simp only [h, on_none, wp_bad]
  | some ds =>
    have c : (0 : Int) ≤ 0 ∧ (0 : Int) < 2 ^ 62 := by decide
    have z : (Int.toNat 0) = 0 := rfl
    cases h2 : ds[0]? with
    | none => simp only [h, on_some, on_none, c, z, h2, wp_bad, if_true, and_self]
    | some d => simp only [h, on_some, c, z, h2, wp_ok, if_true, and_self]
theorem v_meth {c : Nat} {f : Fn} {o : E} {a : A} : wp (eMeth c f o a ρ S) P = wp (o ρ S) fun x S => ∃ n, x = .ref n ∧ on (insOf c n S) fun _ => wp (a ρ S) fun xs S => wp (f (.ref n :: xs) S) P := by
  unfold eMeth
  rw [wp_bind]
  congr
  funext x S
  cases x with
  | ref n =>
    refine propext ⟨fun h => ⟨n, rfl, ?_⟩, fun ⟨m, e, h⟩ => ?_⟩
    · cases e : insOf c n S with
      | none => simp [e, wp_bad] at h
      | some fs => simp only [e, wp_bind] at h; rw [on_some]; exact h
    · cases e
      cases e : insOf c n S with
      | none => rw [e, on_none] at h; exact h.elim
      | some fs => rw [e, on_some] at h; simp only [e, wp_bind]; exact h
  | _ => simp [wp_bad]
theorem ex_ref {n : Nat} {k : Nat → Prop} : (∃ m, D.ref n = .ref m ∧ k m) = k n := propext ⟨fun ⟨d, e, h⟩ => by cases e; exact h, fun h => ⟨n, rfl, h⟩⟩
theorem v_make {c : Nat} {f : Fn} {a : A} : wp (eMake c f a ρ S) P = wp (a ρ S) fun xs S => wp (f (.ref S.length :: xs) (S ++ [.ins c []])) fun r S1 => r = .non ∧ P (.ref S.length) S1 := by
  unfold eMake
  simp only [wp_bind]
  congr
  funext xs S
  congr
  funext r S1
  by_cases h : r = .non
  · simp [h, wp_ok]
  · simp [h, wp_bad]
theorem v_setItem {n : Nat} {k : Int} {x : D} {K : Sto → Prop} : on (setItem (.ref n) (.int k) x S) K = on (wrOf n S) fun ds => on (ixN ds.length k) fun j => K (S.set n (.lst (ds.set j x))) := by
  unfold setItem
  cases h : wrOf n S with
  | none => simp only [h, on_none]
  | some ds =>
    cases h2 : ixN ds.length k with
    | none => simp only [h, on_none, on_some, h2]
    | some j => simp only [h, on_some, h2]
theorem v_setFld {c f n : Nat} {x : D} {K : Sto → Prop} : on (setFld c f (.ref n) x S) K = on (insOf c n S) fun fs => fs.length < 100 ∧ K (S.set n (.ins c (fput fs f x))) := by
  unfold setFld
  cases h : insOf c n S with
  | none => simp only [h, on_none]
  | some fs =>
    by_cases c : fs.length < 100
    · simp only [h, on_some, c, if_true, true_and]
    · simp only [h, on_some, on_none, c, if_false, false_and]
theorem v_kget {t : List (D × D)} {k : List Nat} {v : D} : wp (kGet t (.str k) v S) P = P ((dget t (.str k)).getD v) S := wp_ok
theorem v_upd {o a : E} : wp (eUpd o a ρ S) P = wp (o ρ S) fun x S => ∃ n, x = .ref n ∧ on (dicOf n S) fun _ => wp (a ρ S) fun y S => wp (mUpdate (.ref n) y S) P := by
  unfold eUpd
  rw [wp_bind]
  congr
  funext x S
  cases x with
  | ref n =>
    refine propext ⟨fun h => ⟨n, rfl, ?_⟩, fun ⟨m, e, h⟩ => ?_⟩
    · cases e : dicOf n S with
      | none => simp [e, wp_bad] at h
      | some fs => simp only [e, wp_bind] at h; rw [on_some]; exact h
    · cases e
      cases e : dicOf n S with
      | none => rw [e, on_none] at h; exact h.elim
      | some fs => rw [e, on_some] at h; simp only [e, wp_bind]; exact h
  | _ => simp [wp_bad]
theorem ixN_lit {m : Nat} (n : Nat) (i : Int) (h : i = (n : Int)) (hn : n < m) : ixN m i = some n := by
  subst h
  unfold ixN
  simp [hn]
end
section
variable {S U : Sto} {n i : Nat} {o u : MO} {ds : List D}
theorem lstOf_app (h : S[n]? = some (.lst ds)) : lstOf n (S ++ U) = some ds := lstOf_lst (get_app h)
theorem lstOf_len {xs : List MO} : lstOf S.length (S ++ xs) = lstOf 0 xs := by
  unfold lstOf
  rw [List.getElem?_append_right (Nat.le_refl _), Nat.sub_self]
theorem lstOf_0 {xs : List MO} : lstOf 0 (.lst ds :: xs) = some ds := rfl
theorem isL_lst (h : S[n]? = some (.lst ds)) : isL (.ref n) S = true := by
  show (wrOf n S).isSome = true
  rw [wrOf_lst h]
  rfl
end
theorem w_mulR {S : Sto} {P : D → Sto → Prop} {i : Int} (j : Int) (h : -(2 ^ 64) < j ∧ j < 2 ^ 64) : wp (gMul (.int i) (.int j) S) P = P (.int (i * j)) S := w_mul (.inr h)
theorem eqF_int {S : Sto} {i j : Int} : eqF S (.int i) (.int j) = some (i == j) := rfl
theorem eqF_str {S : Sto} {i j : List Nat} : eqF S (.str i) (.str j) = some (i == j) := rfl
theorem eqF_bl {S : Sto} {i j : Bool} : eqF S (.bl i) (.bl j) = some (i == j) := rfl
theorem kd_tup_tup : (Kind.tup == Kind.tup) = true := rfl
theorem kd_tup_int : (Kind.tup == Kind.int) = false := rfl
theorem kd_tup_bool : (Kind.tup == Kind.bool) = false := rfl
theorem kd_tup_str : (Kind.tup == Kind.str) = false := rfl
theorem kd_tup_lst : (Kind.tup == Kind.lst) = false := rfl
theorem kd_int_tup : (Kind.int == Kind.tup) = false := rfl
theorem kd_int_int : (Kind.int == Kind.int) = true := rfl
theorem kd_int_bool : (Kind.int == Kind.bool) = false := rfl
theorem kd_int_str : (Kind.int == Kind.str) = false := rfl
theorem kd_int_lst : (Kind.int == Kind.lst) = false := rfl
theorem kd_bool_tup : (Kind.bool == Kind.tup) = false := rfl
theorem kd_bool_int : (Kind.bool == Kind.int) = false := rfl
theorem kd_bool_bool : (Kind.bool == Kind.bool) = true := rfl
theorem kd_bool_str : (Kind.bool == Kind.str) = false := rfl
theorem kd_bool_lst : (Kind.bool == Kind.lst) = false := rfl
theorem kd_str_tup : (Kind.str == Kind.tup) = false := rfl
theorem kd_str_int : (Kind.str == Kind.int) = false := rfl
theorem kd_str_bool : (Kind.str == Kind.bool) = false := rfl
theorem kd_str_str : (Kind.str == Kind.str) = true := rfl
theorem kd_str_lst : (Kind.str == Kind.lst) = false := rfl
theorem kd_lst_tup : (Kind.lst == Kind.tup) = false := rfl
theorem kd_lst_int : (Kind.lst == Kind.int) = false := rfl
theorem kd_lst_bool : (Kind.lst == Kind.bool) = false := rfl
theorem kd_lst_str : (Kind.lst == Kind.str) = false := rfl
theorem kd_lst_lst : (Kind.lst == Kind.lst) = true := rfl
theorem isK_non {k : Kind} {S : Sto} : isK k .non S = some false := rfl
theorem isK_bl {k : Kind} {b : Bool} {S : Sto} : isK k (.bl b) S = some (k == .bool || k == .int) := rfl
theorem isK_int {k : Kind} {b : Int} {S : Sto} : isK k (.int b) S = some (k == .int) := rfl
theorem isK_str {k : Kind} {b : List Nat} {S : Sto} : isK k (.str b) S = some (k == .str) := rfl
theorem isK_tup {k : Kind} {b : List D} {S : Sto} : isK k (.tup b) S = some (k == .tup) := rfl
/-- what changes is not among the old ones -/
theorem Keep.past {S S' S2 : Sto} {V W : List Nat} (a : Keep V S S') (b : Keep W S' S2) (h : ∀ i ∈ W, S.length ≤ i) : Keep V S S2 :=
  ⟨Nat.le_trans a.len b.len, fun i l n => (b.get i (Nat.lt_of_lt_of_le l a.len) fun m => Nat.not_lt_of_le (h i m) l).trans (a.get i l n)⟩
end PF
end
local macro_rules | `(tactic| simp_arith [$ls,*]) => `(tactic| try simp only [PF.wp_ok, PF.wp_ite, PF.v_var, PF.w_c, PF.w_e1, PF.w_e2, PF.w_nil, PF.w_cons, PF.w_tup, PF.w_lst, PF.w_call, PF.w_if, PF.w_te, PF.w_and, PF.w_or, PF.w_not, PF.w_tand, PF.w_tor, PF.w_tnot, PF.w_tyes, PF.w_chain, PF.w_next, PF.w_seq, PF.w_set, PF.v_asg, PF.v_par, PF.w_expr, PF.w_ret, PF.w_sif, PF.w_break, PF.w_cont, PF.v_sub, PF.v_dct, PF.v_fld, PF.w_fn, PF.w_comp, PF.w_for, PF.v_iseq, PF.v_range1, PF.v_enum, PF.v_m1, PF.v_append, PF.v_pop0, PF.v_meth, PF.v_make, PF.v_upd, PF.w_add, PF.w_sub2, PF.w_neg, PF.w_lt, PF.w_le, PF.w_gt, PF.w_ge, PF.v_ixT, PF.v_ixL, PF.v_lenL, PF.w_lenT, PF.w_intB, PF.w_min2, PF.w_max2, PF.v_listOf, PF.v_tupOf, PF.v_gfld, PF.v_setItem, PF.v_setFld, PF.v_kget, PF.w_isN, PF.w_notN, PF.v_is, PF.v_eq, PF.v_ne, PF.eqF_int, PF.eqF_str, PF.eqF_bl, PF.ex_bl, PF.ex_int, PF.ex_ref, PF.on_some, PF.on_none, List.getElem?_cons_zero, List.getElem?_cons_succ, List.set_cons_zero, List.set_cons_succ, List.map_cons, List.map_nil, List.length_cons, List.length_nil, Nat.reduceAdd, Nat.reduceSub, Nat.reduceLeDiff, Nat.reduceLT, Nat.zero_add, List.replicate_succ, List.replicate_zero, List.cons_append, List.nil_append, true_and, and_true, PF.setAll, PF.gName, PF.gTup, PF.wipe, PF.isK_non, PF.isK_bl, PF.isK_int, PF.isK_str, PF.isK_tup, Bool.or_false, Bool.or_true, Bool.false_or, Bool.true_or, Bool.and_false, Bool.and_true, Bool.false_and, Bool.true_and, Int.reduceBEq, Int.reduceLT, Int.reduceLE, Int.reduceAdd, Int.reduceSub, Int.reduceNeg, decide_true, decide_false, Int.cast_ofNat_Int, beq_self_eq_true, PF.kd_tup_tup, PF.kd_tup_int, PF.kd_tup_bool, PF.kd_tup_str, PF.kd_tup_lst, PF.kd_int_tup, PF.kd_int_int, PF.kd_int_bool, PF.kd_int_str, PF.kd_int_lst, PF.kd_bool_tup, PF.kd_bool_int, PF.kd_bool_bool, PF.kd_bool_str, PF.kd_bool_lst, PF.kd_str_tup, PF.kd_str_int, PF.kd_str_bool, PF.kd_str_str, PF.kd_str_lst, PF.kd_lst_tup, PF.kd_lst_int, PF.kd_lst_bool, PF.kd_lst_str, PF.kd_lst_lst, PF.seqOf, if_true, Bool.false_eq_true, if_false, Bool.not_true, Bool.not_false, $ls,*])
section
set_option linter.all false
set_option autoImplicit false
set_option maxRecDepth 100003
namespace PG
open PF
theorem tree_int {S : Sto} {n : Nat} {i : Int} : tree S n (.int i) = some (.int i) := by cases n <;> simp only [tree]
theorem tree_ints {S : Sto} {n : Nat} : ∀ L : List Int, allSome (tree S n) (L.map D.int) = some (L.map J.int)
  | [] => rfl
  | i :: L => by simp only [List.map_cons, allSome, tree_int, tree_ints L]
theorem tree_lst {S : Sto} {n k : Nat} {L : List Int} (h : lstOf k S = some (L.map .int)) : tree S (n + 1) (.ref k) = some (.lst (L.map J.int)) := by
  simp only [tree, h, tree_ints]
theorem eqvs_ints : ∀ L M : List Int, J.eqvs (L.map J.int) (M.map J.int) = (L == M)
  | [], [] => rfl
  | [], _ :: _ => rfl
  | _ :: _, [] => rfl
  | i :: L, j :: M => by
    show (J.eqv (.int i) (.int j) && J.eqvs (L.map J.int) (M.map J.int)) = _
    rw [eqvs_ints L M]
    rfl
theorem eq_ints {S : Sto} {a b : Nat} {L M : List Int} (ha : lstOf a S = some (L.map .int)) (hb : lstOf b S = some (M.map .int)) : eqF S (.ref a) (.ref b) = some (L == M) := by
  show eqT S (.ref a) (.ref b) = _
  unfold eqT
  rw [show EQD = 39 + 1 from rfl, tree_lst ha, tree_lst hb]
  show some (J.eqvs _ _) = _
  rw [eqvs_ints]
/-- the box at b: its list at q, its number -/
def Box (b q : Nat) (S : Sto) : Prop := b ≠ q ∧ ∃ (L : List Int) (st : Int), S[b]? = some (.lst [.ref q, .int st]) ∧ S[q]? = some (.lst (L.map .int)) ∧ L.length ≤ 63
theorem Box.keep {b q : Nat} {S S' : Sto} {W : List Nat} (h : Box b q S) (k : Keep W S S') (hb : b ∉ W) (hq : q ∉ W) : Box b q S' := by
  obtain ⟨n, L, st, h1, h2, h3⟩ := h
  exact ⟨n, L, st, k.at h1 hb, k.at h2 hq, h3⟩
theorem Box.lt {b q : Nat} {S : Sto} (h : Box b q S) : b < S.length ∧ q < S.length := by
  obtain ⟨n, L, st, h1, h2, h3⟩ := h
  exact ⟨lt_of_get h1, lt_of_get h2⟩
theorem take_spec {b q : Nat} {S : Sto} {m : Int} (hB : Box b q S) (h0 : 0 < m) (h1 : m < 1073741824) :
    wp (f__law_take [.ref b, .int m] S) fun d S' => ∃ r : Int, d = .int r ∧ 0 ≤ r ∧ r < m ∧ Box b q S' ∧ Keep [b, q] S S' := by
  obtain ⟨ne, L, st, hb, hq, hL⟩ := hB
  have hq1 : lstOf q (S ++ [.lst []]) = some (L.map .int) := lstOf_app hq
  have hz : lstOf S.length (S ++ [.lst []]) = some (([] : List Int).map .int) := by rw [lstOf_len]; rfl
  have e1 : eqF (S ++ [.lst []]) (.ref q) (.ref S.length) = some (L == []) := eq_ints hq1 hz
  have hb0 : (S ++ [.lst []])[b]? = some (.lst [.ref q, .int st]) := get_app hb
  have hq0 : (S ++ [.lst []])[q]? = some (.lst (L.map .int)) := get_app hq
  have k0 : Keep [b, q] S (S ++ [.lst []]) := .app
  have lb := lt_of_get hb0
  have lq := lt_of_get hq0
  unfold f__law_take b__law_take
  simp_arith [lstOf_lst hb, at0, e1]
  generalize S ++ [.lst []] = S0 at *
  cases L with
  | nil =>
    have hm : ∀ x : Int, 0 ≤ x % m ∧ x % m < m := fun x => ⟨Int.emod_nonneg _ (by omega), Int.emod_lt_of_pos _ h0⟩
    simp_arith [show (([] : List Int) == []) = true from rfl, lstOf_lst hb0, at_lit 1 1 rfl, w_mulR 48271 (by decide), w_mod (show (0 : Int) < 2147483647 by decide), wrOf_lst hb0, ixN_lit 1 1 rfl (show 1 < 2 by decide), lstOf_lst (get_set lb), w_fdiv (show (0 : Int) < 7 ∧ (7 : Int) < 1073741824 by decide), w_mod h0]
    exact ⟨(hm _).1, (hm _).2, ⟨ne, [], _, get_set lb, get_ne hq0 ne, by decide⟩, k0.trans (.set (by simp))⟩
  | cons i L =>
    have hm : ∀ x : Int, 0 ≤ x % m ∧ x % m < m := fun x => ⟨Int.emod_nonneg _ (by omega), Int.emod_lt_of_pos _ h0⟩
    have hq1 : (S0.set q (.lst ((i / m :: L).map .int)))[q]? = some (.lst ((i / m :: L).map .int)) := get_set lq
    have hb1 : (S0.set q (.lst ((i / m :: L).map .int)))[b]? = some (.lst [.ref q, .int st]) := get_ne hb0 (Ne.symm ne)
    have hq1 : (S0.set q (.lst ((i / m :: L).map .int)))[q]? = some (.lst ((i / m :: L).map .int)) := get_set lq
    have hb1 : (S0.set q (.lst ((i / m :: L).map .int)))[b]? = some (.lst [.ref q, .int st]) := get_ne hb0 (Ne.symm ne)
    simp_arith [show ((i :: L : List Int) == []) = false from rfl, lstOf_lst hb0, lstOf_lst hq0, at0, w_fdiv ⟨h0, h1⟩, wrOf_lst hq0, ixN_lit 0 0 rfl (show 0 < L.length + 1 by omega), List.length_map]
    have k1 : Keep [b, q] S (S0.set q (.lst ((i / m :: L).map .int))) := k0.trans (.set (by simp))
    rw [List.map_cons] at hq1 hb1 k1
    have lq1 := lt_of_get hq1
    generalize S0.set q (.lst (D.int (i / m) :: L.map .int)) = S1 at *
    rw [List.length_cons] at hL
    simp_arith [lstOf_lst hb1, lstOf_lst hq1, wrOf_lst hq1, at0, isL_lst hq1, w_mod h0, List.eraseIdx_cons_zero]
    have fin : ∀ S2, Box b q S2 → Keep [b, q] S S2 → 0 ≤ i % m ∧ i % m < m ∧ Box b q S2 ∧ Keep [b, q] S S2 := fun S2 h k => ⟨(hm _).1, (hm _).2, h, k⟩
    have f1 := fin S1 ⟨ne, i / m :: L, st, hb1, hq1, by rw [List.length_cons]; omega⟩ k1
    have f2 := fin (S1.set q (.lst (L.map .int))) ⟨ne, L, st, get_ne hb1 (Ne.symm ne), get_set lq1, by omega⟩ (k1.trans (.set (by simp)))
    split
    · exact f2
    · split
      · exact f2
      · exact f1
end PG
end
section
set_option linter.all false
set_option autoImplicit false
set_option maxRecDepth 100003
namespace PG
open PF
inductive Op3 where
  | add | take | less
def Op3.s : Op3 → List Nat
  | .add => z_add
  | .take => z_take
  | .less => z_less
inductive Row where
  | put (d k : Int) | copy (d a : Int) | op (o : Op3) (d a b : Int) | call (d a : Int) | say (a : Int) | ife (a r : Int) | go (r : Int) | fin
def Row.D : Row → D
  | .put d k => .tup [.str z_put, .int d, .int k]
  | .copy d a => .tup [.str z_copy, .int d, .int a]
  | .op o d a b => .tup [.str o.s, .int d, .int a, .int b]
  | .call d a => .tup [.str z_call, .int d, .int a]
  | .say a => .tup [.str z_say, .int a]
  | .ife a r => .tup [.str z_if, .int a, .int r]
  | .go r => .tup [.str z_go, .int r]
  | .fin => .tup [.str z_end]
def In0 (x n : Int) : Prop := 0 ≤ x ∧ x < n
def Row.ok (names many : Int) : Row → Prop
  | .put d k => In0 d names ∧ In0 k 1000
  | .copy d a => In0 d names ∧ In0 a names
  | .op _ d a b => In0 d names ∧ In0 a names ∧ In0 b names
  | .call d a => In0 d names ∧ In0 a names
  | .say a => In0 a names
  | .ife a r => In0 a names ∧ In0 r many
  | .go r => In0 r many
  | .fin => True
theorem take_in {b q : Nat} {S : Sto} {m : Int} {P : D → Sto → Prop} (hB : Box b q S) (h : 0 < m ∧ m < 1073741824) (k : ∀ r S', In0 r m → Box b q S' → Keep [b, q] S S' → P (.int r) S') : wp (f__law_take [.ref b, .int m] S) P :=
  wp_mono (take_spec hB h.1 h.2) fun d S' ⟨r, e, r0, r1, hB', kk⟩ => e ▸ k r S' ⟨r0, r1⟩ hB' kk
theorem notBQ {b q n : Nat} {S : Sto} (hB : Box b q S) (h : S.length ≤ n) : n ∉ [b, q] := by
  have := hB.lt
  simp
  omega
/-- [x, y, ..] stands and a number is drawn, then [..][r] -/
theorem ix_new {b q : Nat} {S S' : Sto} {ds : List D} {r : Int} {P : D → Sto → Prop} (hB : Box b q S) (k : Keep [b, q] (S ++ [.lst ds]) S') (h : on (at? ds r) fun d => P d S') : wp (gIx (.ref S.length) (.int r) S') P := by
  have e : S'[S.length]? = some (.lst ds) := k.at get_last (notBQ hB (Nat.le_refl _))
  rw [v_ixL, lstOf_lst e, on_some]
  exact h
theorem Box.app {b q : Nat} {S U : Sto} (h : Box b q S) : Box b q (S ++ U) := h.keep (W := []) .app (by simp) (by simp)
theorem at2 {α : Type} {x y : α} {r : Int} {P : α → Prop} (h : In0 r 2) (hx : P x) (hy : P y) : on (at? [x, y] r) P := by
  obtain rfl | rfl : r = 0 ∨ r = 1 := by unfold In0 at h; omega
  · rw [at0]; exact ⟨_, rfl, hx⟩
  · rw [at_lit 1 1 rfl]; exact ⟨_, rfl, hy⟩
theorem at3 {α : Type} {x y z : α} {r : Int} {P : α → Prop} (h : In0 r 3) (hx : r = 0 → P x) (hy : r = 1 → P y) (hz : r = 2 → P z) : on (at? [x, y, z] r) P := by
  obtain rfl | rfl | rfl : r = 0 ∨ r = 1 ∨ r = 2 := by unfold In0 at h; omega
  · rw [at0]; exact ⟨_, rfl, hx rfl⟩
  · rw [at_lit 1 1 rfl]; exact ⟨_, rfl, hy rfl⟩
  · rw [at_lit 2 2 rfl]; exact ⟨_, rfl, hz rfl⟩
theorem row_spec {b q : Nat} {S : Sto} {names many at_ : Int} (hB : Box b q S) (hn : 0 < names ∧ names < 1000) (hm : 0 < many ∧ many < 1000) (ha : In0 at_ many) :
    wp (f__law_row [.ref b, .int names, .int many, .int at_] S) fun d S' => ∃ row : Row, d = row.D ∧ row.ok names many ∧ Box b q S' ∧ Keep [b, q] S S' := by
  have hn' : 0 < names ∧ names < 1073741824 := ⟨hn.1, by omega⟩
  have hm' : 0 < many ∧ many < 1073741824 := ⟨hm.1, by omega⟩
  unfold f__law_row b__law_row
  simp_arith []
  refine take_in hB (by decide) fun way S1 i1 B1 k1 => ?_
  simp_arith []
  refine take_in B1 hn' fun nm S2 i2 B2 k2 => ?_
  refine take_in B2 hn' fun one S3 i3 B3 k3 => ?_
  refine take_in B3 hn' fun other S4 i4 B4 k4 => ?_
  have K4 := ((k1.trans k2).trans k3).trans k4
  simp_arith []
  split
  · -- put
    refine take_in B4 (by decide) fun x S5 i5 B5 k5 => take_in B5 (by decide) fun y S6 i6 B6 k6 => ?_
    refine take_in B6.app (by decide) fun z S7 i7 B7 k7 => ?_
    refine ix_new B6 k7 (at2 i7 ?_ ?_)
    · exact ⟨.put nm x, rfl, ⟨i2, i5⟩, B7, (((K4.trans k5).trans k6).trans .app).trans k7⟩
    · exact ⟨.put nm y, rfl, ⟨i2, i6.1, by have := i6.2; omega⟩, B7, (((K4.trans k5).trans k6).trans .app).trans k7⟩
  · simp_arith []
    split
    · exact ⟨.copy nm one, rfl, ⟨i2, i3⟩, B4, K4⟩
    · simp_arith []
      split
      · rename_i c1 c2 c3
        have c1 : ¬ way < 2 := by simpa using c1
        have c2 : ¬ way < 4 := by simpa using c2
        have c3 : way < 7 := by simpa using c3
        simp_arith [lstOf_len, lstOf_0]
        refine at3 ⟨by omega, by omega⟩ (fun _ => ?_) (fun _ => ?_) (fun _ => ?_)
        · exact ⟨.op .add nm one other, rfl, ⟨i2, i3, i4⟩, B4.app, K4.trans .app⟩
        · exact ⟨.op .take nm one other, rfl, ⟨i2, i3, i4⟩, B4.app, K4.trans .app⟩
        · exact ⟨.op .less nm one other, rfl, ⟨i2, i3, i4⟩, B4.app, K4.trans .app⟩
      · simp_arith []
        split
        · exact ⟨.call nm one, rfl, ⟨i2, i3⟩, B4, K4⟩
        · simp_arith []
          split
          · exact ⟨.say one, rfl, i3, B4, K4⟩
          · simp_arith []
            refine take_in B4 hm' fun goal S5 i5 B5 k5 => ?_
            have mn : ∀ x : Int, 0 ≤ x → In0 (if at_ + 1 + x < many - 1 then at_ + 1 + x else many - 1) many := fun x hx => by
              have := ha.1
              unfold In0
              split <;> omega
            simp_arith [w_mod (show (0 : Int) < 4 by decide), w_mod (show (0 : Int) < 3 by decide)]
            split
            · refine take_in B5.app (by decide) fun z S7 i7 B7 k7 => ?_
              refine ix_new B5 k7 (at2 i7 ?_ ?_)
              · exact ⟨.ife one goal, rfl, ⟨i3, i5⟩, B7, ((K4.trans k5).trans .app).trans k7⟩
              · exact ⟨.ife one _, rfl, ⟨i3, mn _ (Int.emod_nonneg _ (by decide))⟩, B7, ((K4.trans k5).trans .app).trans k7⟩
            · simp_arith [w_mod (show (0 : Int) < 4 by decide), w_mod (show (0 : Int) < 3 by decide)]
              refine take_in B5.app (by decide) fun z S7 i7 B7 k7 => ?_
              have KK := ((K4.trans k5).trans .app).trans k7
              refine ix_new B5 k7 (at3 i7 (fun _ => ?_) (fun _ => ?_) (fun _ => ?_))
              · exact ⟨.go _, rfl, mn _ (Int.emod_nonneg _ (by decide)), B7, KK⟩
              · exact ⟨.go goal, rfl, i5, B7, KK⟩
              · exact ⟨.fin, rfl, trivial, B7, KK⟩
end PG
end
section
set_option linter.all false
set_option autoImplicit false
set_option maxRecDepth 100003
namespace PG
open PF
theorem rangeD_len (lo hi : Int) : (rangeD lo hi).length = (hi - lo).toNat := by unfold rangeD; simp
theorem rangeD_get {lo hi : Int} {k : Nat} {x : D} (h : (rangeD lo hi)[k]? = some x) : x = .int (lo + (k : Int)) ∧ (k : Int) < hi - lo := by
  unfold rangeD at h
  rw [List.getElem?_map] at h
  cases e : (List.range (hi - lo).toNat)[k]? with
  | none => rw [e] at h; cases h
  | some m =>
    rw [e] at h
    obtain ⟨l, e2⟩ := List.getElem?_eq_some_iff.mp e
    rw [List.getElem_range] at e2
    subst e2
    rw [List.length_range] at l
    exact ⟨(Option.some.inj h).symm, by omega⟩
theorem same_nil {ds : List D} {S : Sto} : (Iter.mk [] ds).same S = true := rfl
def progD (params names : Int) (rows : List Row) : D := .tup [.int params, .int names, .tup (rows.map Row.D)]
structure ProgOk (params names : Int) (rows : List Row) : Prop where
  pr : 0 ≤ params ∧ params ≤ names
  nm : 1 ≤ names ∧ names ≤ 8
  ln : 1 ≤ rows.length ∧ rows.length ≤ 24
  ok : ∀ r ∈ rows, r.ok names rows.length
theorem program_spec {b q : Nat} {S : Sto} {most : Int} (hB : Box b q S) (h0 : 1 ≤ most ∧ most ≤ 24) :
    wp (f__law_program [.ref b, .int most] S) fun d S' => ∃ params names rows, d = progD params names rows ∧ ProgOk params names rows ∧ (rows.length : Int) ≤ most ∧ Box b q S' ∧ Keep [b, q] S S' := by
  unfold f__law_program b__law_program
  simp_arith []
  refine take_in hB.app (by decide) fun r1 S1 i1 B1 k1 => ?_
  have K1 : Keep [b, q] S S1 := Keep.trans .app k1
  refine ix_new hB k1 ?_
  have h3 : ∀ (P : Int → Prop), P 3 → P 4 → P 8 → on (at? [D.int 3, D.int 4, D.int 8] r1) (fun d => ∃ m, d = .int m ∧ P m) := fun P p3 p4 p8 => at3 i1 (fun _ => ⟨_, rfl, p3⟩) (fun _ => ⟨_, rfl, p4⟩) (fun _ => ⟨_, rfl, p8⟩)
  obtain ⟨_, e3, m3, rfl, hm3⟩ := h3 (fun m => 1 ≤ m ∧ m ≤ 8) (by decide) (by decide) (by decide)
  rw [e3, on_some]
  refine take_in B1 ⟨by omega, by omega⟩ fun n0 S2 i2 B2 k2 => ?_
  have K2 := K1.trans k2
  have hn : 1 ≤ 1 + n0 ∧ 1 + n0 ≤ 8 := by unfold In0 at i2; omega
  simp_arith []
  generalize 1 + n0 = names at *
  refine take_in B2 ⟨by omega, by omega⟩ fun p0 S3 i3 B3 k3 => ?_
  refine take_in B3.app (by decide) fun r2 S4 i4 B4 k4 => ?_
  have K4 := ((K2.trans k3).trans .app).trans k4
  refine ix_new B3 k4 ?_
  have h5 : ∃ params, on (at? [D.int names, D.int p0] r2) (fun d => d = .int params) ∧ 0 ≤ params ∧ params ≤ names := by
    unfold In0 at i3
    obtain rfl | rfl : r2 = 0 ∨ r2 = 1 := by unfold In0 at i4; omega
    · exact ⟨names, by rw [at0]; exact ⟨_, rfl, rfl⟩, by omega, by omega⟩
    · exact ⟨p0, by rw [at_lit 1 1 rfl]; exact ⟨_, rfl, rfl⟩, by omega, by omega⟩
  obtain ⟨params, ⟨_, e5, rfl⟩, hp⟩ := h5
  rw [e5, on_some]
  refine take_in B4.app (by decide) fun r3 S5 i5 B5 k5 => ?_
  have K5 := (K4.trans .app).trans k5
  refine ix_new B4 k5 ?_
  have h6 : ∃ mm : Int, on (at? [D.int most, D.int (if 6 < most then 6 else most)] r3) (fun d => d = .int mm) ∧ 1 ≤ mm ∧ mm ≤ most := by
    obtain rfl | rfl : r3 = 0 ∨ r3 = 1 := by unfold In0 at i5; omega
    · exact ⟨most, by rw [at0]; exact ⟨_, rfl, rfl⟩, by omega, by omega⟩
    · exact ⟨if 6 < most then 6 else most, by rw [at_lit 1 1 rfl]; exact ⟨_, rfl, rfl⟩, by split <;> omega, by split <;> omega⟩
  obtain ⟨mm, ⟨_, e6, rfl⟩, hmm⟩ := h6
  rw [e6, on_some]
  refine take_in B5 ⟨by omega, by omega⟩ fun m0 S6 i6 B6 k6 => ?_
  have K6 := K5.trans k6
  have hm : 1 ≤ 1 + m0 ∧ 1 + m0 ≤ most := by unfold In0 at i6; omega
  simp_arith []
  generalize 1 + m0 = many at *
  refine ⟨by omega, ?_⟩
  have hl : (rangeD 0 many).length = many.toNat := by rw [rangeD_len]; omega
  refine wp_mono (wp_loop (it := ⟨[], rangeD 0 many⟩) (fun k acc S' => ∃ rows : List Row, acc = rows.map Row.D ∧ rows.length = k ∧ (∀ r ∈ rows, r.ok names many) ∧ Box b q S' ∧ Keep [b, q] S S') (fun _ _ _ _ => rfl) ?_ ⟨[], rfl, rfl, fun _ h => (nomatch h), B6, K6⟩) ?_
  · rintro k x acc S7 hx ⟨rows, rfl, hk, hr, B7, K7⟩
    obtain ⟨rfl, hlt⟩ := rangeD_get hx
    refine ⟨_, rfl, ?_⟩
    simp_arith []
    refine wp_mono (row_spec B7 (by omega) (by omega) ⟨by omega, by omega⟩) ?_
    rintro _ S8 ⟨row, rfl, ok, B8, k8⟩
    refine ⟨rows ++ [row], by simp, by simp [hk], fun r h => ?_, B8, K7.trans k8⟩
    rcases List.mem_append.mp h with z | z
    · exact hr r z
    · have : r = row := by simpa using z
      rw [this]
      exact ok
  · rintro ys S7 ⟨rows, rfl, hk, hr, B7, K7⟩
    have hk : rows.length = many.toNat := by rw [hk]; exact hl
    have hk2 : (rows.length : Int) = many := by omega
    refine ⟨by rw [List.length_map]; unfold LIM; omega, ?_⟩
    simp_arith [lstOf_len, lstOf_0]
    exact ⟨params, names, rows, rfl, ⟨hp, hn, by omega, fun r h => by rw [hk2]; exact hr r h⟩, by omega, B7.app, K7.trans .app⟩
end PG
end
section
set_option linter.all false
set_option autoImplicit false
set_option maxRecDepth 100003
namespace PF
section
variable {S : Sto} {ρ : Env} {P : D → Sto → Prop}
theorem w_dict {ps : List (E × E)} : wp (eDict ps ρ S) P = wp (evPairs ps ρ S) fun q S => P (.ref S.length) (S ++ [.dic (putAll [] q)]) := by
  unfold eDict alloc
  simp only [wp_bind, wp_ok]
theorem w_evnil {P : List (D × D) → Sto → Prop} : wp (evPairs [] ρ S) P = P [] S := wp_ok
theorem w_evcons {P : List (D × D) → Sto → Prop} {k v : E} {r : List (E × E)} : wp (evPairs ((k, v) :: r) ρ S) P = wp (k ρ S) fun x S => wp (v ρ S) fun y S => keyOk x = true ∧ wp (evPairs r ρ S) fun q S => P ((x, y) :: q) S := by
  simp only [evPairs, wp_bind]
  congr
  funext x S
  congr
  funext y S
  by_cases h : keyOk x = true
  · simp only [h, if_true, true_and, wp_bind, wp_ok]
  · simp only [h, if_false, false_and, wp_bad, Bool.false_eq_true]
theorem w_cnil {P : List D → Sto → Prop} {it : Iter} {g : G} {t : T} {e : E} : wp (compLoop it g t e ρ [] S) P = (it.same S = true ∧ P [] S) := by
  unfold compLoop
  by_cases h : it.same S = true
  · simp only [h, if_true, true_and, wp_ok]
  · simp only [h, if_false, false_and, wp_bad, Bool.false_eq_true]
theorem w_ccons {P : List D → Sto → Prop} {it : Iter} {g : G} {t : T} {e : E} {x : D} {xs : List D} : wp (compLoop it g t e ρ (x :: xs) S) P = (it.same S = true ∧ on (g x ρ) fun ρ1 => wp (t ρ1 S) fun b S => if b = true then wp (e ρ1 S) fun y S => wp (compLoop it g t e ρ xs S) fun ys S => P (y :: ys) S else wp (compLoop it g t e ρ xs S) P) := by
  rw [compLoop]
  by_cases h : it.same S = true
  · simp only [h, if_true, true_and]
    cases e1 : g x ρ with
    | none => simp only [wp_bad, on_none]
    | some ρ1 =>
      simp only [wp_bind, on_some]
      congr
      funext b S
      split
      · simp only [wp_bind, wp_ok]
      · rfl
  · simp only [h, if_false, false_and, wp_bad, Bool.false_eq_true]
theorem dicOf_len {xs : List MO} : dicOf S.length (S ++ xs) = dicOf 0 xs := by
  unfold dicOf
  rw [List.getElem?_append_right (Nat.le_refl _), Nat.sub_self]
theorem dicOf_0 {kvs : List (D × D)} {xs : List MO} : dicOf 0 (.dic kvs :: xs) = some kvs := rfl
end
end PF
namespace PG
open PF
theorem begun_spec {n : Nat} {S : Sto} {L : List Int} (h : lstOf n S = some (L.map .int)) (hL : L.length ≤ 63) :
    wp (f__law_begun [.ref n] S) fun d S' => ∃ b q, d = .ref b ∧ Box b q S' ∧ Keep [] S S' ∧ S.length ≤ b ∧ S.length ≤ q := by
  unfold f__law_begun b__law_begun
  simp_arith [h, chkOf]
  refine wp_for (it := ⟨[(n, L.map D.int)], L.map D.int⟩) (fun k ρ S' => S' = S ∧ ∃ st c, ρ = [some (.ref n), some (.int st), c]) ?_ ?_ ⟨rfl, 0, none, rfl⟩ ?_
  · rintro k ρ S' ⟨rfl, _⟩
    simp [Iter.same, h]
  · rintro k x ρ S' hx ⟨rfl, st, c, rfl⟩
    rw [List.getElem?_map] at hx
    cases e : L[k]? with
    | none => rw [e] at hx; cases hx
    | some i =>
      rw [e] at hx
      cases hx
      refine ⟨_, rfl, ?_⟩
      simp_arith [w_mulR 48271 (by decide), w_mulR 69621 (by decide), w_mod (show (0 : Int) < 2147483647 by decide)]
      exact ⟨_, _, rfl⟩
  · rintro ρ S' ⟨rfl, st, c, rfl⟩
    have hb : ∀ b : Bool, -(2 ^ 64) < b2i b ∧ b2i b < 2 ^ 64 := fun b => by cases b <;> decide
    simp_arith [h, w_mul (.inr (hb _))]
    have h2 : lstOf n (S' ++ [.lst (L.map .int)]) = some (L.map .int) := by
      unfold lstOf at h ⊢
      have hl : n < S'.length := by
        cases e : S'[n]? with
        | none => rw [e] at h; cases h
        | some o => exact lt_of_get e
      rw [List.getElem?_append_left hl]
      exact h
    simp_arith [h2, w_mul (.inr (hb _))]
    refine ⟨_, S'.length, rfl, ⟨?_, L, st * b2i (decide (2 < ((L.map D.int).length : Int))), ?_, get_app get_last, hL⟩, .trans .app .app, ?_, Nat.le_refl _⟩
    · rw [List.length_append]; simp
    · exact get_last
    · rw [List.length_append]; simp
/-- a number within -/
theorem num_eq {S : Sto} {P : D → Sto → Prop} {i lo hi : Int} (h1 : lo ≤ i) (h2 : i ≤ hi) : wp (f_is_number [.int i, .int lo, .int hi] S) P = P (.bl true) S := by
  unfold f_is_number b_is_number
  simp_arith [h1, h2]
theorem sh_put : dget t_SHAPES (.str z_put) = some (.str z_dn) := by decide +kernel
theorem sh_copy : dget t_SHAPES (.str z_copy) = some (.str z_da) := by decide +kernel
theorem sh_add : dget t_SHAPES (.str z_add) = some (.str z_daa) := by decide +kernel
theorem sh_take : dget t_SHAPES (.str z_take) = some (.str z_daa) := by decide +kernel
theorem sh_less : dget t_SHAPES (.str z_less) = some (.str z_daa) := by decide +kernel
theorem sh_call : dget t_SHAPES (.str z_call) = some (.str z_da) := by decide +kernel
theorem sh_say : dget t_SHAPES (.str z_say) = some (.str z_a) := by decide +kernel
theorem sh_if : dget t_SHAPES (.str z_if) = some (.str z_ar) := by decide +kernel
theorem sh_go : dget t_SHAPES (.str z_go) = some (.str z_r) := by decide +kernel
theorem sh_end : dget t_SHAPES (.str z_end) = some (.str z_empty) := by decide +kernel
theorem v_lenSs {S : Sto} {P : D → Sto → Prop} {s : List Nat} (h : s.length ≤ 1000) : wp (fLen [.str s] S) P = P (.int s.length) S := by
  rw [v_lenS]
  have : s.length ≤ LIM := by unfold LIM; omega
  simp only [this, true_and]
theorem most_d {d a r : Int} : dget (putAll [] [(.str z_d, .int d), (.str z_a, .int a), (.str z_n, .int 999), (.str z_r, .int r)]) (.str z_d) = some (.int d) := rfl
theorem most_a {d a r : Int} : dget (putAll [] [(.str z_d, .int d), (.str z_a, .int a), (.str z_n, .int 999), (.str z_r, .int r)]) (.str z_a) = some (.int a) := rfl
theorem most_n {d a r : Int} : dget (putAll [] [(.str z_d, .int d), (.str z_a, .int a), (.str z_n, .int 999), (.str z_r, .int r)]) (.str z_n) = some (.int 999) := rfl
theorem most_r {d a r : Int} : dget (putAll [] [(.str z_d, .int d), (.str z_a, .int a), (.str z_n, .int 999), (.str z_r, .int r)]) (.str z_r) = some (.int r) := rfl
theorem v_ixSs {S : Sto} {P : D → Sto → Prop} {s : List Nat} {i : Int} (h : s.length ≤ 1000) : wp (gIx (.str s) (.int i) S) P = on (at? s i) fun c => P (.str [c]) S := v_ixS (by unfold LIM; omega)
theorem at_1 {α : Type} {xs : List α} : at? xs 1 = xs[1]? := at_lit 1 1 rfl
theorem at_2 {α : Type} {xs : List α} : at? xs 2 = xs[2]? := at_lit 2 2 rfl
theorem at_3 {α : Type} {xs : List α} : at? xs 3 = xs[3]? := at_lit 3 3 rfl
theorem range0 : rangeD 0 0 = [] := rfl
theorem range1 : rangeD 0 1 = [.int 0] := rfl
theorem range2 : rangeD 0 2 = [.int 0, .int 1] := rfl
theorem range3 : rangeD 0 3 = [.int 0, .int 1, .int 2] := rfl
theorem eq_nils {S : Sto} : eqF ((S ++ [MO.lst []]) ++ [MO.lst []]) (.ref S.length) (.ref (S ++ [MO.lst []]).length) = some true :=
  eq_ints (L := []) (M := []) (lstOf_app get_last) (by rw [lstOf_len]; rfl)
theorem is_row_spec {S : Sto} {names many : Int} {row : Row} (h : row.ok names many) : wp (f_is_row [row.D, .int names, .int many] S) fun d S' => d = .bl true ∧ Keep [] S S' := by
  unfold f_is_row b_is_row
  have r62 : ∀ n : Nat, n ≤ 3 → -(2 ^ 62) ≤ (n : Int) ∧ (n : Int) < 2 ^ 62 := fun n h => by omega
  have fin : ∀ U : Sto, D.bl true = .bl true ∧ Keep [] S (((S ++ U) ++ [MO.lst []]) ++ [MO.lst []]) := fun U => ⟨rfl, .trans (.trans .app .app) .app⟩
  cases row with
  | put d k =>
    obtain ⟨⟨a1, a2⟩, b1, b2⟩ := h
    (simp_arith [Row.D, at0, sh_put, sh_copy, sh_call, sh_say, sh_if, sh_go, sh_end, Option.getD_some, reduceCtorEq, v_lenSs (show z_dn.length ≤ 1000 by decide), v_lenSs (show z_da.length ≤ 1000 by decide), v_lenSs (show z_a.length ≤ 1000 by decide), v_lenSs (show z_ar.length ≤ 1000 by decide), v_lenSs (show z_r.length ≤ 1000 by decide), v_lenSs (show z_empty.length ≤ 1000 by decide), w_dict, w_evnil, w_evcons, keyOk, range0, range1, range2, range3])
    refine ⟨by decide, ?_⟩
    (simp_arith [w_ccons, w_cnil, same_nil, at0, at_1, at_2, at_3, v_ixSs (show z_dn.length ≤ 1000 by decide), v_ixSs (show z_da.length ≤ 1000 by decide), v_ixSs (show z_daa.length ≤ 1000 by decide), v_ixSs (show z_a.length ≤ 1000 by decide), v_ixSs (show z_ar.length ≤ 1000 by decide), v_ixSs (show z_r.length ≤ 1000 by decide), v_dx (show keyOk (.str z_d) = true from rfl), v_dx (show keyOk (.str z_a) = true from rfl), v_dx (show keyOk (.str z_n) = true from rfl), v_dx (show keyOk (.str z_r) = true from rfl), dicOf_len, dicOf_0, most_d, most_a, most_n, most_r, Nat.zero_le, eq_nils, num_eq a1 (show d ≤ names - 1 by omega), num_eq b1 (show k ≤ 999 by omega)])
    exact (fin _).2
  | copy d a =>
    obtain ⟨⟨a1, a2⟩, b1, b2⟩ := h
    (simp_arith [Row.D, at0, sh_put, sh_copy, sh_call, sh_say, sh_if, sh_go, sh_end, Option.getD_some, reduceCtorEq, v_lenSs (show z_dn.length ≤ 1000 by decide), v_lenSs (show z_da.length ≤ 1000 by decide), v_lenSs (show z_a.length ≤ 1000 by decide), v_lenSs (show z_ar.length ≤ 1000 by decide), v_lenSs (show z_r.length ≤ 1000 by decide), v_lenSs (show z_empty.length ≤ 1000 by decide), w_dict, w_evnil, w_evcons, keyOk, range0, range1, range2, range3])
    refine ⟨by decide, ?_⟩
    (simp_arith [w_ccons, w_cnil, same_nil, at0, at_1, at_2, at_3, v_ixSs (show z_dn.length ≤ 1000 by decide), v_ixSs (show z_da.length ≤ 1000 by decide), v_ixSs (show z_daa.length ≤ 1000 by decide), v_ixSs (show z_a.length ≤ 1000 by decide), v_ixSs (show z_ar.length ≤ 1000 by decide), v_ixSs (show z_r.length ≤ 1000 by decide), v_dx (show keyOk (.str z_d) = true from rfl), v_dx (show keyOk (.str z_a) = true from rfl), v_dx (show keyOk (.str z_n) = true from rfl), v_dx (show keyOk (.str z_r) = true from rfl), dicOf_len, dicOf_0, most_d, most_a, most_n, most_r, Nat.zero_le, eq_nils, num_eq a1 (show d ≤ names - 1 by omega), num_eq b1 (show a ≤ names - 1 by omega)])
    exact (fin _).2
  | op o d a b =>
    obtain ⟨⟨a1, a2⟩, ⟨b1, b2⟩, c1, c2⟩ := h
    have e : dget t_SHAPES (.str o.s) = some (.str z_daa) := by cases o <;> decide +kernel
    (simp_arith [Row.D, at0, e, Option.getD_some, reduceCtorEq, v_lenSs (show z_daa.length ≤ 1000 by decide), w_dict, w_evnil, w_evcons, keyOk, range0, range1, range2, range3])
    refine ⟨by decide, ?_⟩
    (simp_arith [w_ccons, w_cnil, same_nil, at0, at_1, at_2, at_3, v_ixSs (show z_dn.length ≤ 1000 by decide), v_ixSs (show z_da.length ≤ 1000 by decide), v_ixSs (show z_daa.length ≤ 1000 by decide), v_ixSs (show z_a.length ≤ 1000 by decide), v_ixSs (show z_ar.length ≤ 1000 by decide), v_ixSs (show z_r.length ≤ 1000 by decide), v_dx (show keyOk (.str z_d) = true from rfl), v_dx (show keyOk (.str z_a) = true from rfl), v_dx (show keyOk (.str z_n) = true from rfl), v_dx (show keyOk (.str z_r) = true from rfl), dicOf_len, dicOf_0, most_d, most_a, most_n, most_r, Nat.zero_le, eq_nils, num_eq a1 (show d ≤ names - 1 by omega), num_eq b1 (show a ≤ names - 1 by omega), num_eq c1 (show b ≤ names - 1 by omega)])
    exact (fin _).2
  | call d a =>
    obtain ⟨⟨a1, a2⟩, b1, b2⟩ := h
    (simp_arith [Row.D, at0, sh_put, sh_copy, sh_call, sh_say, sh_if, sh_go, sh_end, Option.getD_some, reduceCtorEq, v_lenSs (show z_dn.length ≤ 1000 by decide), v_lenSs (show z_da.length ≤ 1000 by decide), v_lenSs (show z_a.length ≤ 1000 by decide), v_lenSs (show z_ar.length ≤ 1000 by decide), v_lenSs (show z_r.length ≤ 1000 by decide), v_lenSs (show z_empty.length ≤ 1000 by decide), w_dict, w_evnil, w_evcons, keyOk, range0, range1, range2, range3])
    refine ⟨by decide, ?_⟩
    (simp_arith [w_ccons, w_cnil, same_nil, at0, at_1, at_2, at_3, v_ixSs (show z_dn.length ≤ 1000 by decide), v_ixSs (show z_da.length ≤ 1000 by decide), v_ixSs (show z_daa.length ≤ 1000 by decide), v_ixSs (show z_a.length ≤ 1000 by decide), v_ixSs (show z_ar.length ≤ 1000 by decide), v_ixSs (show z_r.length ≤ 1000 by decide), v_dx (show keyOk (.str z_d) = true from rfl), v_dx (show keyOk (.str z_a) = true from rfl), v_dx (show keyOk (.str z_n) = true from rfl), v_dx (show keyOk (.str z_r) = true from rfl), dicOf_len, dicOf_0, most_d, most_a, most_n, most_r, Nat.zero_le, eq_nils, num_eq a1 (show d ≤ names - 1 by omega), num_eq b1 (show a ≤ names - 1 by omega)])
    exact (fin _).2
  | say a =>
    obtain ⟨a1, a2⟩ := h
    (simp_arith [Row.D, at0, sh_put, sh_copy, sh_call, sh_say, sh_if, sh_go, sh_end, Option.getD_some, reduceCtorEq, v_lenSs (show z_dn.length ≤ 1000 by decide), v_lenSs (show z_da.length ≤ 1000 by decide), v_lenSs (show z_a.length ≤ 1000 by decide), v_lenSs (show z_ar.length ≤ 1000 by decide), v_lenSs (show z_r.length ≤ 1000 by decide), v_lenSs (show z_empty.length ≤ 1000 by decide), w_dict, w_evnil, w_evcons, keyOk, range0, range1, range2, range3])
    refine ⟨by decide, ?_⟩
    (simp_arith [w_ccons, w_cnil, same_nil, at0, at_1, at_2, at_3, v_ixSs (show z_dn.length ≤ 1000 by decide), v_ixSs (show z_da.length ≤ 1000 by decide), v_ixSs (show z_daa.length ≤ 1000 by decide), v_ixSs (show z_a.length ≤ 1000 by decide), v_ixSs (show z_ar.length ≤ 1000 by decide), v_ixSs (show z_r.length ≤ 1000 by decide), v_dx (show keyOk (.str z_d) = true from rfl), v_dx (show keyOk (.str z_a) = true from rfl), v_dx (show keyOk (.str z_n) = true from rfl), v_dx (show keyOk (.str z_r) = true from rfl), dicOf_len, dicOf_0, most_d, most_a, most_n, most_r, Nat.zero_le, eq_nils, num_eq a1 (show a ≤ names - 1 by omega)])
    exact (fin _).2
  | ife a r =>
    obtain ⟨⟨a1, a2⟩, b1, b2⟩ := h
    (simp_arith [Row.D, at0, sh_put, sh_copy, sh_call, sh_say, sh_if, sh_go, sh_end, Option.getD_some, reduceCtorEq, v_lenSs (show z_dn.length ≤ 1000 by decide), v_lenSs (show z_da.length ≤ 1000 by decide), v_lenSs (show z_a.length ≤ 1000 by decide), v_lenSs (show z_ar.length ≤ 1000 by decide), v_lenSs (show z_r.length ≤ 1000 by decide), v_lenSs (show z_empty.length ≤ 1000 by decide), w_dict, w_evnil, w_evcons, keyOk, range0, range1, range2, range3])
    refine ⟨by decide, ?_⟩
    (simp_arith [w_ccons, w_cnil, same_nil, at0, at_1, at_2, at_3, v_ixSs (show z_dn.length ≤ 1000 by decide), v_ixSs (show z_da.length ≤ 1000 by decide), v_ixSs (show z_daa.length ≤ 1000 by decide), v_ixSs (show z_a.length ≤ 1000 by decide), v_ixSs (show z_ar.length ≤ 1000 by decide), v_ixSs (show z_r.length ≤ 1000 by decide), v_dx (show keyOk (.str z_d) = true from rfl), v_dx (show keyOk (.str z_a) = true from rfl), v_dx (show keyOk (.str z_n) = true from rfl), v_dx (show keyOk (.str z_r) = true from rfl), dicOf_len, dicOf_0, most_d, most_a, most_n, most_r, Nat.zero_le, eq_nils, num_eq a1 (show a ≤ names - 1 by omega), num_eq b1 (show r ≤ many - 1 by omega)])
    exact (fin _).2
  | go r =>
    obtain ⟨b1, b2⟩ := h
    (simp_arith [Row.D, at0, sh_put, sh_copy, sh_call, sh_say, sh_if, sh_go, sh_end, Option.getD_some, reduceCtorEq, v_lenSs (show z_dn.length ≤ 1000 by decide), v_lenSs (show z_da.length ≤ 1000 by decide), v_lenSs (show z_a.length ≤ 1000 by decide), v_lenSs (show z_ar.length ≤ 1000 by decide), v_lenSs (show z_r.length ≤ 1000 by decide), v_lenSs (show z_empty.length ≤ 1000 by decide), w_dict, w_evnil, w_evcons, keyOk, range0, range1, range2, range3])
    refine ⟨by decide, ?_⟩
    (simp_arith [w_ccons, w_cnil, same_nil, at0, at_1, at_2, at_3, v_ixSs (show z_dn.length ≤ 1000 by decide), v_ixSs (show z_da.length ≤ 1000 by decide), v_ixSs (show z_daa.length ≤ 1000 by decide), v_ixSs (show z_a.length ≤ 1000 by decide), v_ixSs (show z_ar.length ≤ 1000 by decide), v_ixSs (show z_r.length ≤ 1000 by decide), v_dx (show keyOk (.str z_d) = true from rfl), v_dx (show keyOk (.str z_a) = true from rfl), v_dx (show keyOk (.str z_n) = true from rfl), v_dx (show keyOk (.str z_r) = true from rfl), dicOf_len, dicOf_0, most_d, most_a, most_n, most_r, Nat.zero_le, eq_nils, num_eq b1 (show r ≤ many - 1 by omega)])
    exact (fin _).2
  | fin =>
    (simp_arith [Row.D, at0, sh_put, sh_copy, sh_call, sh_say, sh_if, sh_go, sh_end, Option.getD_some, reduceCtorEq, v_lenSs (show z_dn.length ≤ 1000 by decide), v_lenSs (show z_da.length ≤ 1000 by decide), v_lenSs (show z_a.length ≤ 1000 by decide), v_lenSs (show z_ar.length ≤ 1000 by decide), v_lenSs (show z_r.length ≤ 1000 by decide), v_lenSs (show z_empty.length ≤ 1000 by decide), w_dict, w_evnil, w_evcons, keyOk, range0, range1, range2, range3])
    refine ⟨by decide, ?_⟩
    (simp_arith [w_ccons, w_cnil, same_nil, at0, at_1, at_2, at_3, v_ixSs (show z_dn.length ≤ 1000 by decide), v_ixSs (show z_da.length ≤ 1000 by decide), v_ixSs (show z_daa.length ≤ 1000 by decide), v_ixSs (show z_a.length ≤ 1000 by decide), v_ixSs (show z_ar.length ≤ 1000 by decide), v_ixSs (show z_r.length ≤ 1000 by decide), v_dx (show keyOk (.str z_d) = true from rfl), v_dx (show keyOk (.str z_a) = true from rfl), v_dx (show keyOk (.str z_n) = true from rfl), v_dx (show keyOk (.str z_r) = true from rfl), dicOf_len, dicOf_0, most_d, most_a, most_n, most_r, Nat.zero_le, eq_nils])
    exact (fin _).2
end PG
namespace PG
open PF
theorem enumD_len : ∀ (j : Nat) (ds : List D), (enumD j ds).length = ds.length
  | _, [] => rfl
  | j, d :: ds => by unfold enumD; rw [List.length_cons, List.length_cons, enumD_len (j + 1) ds]
theorem enumD_get : ∀ {j k : Nat} {ds : List D} {x : D}, (enumD j ds)[k]? = some x → ∃ d, ds[k]? = some d ∧ x = .tup [.int ((j + k : Nat) : Int), d]
  | j, k, [], x, h => by cases h
  | j, 0, d :: ds, x, h => by unfold enumD at h; cases h; exact ⟨d, rfl, rfl⟩
  | j, k + 1, d :: ds, x, h => by
    unfold enumD at h
    rw [List.getElem?_cons_succ] at h
    obtain ⟨d', h1, h2⟩ := enumD_get h
    refine ⟨d', by rw [List.getElem?_cons_succ]; exact h1, ?_⟩
    rw [h2, show j + 1 + k = j + (k + 1) by omega]
theorem need_program_spec {S : Sto} {params names : Int} {rows : List Row} (h : ProgOk params names rows) : wp (f_need_program [progD params names rows] S) fun d S' => d = .non ∧ Keep [] S S' := by
  obtain ⟨⟨p1, p2⟩, ⟨n1, n2⟩, ⟨l1, l2⟩, ok⟩ := h
  have z0 : (((rows.map Row.D).length : Int) == 0) = false := by rw [List.length_map, beq_eq_false_iff_ne]; omega
  unfold f_need_program b_need_program progD
  simp_arith [at_1, num_eq n1 n2, num_eq p1 p2, z0, seqZ, chkOf]
  refine wp_for (it := ⟨[], enumD 0 (rows.map Row.D)⟩) (fun k ρ S' => Keep [] S S' ∧ ∃ c1 c2, ρ = [some (progD params names rows), some (.int params), some (.int names), some (.tup (rows.map Row.D)), c1, c2]) (fun _ _ _ _ => rfl) ?_ ⟨.refl, none, none, rfl⟩ ?_
  · rintro k x ρ S1 hx ⟨k1, c1, c2, rfl⟩
    obtain ⟨d, e, rfl⟩ := enumD_get hx
    rw [List.getElem?_map] at e
    cases e2 : rows[k]? with
    | none => rw [e2] at e; cases e
    | some row =>
      rw [e2] at e
      cases e
      have hk : k < rows.length := (List.getElem?_eq_some_iff.mp e2).1
      have c24 : ¬ (24 : Int) ≤ (k : Int) := by omega
      have hm : (if (24 : Int) < ((rows.map Row.D).length : Int) then (24 : Int) else ((rows.map Row.D).length : Int)) = (rows.length : Int) := by rw [List.length_map, if_neg (by omega)]
      refine ⟨_, rfl, ?_⟩
      simp_arith [c24, hm]
      refine wp_mono (is_row_spec (ok row (List.mem_of_getElem? e2))) ?_
      rintro _ S2 ⟨rfl, k2⟩
      simp_arith []
      exact ⟨k1.trans k2, _, _, rfl⟩
  · rintro ρ S1 ⟨k1, _⟩
    exact k1
end PG
end
section
set_option linter.all false
set_option autoImplicit false
set_option maxRecDepth 100003
namespace PF
section
variable {S : Sto} {ρ : Env} {P : D → Sto → Prop}
theorem w_slice {a : E} {l u : O} : wp (eSlice a l u ρ S) P = wp (a ρ S) fun x S => wp (l ρ S) fun i S => wp (u ρ S) fun j S => wp (gSlice x i j S) P := by
  unfold eSlice
  simp only [wp_bind]
theorem w_onone {P : Option Int → Sto → Prop} : wp (oNone ρ S) P = P none S := wp_ok
theorem w_osome {P : Option Int → Sto → Prop} {a : E} : wp (oSome a ρ S) P = wp (a ρ S) fun x S => ∃ i, x = .int i ∧ P (some i) S := by
  unfold oSome
  rw [wp_bind]
  congr
  funext x S
  cases x <;> simp [wp_ok, wp_bad]
end
end PF
namespace PG
open PF
structure Mc where
  at_ : Int
  held : List Int
  said : List Int
  done : Int
def rd (h : List Int) (i : Int) : Int := h.getD i.toNat 0
def Op3.v : Op3 → Int → Int → Int
  | .add, x, y => (x + y) % 1000
  | .take, x, y => (x - y) % 1000
  | .less, x, y => if x < y then 1 else 0
def Row.step (m : Mc) : Row → Mc
  | .put d k => ⟨m.at_ + 1, m.held.set d.toNat k, m.said, m.done + 1⟩
  | .copy d a => ⟨m.at_ + 1, m.held.set d.toNat (rd m.held a), m.said, m.done + 1⟩
  | .op o d a b => ⟨m.at_ + 1, m.held.set d.toNat (o.v (rd m.held a) (rd m.held b)), m.said, m.done + 1⟩
  | .call d a => ⟨m.at_ + 1, m.held.set d.toNat ((rd m.held a * rd m.held a * 7 + rd m.held a + 3) % 1000), m.said, m.done + 1⟩
  | .say a => ⟨m.at_ + 1, m.held, m.said ++ [rd m.held a], m.done + 1⟩
  | .ife a r => ⟨if rd m.held a = 0 then m.at_ + 1 else r, m.held, m.said, m.done + 1⟩
  | .go r => ⟨r, m.held, m.said, m.done + 1⟩
  | .fin => ⟨m.at_ + 1, m.held, m.said, m.done + 1⟩
def Row.isFin : Row → Bool
  | .fin => true
  | _ => false
def over (rows : List Row) (a : Int) : Bool := match rows[a.toNat]? with
  | none => true
  | some r => r.isFin
theorem mod_in {x : Int} : In0 (x % 1000) 1000 := ⟨Int.emod_nonneg _ (by decide), Int.emod_lt_of_pos _ (by decide)⟩
theorem Op3.v_in {o : Op3} {x y : Int} : In0 (o.v x y) 1000 := by
  cases o with
  | add => exact mod_in
  | take => exact mod_in
  | less =>
    show In0 (if x < y then 1 else 0) 1000
    split
    · exact ⟨by decide, by decide⟩
    · exact ⟨by decide, by decide⟩
end PG
end
section
set_option linter.all false
set_option autoImplicit false
set_option maxRecDepth 100003
namespace PF
section
variable {S : Sto} {P : D → Sto → Prop}
theorem w_addL {m n : Nat} : wp (gAdd (.ref m) (.ref n) S) P = on (wrOf m S) fun a => on (wrOf n S) fun b => a.length + b.length ≤ LIM ∧ P (.ref S.length) (S ++ [.lst (a ++ b)]) := by
  unfold gAdd
  cases h : wrOf m S with
  | none => simp only [h, on_none, wp_bad]
  | some a =>
    cases h2 : wrOf n S with
    | none => simp only [h, h2, on_none, on_some, wp_bad]
    | some b =>
      by_cases c : a.length + b.length ≤ LIM
      · simp only [h, h2, on_some, c, if_true, true_and, alloc, wp_ok]
      · simp only [h, h2, on_some, c, if_false, false_and, wp_bad]
theorem w_mulL {m : Nat} {k : Int} : wp (gMul (.ref m) (.int k) S) P = on (wrOf m S) fun a => (-(2 ^ 62) < k ∧ k < 2 ^ 62 ∧ a.length * k.toNat ≤ LIM) ∧ P (.ref S.length) (S ++ [.lst (rep a k.toNat)]) := by
  unfold gMul
  cases h : wrOf m S with
  | none => simp only [h, on_none, wp_bad]
  | some a =>
    rw [on_some]
    simp only [h]
    split
    · rename_i c
      simp only [c, true_and, alloc, wp_ok]
    · rename_i c
      simp only [c, false_and, wp_bad]
end
end PF
namespace PG
open PF
end PG
end
section
set_option linter.all false
set_option autoImplicit false
set_option maxRecDepth 100003
namespace PG
open PF
def isMk : Row → Bool
  | .say _ => false
  | .ife _ _ => false
  | .go _ => false
  | .fin => false
  | _ => true
end PG
end
section
set_option linter.all false
set_option autoImplicit false
set_option maxRecDepth 100003
namespace PG
open PF
def Ev (k : Nat) (x y : D) (S : Sto) : Prop := wp (f__law_alike k [x, y] S) fun d S' => d = .bl true ∧ S' = S
theorem al_int {k : Nat} {S : Sto} {i : Int} : Ev (k + 1) (.int i) (.int i) S := by
  unfold Ev f__law_alike b__law_alike
  simp_arith [reduceCtorEq]
theorem al_str {k : Nat} {S : Sto} {i : List Nat} : Ev (k + 1) (.str i) (.str i) S := by
  unfold Ev f__law_alike b__law_alike
  simp_arith [reduceCtorEq]
theorem al_bl {k : Nat} {S : Sto} {i : Bool} : Ev (k + 1) (.bl i) (.bl i) S := by
  unfold Ev f__law_alike b__law_alike
  simp_arith [reduceCtorEq]
theorem al_non {k : Nat} {S : Sto} : Ev (k + 1) .non .non S := by
  unfold Ev f__law_alike b__law_alike
  simp_arith []
theorem al_loop {k : Nat} {x y : D} {xs ys : List D} {S : Sto} {c : Option D} (hl : xs.length = ys.length) (hn : ys.length < 2 ^ 62) (hx : ∀ (i : Nat) (P : D → Sto → Prop), wp (gIx x (.int (i : Int)) S) P = on xs[i]? fun d => P d S) (hy : ∀ (i : Nat) (P : D → Sto → Prop), wp (gIx y (.int (i : Int)) S) P = on ys[i]? fun d => P d S)
    (h : ∀ (i : Nat) (a b : D), xs[i]? = some a → ys[i]? = some b → Ev k a b S) :
    wp (forLoop ⟨[], rangeD 0 ys.length⟩ (PF.gName 2) (sIf (PF.tNot (tE (eCall (f__law_alike k) (aCons (e2 gIx (eVar 0) (eVar 2)) (aCons (e2 gIx (eVar 1) (eVar 2)) (aNil)))))) (sRet (eC (.bl false))) (sNext)) (rangeD 0 ys.length) [some x, some y, c] S) fun r S' => r.1 = .nx ∧ S' = S ∧ ∃ c', r.2 = [some x, some y, c'] := by
  refine wp_for (it := ⟨[], rangeD 0 ys.length⟩) (fun k ρ S' => S' = S ∧ ∃ c, ρ = [some x, some y, c]) (fun _ _ _ _ => rfl) ?_ ⟨rfl, c, rfl⟩ ?_
  · rintro i z ρ S1 hz ⟨rfl, c, rfl⟩
    obtain ⟨rfl, hlt⟩ := rangeD_get hz
    have hi : i < ys.length := by omega
    refine ⟨_, rfl, ?_⟩
    have e : (0 : Int) + (i : Int) = i := by omega
    simp_arith [e, hx, hy]
    have ex : xs[i]? = some xs[i] := by simp [hl, hi]
    have ey : ys[i]? = some ys[i] := by simp [hi]
    rw [ex, ey, on_some, on_some]
    refine wp_mono (h i _ _ ex ey) ?_
    rintro _ S2 ⟨rfl, rfl⟩
    simp_arith []
    exact ⟨_, rfl⟩
  · rintro ρ S1 ⟨rfl, c, rfl⟩
    exact ⟨rfl, rfl, c, rfl⟩
theorem al_tup {k : Nat} {S : Sto} {xs ys : List D} (hl : xs.length = ys.length) (hn : ys.length < 2 ^ 62) (h : ∀ (i : Nat) (a b : D), xs[i]? = some a → ys[i]? = some b → Ev k a b S) : Ev (k + 1) (.tup xs) (.tup ys) S := by
  unfold Ev f__law_alike b__law_alike
  have e : (((xs.length : Nat) : Int) == (ys.length : Int)) = true := by rw [hl]; exact beq_self_eq_true _
  simp_arith [reduceCtorEq, e]
  refine ⟨by omega, ?_⟩
  refine wp_mono (al_loop hl hn (fun i P => by rw [v_ixT, at_nat]) (fun i P => by rw [v_ixT, at_nat]) h) ?_
  rintro ⟨f, ρ⟩ S1 ⟨rfl, rfl, c, rfl⟩
  simp_arith []
end PG
end
section
set_option linter.all false
set_option autoImplicit false
set_option maxRecDepth 100003
namespace PF
end PF
namespace PG
open PF
structure FrameOk (boxes slots : Int) (eaten : List Int) : Prop where
  bx : 1 ≤ boxes ∧ boxes ≤ 6
  sl : 0 ≤ slots ∧ slots ≤ 8
  up : eaten.Pairwise (· < ·)
  wi : ∀ e ∈ eaten, In0 e boxes
theorem up_len : ∀ {l : List Int} {lo n : Int}, l.Pairwise (· < ·) → (∀ e ∈ l, lo ≤ e ∧ e < n) → lo ≤ n → (l.length : Int) ≤ n - lo
  | [], lo, n, _, _, h => by show (0 : Int) ≤ _; omega
  | x :: l, lo, n, hp, hw, h => by
    have h2 := List.pairwise_cons.mp hp
    have hx := hw x List.mem_cons_self
    have := up_len (l := l) (lo := x + 1) (n := n) h2.2 (fun e he => ⟨by have := h2.1 e he; omega, (hw e (List.mem_cons_of_mem _ he)).2⟩) (by omega)
    rw [List.length_cons]
    omega
theorem FrameOk.len {boxes slots : Int} {eaten : List Int} (h : FrameOk boxes slots eaten) : eaten.length ≤ 6 := by
  have := up_len (lo := 0) h.up (fun e he => h.wi e he) (by have := h.bx; omega)
  have := h.bx
  omega
end PG
end
section
set_option linter.all false
set_option autoImplicit false
set_option maxRecDepth 100003
namespace PG
open PF
def rangeI (lo hi : Int) : List Int := (List.range (hi - lo).toNat).map fun (k : Nat) => lo + (k : Int)
end PG
end
section
set_option linter.all false
set_option autoImplicit false
set_option maxRecDepth 100003
namespace PG
open PF
inductive Mv where
  | copy (a b : Int) | swap (a b : Int) | store (s b : Int) | load (b s : Int)
def Mv.D : Mv → D
  | .copy a b => .tup [.str z_copy, .int a, .int b]
  | .swap a b => .tup [.str z_swap, .int a, .int b]
  | .store s b => .tup [.str z_store, .int s, .int b]
  | .load b s => .tup [.str z_load, .int b, .int s]
def Mv.ok (boxes slots : Int) : Mv → Prop
  | .copy a b => In0 a boxes ∧ In0 b boxes
  | .swap a b => In0 a boxes ∧ In0 b boxes
  | .store s b => In0 s slots ∧ In0 b boxes
  | .load b s => In0 b boxes ∧ In0 s slots
end PG
end
section
set_option linter.all false
set_option autoImplicit false
set_option maxRecDepth 100003
namespace PF
theorem w_kNotIn {S : Sto} {P : D → Sto → Prop} {t : List (D × D)} {k : List Nat} : wp (kNotIn t (.str k) S) P = P (.bl (!(dget t (.str k)).isSome)) S := wp_ok
theorem w_kIx {S : Sto} {P : D → Sto → Prop} {t : List (D × D)} {k : List Nat} : wp (kIx t (.str k) S) P = on (dget t (.str k)) fun d => P d S := by
  unfold kIx
  cases h : dget t (.str k) with
  | none => simp only [h, on_none, wp_bad]
  | some d => simp only [h, on_some, wp_ok]
end PF
namespace PG
open PF
end PG
end
section
set_option linter.all false
set_option autoImplicit false
set_option maxRecDepth 100003
namespace PF
end PF
namespace PG
open PF
def Row.nms : Row → List Int
  | .put d _ => [d]
  | .copy d a => [d, a]
  | .op _ d a b => [d, a, b]
  | .call d a => [d, a]
  | .say a => [a]
  | .ife a _ => [a]
  | .go _ => []
  | .fin => []
structure Grp where
  ahead : List Mv
  bx : List Int
  behind : List Mv
def Grp.D (g : Grp) : D := .tup [.tup (g.ahead.map Mv.D), .tup (g.bx.map .int), .tup (g.behind.map Mv.D)]
end PG
end
section
set_option linter.all false
set_option autoImplicit false
set_option maxRecDepth 100003
namespace PF
end PF
namespace PG
open PF
inductive Pl where
  | box (n : Int) | slot (n : Int)
  deriving DecidableEq
def Pl.D : Pl → D
  | .box n => .tup [.str z_box, .int n]
  | .slot n => .tup [.str z_slot, .int n]
def Pl.ok (boxes slots : Int) : Pl → Prop
  | .box n => In0 n boxes
  | .slot n => In0 n slots
structure Choice where
  places : List Pl
  groups : List Grp
def Choice.D (c : Choice) : D := .tup [.tup (c.places.map Pl.D), .tup (c.groups.map Grp.D)]
end PG
end
section
set_option linter.all false
set_option autoImplicit false
set_option maxRecDepth 100003
namespace PF
theorem lim_le {n : Nat} (h : n ≤ 1000) : n ≤ LIM := by unfold LIM; omega
end PF
namespace PG
open PF
end PG
end
section
set_option linter.all false
set_option autoImplicit false
set_option maxRecDepth 100003
namespace PF
theorem cut_to {α : Type} {xs : List α} {i : Int} (h : 0 ≤ i) : cut xs none (some i) = xs.take i.toNat := by
  unfold cut sIx
  simp only
  rw [if_neg (show ¬ i < 0 by omega)]
  simp
theorem cut_from {α : Type} {xs : List α} {i : Int} (h : 0 ≤ i) : cut xs (some i) none = xs.drop i.toNat := by
  unfold cut sIx
  simp only
  rw [if_neg (show ¬ i < 0 by omega)]
  by_cases c : i.toNat ≤ xs.length
  · rw [Nat.min_eq_left c]
    refine List.take_of_length_le ?_
    rw [List.length_drop]
    exact Nat.le_refl _
  · rw [Nat.min_eq_right (by omega), List.drop_of_length_le (Nat.le_refl _), List.drop_of_length_le (by omega)]
    simp
end PF
namespace PG
open PF
end PG
end
section
set_option linter.all false
set_option autoImplicit false
set_option maxRecDepth 100003
namespace PF
end PF
namespace PG
open PF
/-- one move -/
def mv1 {α : Type} (boxes : Int) (h : List α) : Mv → List α
  | .copy a b => match h[b.toNat]? with
    | some v => h.set a.toNat v
    | none => h
  | .swap a b => match h[a.toNat]?, h[b.toNat]? with
    | some x, some y => (h.set a.toNat y).set b.toNat x
    | _, _ => h
  | .store s b => match h[b.toNat]? with
    | some v => h.set (boxes + s).toNat v
    | none => h
  | .load b s => match h[(boxes + s).toNat]? with
    | some v => h.set b.toNat v
    | none => h
def mvs {α : Type} (boxes : Int) (h : List α) (ms : List Mv) : List α := ms.foldl (mv1 boxes) h
theorem mv1_len {α : Type} {boxes : Int} {h : List α} {m : Mv} : (mv1 boxes h m).length = h.length := by
  cases m <;> unfold mv1 <;> dsimp only <;> split <;> simp
theorem mvs_len {α : Type} {boxes : Int} : ∀ {ms : List Mv} {h : List α}, (mvs boxes h ms).length = h.length
  | [], _ => rfl
  | m :: ms, h => (mvs_len (ms := ms) (h := mv1 boxes h m)).trans mv1_len
end PG
end
section
set_option linter.all false
set_option autoImplicit false
set_option maxRecDepth 100003
namespace PG
open PF
def Row.val (xs : List Int) : Row → Int
  | .put _ k => k
  | .copy _ _ => rd xs 1
  | .op o _ _ _ => o.v (rd xs 1) (rd xs 2)
  | .call _ _ => (rd xs 1 * rd xs 1 * 7 + rd xs 1 + 3) % 1000
  | _ => 0
def Row.isCall : Row → Bool
  | .call _ _ => true
  | _ => false
structure Bc where
  at_ : Int
  held : List Int
  said : List Int
  done : Int
  many : Nat
def eat (jf : Nat → Int) : List Int → Nat → List Int → List Int
  | [], _, h => h
  | e :: es, n, h => eat jf es (n + 1) (h.set e.toNat (jf n))
theorem mv1_mem {α : Type} {boxes : Int} {h : List α} {m : Mv} {x : α} (hx : x ∈ mv1 boxes h m) : x ∈ h := by
  have get : ∀ {i : Nat} {v : α}, h[i]? = some v → v ∈ h := fun e => List.mem_of_getElem? e
  cases m <;> unfold mv1 at hx <;> dsimp only at hx <;> split at hx
  · rename_i e; rcases List.mem_or_eq_of_mem_set hx with z | z; exact z; rw [z]; exact get e
  · exact hx
  · rename_i e1 e2
    rcases List.mem_or_eq_of_mem_set hx with z | z
    · rcases List.mem_or_eq_of_mem_set z with y | y
      · exact y
      · rw [y]; exact get e2
    · rw [z]; exact get e1
  · exact hx
  · rename_i e; rcases List.mem_or_eq_of_mem_set hx with z | z; exact z; rw [z]; exact get e
  · exact hx
  · rename_i e; rcases List.mem_or_eq_of_mem_set hx with z | z; exact z; rw [z]; exact get e
  · exact hx
theorem mvs_mem {α : Type} {boxes : Int} : ∀ {ms : List Mv} {h : List α} {x : α}, x ∈ mvs boxes h ms → x ∈ h
  | [], _, _, hx => hx
  | m :: ms, h, x, hx => mv1_mem (mvs_mem (ms := ms) (h := mv1 boxes h m) hx)
def pix (boxes : Int) : Pl → Int
  | .box n => n
  | .slot n => boxes + n
def lay {α : Type} (boxes : Int) : List α → List Pl → List α → List α
  | h, p :: ps, x :: xs => lay boxes (h.set (pix boxes p).toNat x) ps xs
  | h, _, _ => h
end PG
end
section
set_option linter.all false
set_option autoImplicit false
set_option maxRecDepth 100003
namespace PG
open PF
/-- a row that asks for what it is handed -/
def Row.asks : Row → Bool
  | .say _ => true
  | .ife _ _ => true
  | _ => false
end PG
end
section
set_option linter.all false
set_option autoImplicit false
set_option maxRecDepth 100003
namespace PG
open PF
def Row.w : Row → List Nat
  | .put _ _ => z_put
  | .copy _ _ => z_copy
  | .op o _ _ _ => o.s
  | .call _ _ => z_call
  | .say _ => z_say
  | .ife _ _ => z_if
  | .go _ => z_go
  | .fin => z_end
end PG
end
section
set_option linter.all false
set_option autoImplicit false
set_option maxRecDepth 100003
namespace PF
theorem strI_nat (n : Nat) : strI (n : Int) = (Nat.toDigits 10 n).map Char.toNat := by
  unfold strI
  show (String.toList (Int.repr (Int.ofNat n))).map Char.toNat = _
  show ((String.ofList (Nat.toDigits 10 n)).toList).map Char.toNat = _
  rw [String.toList_ofList]
end PF
namespace PG
open PF
/-- a mark -/
inductive Mrk where
  | name (i : Nat) | held (i : Nat) | made (k : Nat)
  deriving DecidableEq
def Mrk.ok (P N : Nat) : Mrk → Prop
  | .name i => i < P
  | .held i => i < N
  | .made _ => True
/-- the goal's name -/
def Row.goal : Row → Int
  | .put d _ => d
  | .copy d _ => d
  | .op _ d _ _ => d
  | .call d _ => d
  | _ => 0
def Row.isCopy : Row → Bool
  | .copy _ _ => true
  | _ => false
def Row.src : Row → Int
  | .copy _ a => a
  | _ => 0
/-- marks as the program has them -/
def tI (P N : Nat) : Mrk → D
  | .name i => .int (i : Int)
  | .held i => .int ((P + i : Nat) : Int)
  | .made k => .int ((P + N + k : Nat) : Int)
end PG
end
section
set_option linter.all false
set_option autoImplicit false
set_option maxRecDepth 100003
namespace PG
open PF
theorem w_str {S : Sto} {P : D → Sto → Prop} {i : Int} (h : -(2 ^ 60) < i ∧ i < 2 ^ 60) : wp (fStr [.int i] S) P = P (.str (strI i)) S := by
  unfold fStr
  simp only [if_pos h, wp_ok]
theorem w_addS {S : Sto} {P : D → Sto → Prop} {a b : List Nat} (h : a.length + b.length ≤ LIM) : wp (gAdd (.str a) (.str b) S) P = P (.str (a ++ b)) S := by
  unfold gAdd
  simp only [if_pos h, wp_ok]
end PG
end
section
set_option linter.all false
set_option autoImplicit false
set_option maxRecDepth 100003
namespace PG
open PF
/-- what lies where: for each place rising names -/
abbrev Hd := List (List Int)
def sD (s : List Int) : D := .tup (s.map .int)
def hD (h : Hd) : D := .tup (h.map sD)
structure HdOk (P N : Nat) (h : Hd) : Prop where
  len : h.length = N
  srt : ∀ s ∈ h, s.Pairwise (· < ·)
  inn : ∀ s ∈ h, ∀ k ∈ s, In0 k P
end PG
end
section
set_option linter.all false
set_option autoImplicit false
set_option maxRecDepth 100003
namespace PF
end PF
namespace PG
open PF
/-- the names at a place -/
def hat (h : Hd) (p : Int) : List Int := h.getD p.toNat []
def askH (bx ns : List Int) (h : Hd) (k : Int) : Bool := (hat h (rd bx k)).any (· == rd ns k)
def sameH (r : Row) (g : Grp) (h : Hd) : Bool := (rangeI (b2i (isMk r)) (g.bx.length : Int)).filter (fun k => !(askH g.bx r.nms h k)) == []
theorem mvs_ok {P N : Nat} {boxes : Int} {h : Hd} {ms : List Mv} (ok : HdOk P N h) : HdOk P N (mvs boxes h ms) := ⟨by rw [mvs_len]; exact ok.len, fun s hs => ok.srt s (mvs_mem hs), fun s hs => ok.inn s (mvs_mem hs)⟩
/-- behind a copy of a name -/
def renH (d a : Int) (s : List Int) : List Int :=
  if d = a then s else if (s.filter fun x => !(x == d)).any (· == a) then sortI (s.filter (fun x => !(x == d)) ++ [d]) else s.filter fun x => !(x == d)
end PG
end
section
set_option linter.all false
set_option autoImplicit false
set_option maxRecDepth 100003
namespace PF
/-- [e for x in xs], where e may make things -/
theorem comp_mapK {α : Type} {S : Sto} {ρ : Env} {it : Iter} {e : E} {i : Nat} {φ f : α → D} {xs : List α} (ea : it.all = xs.map φ) (hs : ∀ S', Keep [] S S' → it.same S' = true)
    (ht : ∀ x ∈ xs, ∀ S1, Keep [] S S1 → wp (e (ρ.set i (some (φ x))) S1) fun d S2 => d = f x ∧ Keep [] S1 S2) :
    wp (compLoop it (PF.gName i) tYes e ρ it.all S) fun ys S' => ys = xs.map f ∧ Keep [] S S' := by
  refine wp_mono (wp_loop (it := it) (fun k acc S' => acc = (xs.take k).map f ∧ Keep [] S S') (fun k acc S' h => hs S' h.2) ?_ ⟨rfl, .refl⟩) ?_
  · rintro k x acc S1 hx ⟨rfl, K1⟩
    rw [ea, List.getElem?_map] at hx
    cases e2 : xs[k]? with
    | none => rw [e2] at hx; cases hx
    | some v =>
      rw [e2] at hx
      cases hx
      refine ⟨_, rfl, ?_⟩
      rw [w_tyes, if_pos rfl]
      refine wp_mono (ht v (List.mem_of_getElem? e2) S1 K1) ?_
      rintro _ S2 ⟨rfl, k2⟩
      refine ⟨?_, K1.trans k2⟩
      rw [List.take_add_one, e2]
      simp
  · rintro ys S1 ⟨rfl, K1⟩
    refine ⟨?_, K1⟩
    rw [ea, List.length_map, List.take_length]
end PF
namespace PG
open PF
def eatH (es : List Int) (h : Hd) : Hd := es.foldl (fun h e => h.set e.toNat []) h
theorem eatH_len : ∀ {es : List Int} {h : Hd}, (eatH es h).length = h.length
  | [], _ => rfl
  | e :: es, h => by
    show (eatH es (h.set e.toNat [])).length = _
    rw [eatH_len, List.length_set]
def hmid (eaten : List Int) (h1 : Hd) (r : Row) (g : Grp) (s : Bool) : Hd :=
  if r.isCopy then (h1.map (renH r.goal r.src)).set (rd g.bx 0).toNat (hat (h1.map (renH r.goal r.src)) (rd g.bx 1))
  else if isMk r then (if r.isCall then eatH eaten (h1.map fun t => t.filter fun x => !(x == r.goal)) else h1.map fun t => t.filter fun x => !(x == r.goal)).set (rd g.bx 0).toNat (if s then [r.goal] else [])
  else h1
def hbeh (eaten : List Int) (boxes : Int) (h : Hd) (r : Row) (g : Grp) : Hd := mvs boxes (hmid eaten (mvs boxes h g.ahead) r g (sameH r g (mvs boxes h g.ahead))) g.behind
end PG
end
section
set_option linter.all false
set_option autoImplicit false
set_option maxRecDepth 100003
namespace PF
end PF
namespace PG
open PF
theorem hins_perm (x : Int) : ∀ l : List Int, (ins (fun a b => decide (a < b)) x l).Perm (x :: l)
  | [] => .refl _
  | y :: ys => by
    unfold ins
    split
    · exact ((hins_perm x ys).cons y).trans (.swap x y ys)
    · exact .refl _
theorem hsort_perm : ∀ l : List Int, (sortI l).Perm l
  | [] => .refl _
  | x :: xs => (hins_perm x _).trans ((hsort_perm xs).cons x)
theorem hins_srt (x : Int) : ∀ l : List Int, l.Pairwise (· < ·) → x ∉ l → (ins (fun a b => decide (a < b)) x l).Pairwise (· < ·)
  | [], _, _ => by simp [ins]
  | y :: ys, h, hn => by
    unfold ins
    rw [List.pairwise_cons] at h
    have hxy : x ≠ y := fun e => hn (by rw [e]; exact List.mem_cons_self)
    split
    · rename_i c
      have c' : y < x := of_decide_eq_true c
      refine List.pairwise_cons.mpr ⟨fun z hz => ?_, hins_srt x ys h.2 fun m => hn (List.mem_cons_of_mem _ m)⟩
      rcases List.mem_cons.mp ((hins_perm x ys).mem_iff.mp hz) with e | e
      · omega
      · exact h.1 z e
    · rename_i c
      have c' : ¬ y < x := fun e => c (decide_eq_true e)
      refine List.pairwise_cons.mpr ⟨fun z hz => ?_, List.pairwise_cons.mpr h⟩
      rcases List.mem_cons.mp hz with e | e
      · omega
      · have := h.1 z e; omega
theorem hsort_srt : ∀ l : List Int, l.Nodup → (sortI l).Pairwise (· < ·)
  | [], _ => .nil
  | x :: xs, h => by
    rw [List.nodup_cons] at h
    exact hins_srt x _ (hsort_srt xs h.2) fun m => h.1 ((hsort_perm xs).mem_iff.mp m)
theorem srt_nodup {l : List Int} (h : l.Pairwise (· < ·)) : l.Nodup := h.imp fun h => by omega
theorem mem_any {l : List Int} {x : Int} : l.any (· == x) = true ↔ x ∈ l := by
  rw [List.any_eq_true]
  constructor
  · rintro ⟨y, hy, e⟩
    have : y = x := by simpa using e
    exact this ▸ hy
  · intro h
    exact ⟨x, h, by simp⟩
theorem mem_ren {d a x : Int} {s : List Int} : x ∈ renH d a s ↔ (if d = a then x ∈ s else (x ∈ s ∧ x ≠ d) ∨ (x = d ∧ a ∈ s)) := by
  unfold renH
  by_cases e : d = a
  · rw [if_pos e, if_pos e]
  · rw [if_neg e, if_neg e]
    have hf : ∀ y, y ∈ s.filter (fun x => !(x == d)) ↔ y ∈ s ∧ y ≠ d := fun y => by simp
    have ha : (s.filter fun x => !(x == d)).any (· == a) = true ↔ a ∈ s := by
      rw [mem_any, hf]
      exact ⟨fun h => h.1, fun h => ⟨h, fun z => e z.symm⟩⟩
    by_cases c : a ∈ s
    · rw [if_pos (ha.mpr c), (hsort_perm _).mem_iff, List.mem_append, hf, List.mem_singleton]
      simp [c]
    · rw [if_neg (fun h => c (ha.mp h)), hf]
      simp [c]
theorem ren_srt {d a : Int} {s : List Int} (h : s.Pairwise (· < ·)) : (renH d a s).Pairwise (· < ·) := by
  unfold renH
  split
  · exact h
  · split
    · refine hsort_srt _ ?_
      rw [List.nodup_append]
      refine ⟨(srt_nodup h).filter _, by simp, fun x hx y hy => ?_⟩
      have : y = d := by simpa using hy
      subst this
      intro e
      subst e
      simp at hx
    · exact h.filter _
theorem mem_set_or {α : Type} {l : List α} {i : Nat} {a x : α} (h : x ∈ l.set i a) : x ∈ l ∨ x = a := List.mem_or_eq_of_mem_set h
theorem eatH_mem : ∀ {es : List Int} {h : Hd} {s : List Int}, s ∈ eatH es h → s ∈ h ∨ s = []
  | [], _, _, hs => .inl hs
  | e :: es, h, s, hs => by
    rcases eatH_mem (es := es) (h := h.set e.toNat []) hs with z | z
    · exact mem_set_or z
    · exact .inr z
theorem goal_in {r : Row} {P : Nat} {m : Int} (hr : r.ok (P : Int) m) (h : isMk r = true) : In0 r.goal (P : Int) := by
  cases r <;> first | exact hr.1 | cases h
theorem hmid_ok {P N : Nat} {boxes slots m : Int} {eaten : List Int} {h1 : Hd} {r : Row} {g : Grp} {s : Bool} (ok : HdOk P N h1) (hr : r.ok (P : Int) m) : HdOk P N (hmid eaten h1 r g s) := by
  unfold hmid
  split
  · rename_i hc
    cases r with
    | copy d a =>
      have okr : HdOk P N (h1.map (renH d a)) := by
        refine ⟨by rw [List.length_map]; exact ok.len, fun t ht => ?_, fun t ht k hk => ?_⟩
        · obtain ⟨u, hu, rfl⟩ := List.mem_map.mp ht
          exact ren_srt (ok.srt u hu)
        · obtain ⟨u, hu, rfl⟩ := List.mem_map.mp ht
          rw [mem_ren] at hk
          split at hk
          · exact ok.inn u hu k hk
          · rcases hk with hk | hk
            · exact ok.inn u hu k hk.1
            · rw [hk.1]; exact hr.1
      show HdOk P N ((h1.map (renH d a)).set _ (hat (h1.map (renH d a)) _))
      generalize h1.map (renH d a) = h2 at *
      have key : ∀ t ∈ h2.set (rd g.bx 0).toNat (hat h2 (rd g.bx 1)), t ∈ h2 ∨ t = [] := fun t ht => by
        rcases mem_set_or ht with z | z
        · exact .inl z
        · unfold hat at z
          by_cases c : (rd g.bx 1).toNat < h2.length
          · refine .inl ?_
            rw [z, List.getD_eq_getElem?_getD, List.getElem?_eq_getElem c]
            exact List.getElem_mem c
          · refine .inr ?_
            rw [z, List.getD_eq_getElem?_getD, List.getElem?_eq_none (by omega)]
            rfl
      refine ⟨by rw [List.length_set]; exact okr.len, fun t ht => ?_, fun t ht k hk => ?_⟩
      · rcases key t ht with z | z
        · exact okr.srt t z
        · rw [z]; exact .nil
      · rcases key t ht with z | z
        · exact okr.inn t z k hk
        · rw [z] at hk; cases hk
    | _ => cases hc
  · split
    · rename_i hmk
      have key : ∀ t ∈ (if r.isCall then eatH eaten (h1.map fun t => t.filter fun x => !(x == r.goal)) else h1.map fun t => t.filter fun x => !(x == r.goal)).set (rd g.bx 0).toNat (if s then [r.goal] else []), (∃ u ∈ h1, t = u.filter fun x => !(x == r.goal)) ∨ t = [] ∨ t = [r.goal] := fun t ht => by
        rcases mem_set_or ht with z | z
        · split at z
          · rcases eatH_mem z with z | z
            · obtain ⟨u, hu, rfl⟩ := List.mem_map.mp z
              exact .inl ⟨u, hu, rfl⟩
            · exact .inr (.inl z)
          · obtain ⟨u, hu, rfl⟩ := List.mem_map.mp z
            exact .inl ⟨u, hu, rfl⟩
        · cases s
          · exact .inr (.inl z)
          · exact .inr (.inr z)
      refine ⟨?_, fun t ht => ?_, fun t ht k hk => ?_⟩
      · rw [List.length_set]
        split
        · rw [eatH_len, List.length_map]; exact ok.len
        · rw [List.length_map]; exact ok.len
      · rcases key t ht with ⟨u, hu, z⟩ | z | z <;> rw [z]
        · exact (ok.srt u hu).filter _
        · exact .nil
        · simp
      · rcases key t ht with ⟨u, hu, z⟩ | z | z <;> rw [z] at hk
        · exact ok.inn u hu k (List.mem_filter.mp hk).1
        · cases hk
        · have : k = r.goal := by simpa using hk
          rw [this]; exact goal_in hr hmk
    · exact ok
theorem hbeh_ok {P N : Nat} {boxes m : Int} {eaten : List Int} {h : Hd} {r : Row} {g : Grp} (ok : HdOk P N h) (hr : r.ok (P : Int) m) : HdOk P N (hbeh eaten boxes h r g) := mvs_ok (hmid_ok (boxes := boxes) (slots := 0) (mvs_ok ok) hr)
end PG
end
section
set_option linter.all false
set_option autoImplicit false
set_option maxRecDepth 100003
namespace PF
end PF
namespace PG
open PF
/-- the rows behind a row -/
def leads (n : Int) : Row → List Int
  | .fin => []
  | .go t => [t]
  | .ife _ t => [n + 1, t]
  | _ => [n + 1]
def meetS (s t : List Int) : List Int := s.filter fun x => t.any (· == x)
def meetH (a b : Hd) : Hd := (a.zip b).map fun p => meetS p.1 p.2
end PG
end
section
set_option linter.all false
set_option autoImplicit false
set_option maxRecDepth 100003
namespace PG
open PF
def leH (a b : Hd) : Prop := a.length = b.length ∧ ∀ (p : Nat) (x : Int), x ∈ a.getD p [] → x ∈ b.getD p []
theorem leH.refl {a : Hd} : leH a a := ⟨rfl, fun _ _ h => h⟩
theorem leH.trans {a b c : Hd} (h : leH a b) (k : leH b c) : leH a c := ⟨h.1.trans k.1, fun p x m => k.2 p x (h.2 p x m)⟩
theorem getD_out {h : Hd} {p : Nat} (hp : ¬ p < h.length) : h.getD p [] = [] := by
  rw [List.getD_eq_getElem?_getD, List.getElem?_eq_none (by omega)]
  rfl
theorem get?_getD {h : Hd} {p : Nat} (hp : p < h.length) : h[p]? = some (h.getD p []) := by
  rw [List.getD_eq_getElem?_getD, List.getElem?_eq_getElem hp]
  rfl
theorem getD_set {h : Hd} {i p : Nat} {v : List Int} : (h.set i v).getD p [] = if i = p ∧ p < h.length then v else h.getD p [] := by
  rw [List.getD_eq_getElem?_getD, List.getD_eq_getElem?_getD, List.getElem?_set]
  by_cases e : i = p
  · subst e
    by_cases c : i < h.length
    · simp [c]
    · simp [c]
  · simp [e]
theorem leH.set {a b : Hd} {i : Nat} {v w : List Int} (h : leH a b) (hv : ∀ x ∈ v, x ∈ w) : leH (a.set i v) (b.set i w) := by
  refine ⟨by rw [List.length_set, List.length_set]; exact h.1, fun p x hx => ?_⟩
  rw [getD_set] at hx ⊢
  rw [← h.1]
  split
  · rename_i c; rw [if_pos c] at hx; exact hv x hx
  · rename_i c; rw [if_neg c] at hx; exact h.2 p x hx
theorem getD_map {f : List Int → List Int} (hf : f [] = []) {h : Hd} {p : Nat} : (h.map f).getD p [] = f (h.getD p []) := by
  rw [List.getD_eq_getElem?_getD, List.getD_eq_getElem?_getD, List.getElem?_map]
  cases h[p]? with
  | none => exact hf.symm
  | some s => rfl
theorem leH.map {f : List Int → List Int} (hf : f [] = []) (mf : ∀ s t, (∀ x ∈ s, x ∈ t) → ∀ x ∈ f s, x ∈ f t) {a b : Hd} (h : leH a b) : leH (a.map f) (b.map f) := by
  refine ⟨by rw [List.length_map, List.length_map]; exact h.1, fun p x hx => ?_⟩
  rw [getD_map hf] at hx ⊢
  exact mf _ _ (h.2 p) x hx
theorem leH.mv {boxes : Int} {a b : Hd} {m : Mv} (h : leH a b) : leH (mv1 boxes a m) (mv1 boxes b m) := by
  have key : ∀ j : Nat, (a[j]? = some (a.getD j []) ∧ b[j]? = some (b.getD j [])) ∨ (a[j]? = none ∧ b[j]? = none) := fun j => by
    by_cases c : j < a.length
    · exact .inl ⟨get?_getD c, get?_getD (by rw [← h.1]; exact c)⟩
    · exact .inr ⟨List.getElem?_eq_none (by omega), List.getElem?_eq_none (by rw [← h.1]; omega)⟩
  cases m with
  | copy x y =>
    unfold mv1
    dsimp only
    rcases key y.toNat with ⟨e1, e2⟩ | ⟨e1, e2⟩ <;> rw [e1, e2]
    · exact h.set (h.2 _)
    · exact h
  | store x y =>
    unfold mv1
    dsimp only
    rcases key y.toNat with ⟨e1, e2⟩ | ⟨e1, e2⟩ <;> rw [e1, e2]
    · exact h.set (h.2 _)
    · exact h
  | load x y =>
    unfold mv1
    dsimp only
    rcases key (boxes + y).toNat with ⟨e1, e2⟩ | ⟨e1, e2⟩ <;> rw [e1, e2]
    · exact h.set (h.2 _)
    · exact h
  | swap x y =>
    unfold mv1
    dsimp only
    rcases key x.toNat with ⟨e1, e2⟩ | ⟨e1, e2⟩ <;> rw [e1, e2]
    · rcases key y.toNat with ⟨e3, e4⟩ | ⟨e3, e4⟩ <;> rw [e3, e4]
      · exact (h.set (h.2 _)).set (h.2 _)
      · exact h
    · exact h
theorem leH.mvs {boxes : Int} : ∀ {ms : List Mv} {a b : Hd}, leH a b → leH (mvs boxes a ms) (mvs boxes b ms)
  | [], _, _, h => h
  | m :: ms, a, b, h => leH.mvs (ms := ms) h.mv
theorem leH.eat : ∀ {es : List Int} {a b : Hd}, leH a b → leH (eatH es a) (eatH es b)
  | [], _, _, h => h
  | e :: es, a, b, h => leH.eat (es := es) (h.set fun x hx => hx)
theorem same_mono {r : Row} {g : Grp} {a b : Hd} (h : leH a b) (hs : sameH r g a = true) : sameH r g b = true := by
  unfold sameH at *
  rw [beq_iff_eq, List.filter_eq_nil_iff] at *
  intro k hk
  have := hs k hk
  simp only [Bool.not_eq_true', Bool.not_eq_false] at this ⊢
  unfold askH at *
  rw [mem_any] at *
  exact h.2 _ _ this
theorem hmid_mono {eaten : List Int} {a b : Hd} {r : Row} {g : Grp} {s t : Bool} (h : leH a b) (hs : s = true → t = true) : leH (hmid eaten a r g s) (hmid eaten b r g t) := by
  unfold hmid
  have h1 : leH (a.map (renH r.goal r.src)) (b.map (renH r.goal r.src)) := by
    refine h.map (by unfold renH; simp) fun u v huv x hx => ?_
    rw [mem_ren] at *
    split
    · rename_i c; rw [if_pos c] at hx; exact huv x hx
    · rename_i c
      rw [if_neg c] at hx
      rcases hx with hx | hx
      · exact .inl ⟨huv x hx.1, hx.2⟩
      · exact .inr ⟨hx.1, huv _ hx.2⟩
  have h2 : leH (a.map fun t => t.filter fun x => !(x == r.goal)) (b.map fun t => t.filter fun x => !(x == r.goal)) := by
    refine h.map rfl fun u v huv x hx => ?_
    have := List.mem_filter.mp hx
    exact List.mem_filter.mpr ⟨huv x this.1, this.2⟩
  split
  · exact h1.set (h1.2 _)
  · split
    · have h3 : ∀ x ∈ (if s = true then [r.goal] else []), x ∈ (if t = true then [r.goal] else []) := fun x hx => by
        cases s
        · cases hx
        · rw [hs rfl]; exact hx
      split
      · exact h2.eat.set h3
      · exact h2.set h3
    · exact h
theorem hbeh_mono {eaten : List Int} {boxes : Int} {a b : Hd} {r : Row} {g : Grp} (h : leH a b) : leH (hbeh eaten boxes a r g) (hbeh eaten boxes b r g) :=
  leH.mvs (hmid_mono (leH.mvs h) (same_mono (leH.mvs h)))
theorem mem_meetS {s t : List Int} {x : Int} : x ∈ meetS s t ↔ x ∈ s ∧ x ∈ t := by
  unfold meetS
  rw [List.mem_filter, mem_any]
theorem meetH_len {a b : Hd} (h : a.length = b.length) : (meetH a b).length = a.length := by
  unfold meetH
  rw [List.length_map, List.length_zip]
  omega
theorem meetH_getD {a b : Hd} (h : a.length = b.length) {p : Nat} : (meetH a b).getD p [] = meetS (a.getD p []) (b.getD p []) := by
  by_cases c : p < a.length
  · rw [List.getD_eq_getElem?_getD]
    unfold meetH
    rw [List.getElem?_map, List.getElem?_zip_eq_some (z := (a.getD p [], b.getD p [])) |>.mpr ⟨get?_getD c, get?_getD (by rw [← h]; exact c)⟩]
    rfl
  · rw [getD_out (by rw [meetH_len h]; exact c), getD_out c]
    rfl
theorem meet_le1 {a b : Hd} (h : a.length = b.length) : leH (meetH a b) a := ⟨meetH_len h, fun p x hx => by rw [meetH_getD h, mem_meetS] at hx; exact hx.1⟩
theorem meet_le2 {a b : Hd} (h : a.length = b.length) : leH (meetH a b) b := ⟨(meetH_len h).trans h, fun p x hx => by rw [meetH_getD h, mem_meetS] at hx; exact hx.2⟩
theorem le_meet {a b u : Hd} (h : leH u a) (k : leH u b) : leH u (meetH a b) := by
  have e : a.length = b.length := h.1.symm.trans k.1
  exact ⟨h.1.trans (meetH_len e).symm, fun p x hx => by rw [meetH_getD e, mem_meetS]; exact ⟨h.2 p x hx, k.2 p x hx⟩⟩
theorem meet_ok {P N : Nat} {a b : Hd} (oa : HdOk P N a) (h : a.length = b.length) : HdOk P N (meetH a b) := by
  have key : ∀ t ∈ meetH a b, ∃ u ∈ a, ∃ v, t = meetS u v := fun t ht => by
    obtain ⟨p, hp, rfl⟩ := List.mem_map.mp ht
    exact ⟨p.1, (List.of_mem_zip hp).1, p.2, rfl⟩
  refine ⟨(meetH_len h).trans oa.len, fun t ht => ?_, fun t ht k hk => ?_⟩
  · obtain ⟨u, hu, v, rfl⟩ := key t ht
    exact (oa.srt u hu).filter _
  · obtain ⟨u, hu, v, rfl⟩ := key t ht
    exact oa.inn u hu k (mem_meetS.mp hk).1
/-- the entry met with what lies behind -/
def updO : Option Hd → Hd → Hd
  | none, b => b
  | some a, b => meetH a b
theorem updO_ok {P N : Nat} {o : Option Hd} {b : Hd} (ho : ∀ a, o = some a → HdOk P N a) (ob : HdOk P N b) : HdOk P N (updO o b) := by
  cases o with
  | none => exact ob
  | some a => exact meet_ok (ho a rfl) ((ho a rfl).len.trans ob.len.symm)
theorem updO_le {P N : Nat} {o : Option Hd} {b : Hd} (ho : ∀ a, o = some a → HdOk P N a) (ob : HdOk P N b) : leH (updO o b) b := by
  cases o with
  | none => exact .refl
  | some a => exact meet_le2 ((ho a rfl).len.trans ob.len.symm)
end PG
end
section
set_option linter.all false
set_option autoImplicit false
set_option maxRecDepth 100003
namespace PG
open PF
/-- what a paper hangs on -/
structure Pc where
  P : Nat
  N : Nat
  boxes : Int
  eaten : List Int
  rows : List Row
  gs : List Grp
  first : Hd
structure Pc.Ok (C : Pc) : Prop where
  rok : ∀ r ∈ C.rows, r.ok (C.P : Int) C.rows.length
  gn : C.gs.length = C.rows.length
  fok : HdOk C.P C.N C.first
  one : 1 ≤ C.rows.length
abbrev Tb := List (Option Hd)
def Pc.beh (C : Pc) (r : Row) (g : Grp) (h : Hd) : Hd := hbeh C.eaten C.boxes h r g
structure Sol (C : Pc) (T : Tb) : Prop where
  len : T.length = C.rows.length
  ok : ∀ (n : Nat) (h : Hd), T[n]? = some (some h) → HdOk C.P C.N h
  fst : ∃ h, T[0]? = some (some h) ∧ leH h C.first
  stp : ∀ (n : Nat) r g h, C.rows[n]? = some r → C.gs[n]? = some g → T[n]? = some (some h) → ∀ l ∈ leads n r, l < C.rows.length → ∃ h2, T[l.toNat]? = some (some h2) ∧ leH h2 (C.beh r g h)
def Abv (T U : Tb) : Prop := ∀ (n : Nat) (t : Hd), T[n]? = some (some t) → ∃ u, U[n]? = some (some u) ∧ leH u t
/-- a table under way -/
structure Tab (C : Pc) (T : Tb) : Prop where
  len : T.length = C.rows.length
  ok : ∀ (n : Nat) (h : Hd), T[n]? = some (some h) → HdOk C.P C.N h
  fst : ∃ h, T[0]? = some (some h) ∧ leH h C.first
  abv : ∀ U, Sol C U → Abv T U
theorem leads_in {C : Pc} (hC : C.Ok) {n : Nat} {r : Row} {l : Int} (er : C.rows[n]? = some r) (hl : l ∈ leads n r) : 0 ≤ l := by
  have := hC.rok r (List.mem_of_getElem? er)
  cases r with
  | fin => cases hl
  | go t => have e : l = t := by simpa [leads] using hl
            rw [e]; exact this.1
  | ife a t =>
    have e : l = n + 1 ∨ l = t := by simpa [leads] using hl
    rcases e with e | e
    · omega
    · rw [e]; exact this.2.1
  | _ =>
    have e : l = n + 1 := by simpa [leads] using hl
    omega
theorem beh_ok {C : Pc} (hC : C.Ok) {n : Nat} {r : Row} {g : Grp} {h : Hd} (er : C.rows[n]? = some r) (ok : HdOk C.P C.N h) : HdOk C.P C.N (C.beh r g h) := hbeh_ok ok (hC.rok r (List.mem_of_getElem? er))
/-- one entry met anew -/
theorem Tab.step {C : Pc} (hC : C.Ok) {T : Tb} {n : Nat} {r : Row} {g : Grp} {h h0 : Hd} {l : Int} {o : Option Hd} (hT : Tab C T) (er : C.rows[n]? = some r) (eg : C.gs[n]? = some g) (eh : ∃ t, T[n]? = some (some t) ∧ leH t h) (oh : HdOk C.P C.N h) (hl : l ∈ leads n r) (eo : T[l.toNat]? = some o) :
    Tab C (T.set l.toNat (some (updO o (C.beh r g h)))) := by
  have l0 := leads_in hC er hl
  have hlt : l.toNat < T.length := (List.getElem?_eq_some_iff.mp eo).1
  have ob := beh_ok (g := g) hC er oh
  have oo : ∀ a, o = some a → HdOk C.P C.N a := fun a e => hT.ok l.toNat a (by rw [eo, e])
  have onew := updO_ok oo ob
  have hle : ∀ a, o = some a → leH (updO o (C.beh r g h)) a := fun a e => by subst e; exact meet_le1 ((oo a rfl).len.trans ob.len.symm)
  refine ⟨by rw [List.length_set]; exact hT.len, fun m t e => ?_, ?_, fun U hU m t e => ?_⟩
  · rw [List.getElem?_set] at e
    split at e
    · injection e with e; injection e with e; rw [← e]; exact onew
    · exact hT.ok m t e
  · obtain ⟨f, e, lf⟩ := hT.fst
    rw [List.getElem?_set]
    by_cases c : l.toNat = 0
    · rw [if_pos c, if_pos (by omega)]
      rw [c, e] at eo
      refine ⟨_, rfl, (hle f ?_).trans lf⟩
      injection eo with eo
      exact eo.symm
    · rw [if_neg c]
      exact ⟨f, e, lf⟩
  · rw [List.getElem?_set] at e
    by_cases c : l.toNat = m
    · rw [if_pos c, if_pos (by omega)] at e
      injection e with e; injection e with e
      subst c
      obtain ⟨t0, et, lt0⟩ := eh
      obtain ⟨u, eu, lu⟩ := hT.abv U hU n t0 et
      have hlU : l < C.rows.length := by rw [← hT.len]; omega
      obtain ⟨u2, eu2, lu2⟩ := hU.stp n r g u er eg eu l hl hlU
      refine ⟨u2, eu2, ?_⟩
      rw [← e]
      have h3 : leH u2 (C.beh r g h) := lu2.trans (hbeh_mono (lu.trans lt0))
      cases o with
      | none => exact h3
      | some a =>
        obtain ⟨u3, eu3, lu3⟩ := hT.abv U hU l.toNat a eo
        rw [eu2] at eu3
        cases eu3
        exact le_meet lu3 h3
    · rw [if_neg c] at e
      exact hT.abv U hU m t e
/-- what is met just once more changes nothing -/
theorem upd_same {C : Pc} {T : Tb} {l : Int} {o : Option Hd} {b : Hd} (eo : T[l.toNat]? = some o) (e : some (updO o b) = o) : T.set l.toNat (some (updO o b)) = T := by
  rw [e]
  refine List.ext_getElem? fun i => ?_
  rw [List.getElem?_set]
  split
  · rename_i c
    subst c
    rw [if_pos (List.getElem?_eq_some_iff.mp eo).1, eo]
  · rfl
end PG
end
section
set_option linter.all false
set_option autoImplicit false
set_option maxRecDepth 100003
namespace PG
open PF
structure Gi (C : Pc) (T : Tb) (Q : List Int) : Prop where
  tab : Tab C T
  qs : ∀ x ∈ Q, 0 ≤ x ∧ ∃ h, T[x.toNat]? = some (some h)
  pend : ∀ (n : Nat) (r : Row) (g : Grp) (h : Hd), C.rows[n]? = some r → C.gs[n]? = some g → T[n]? = some (some h) → (n : Int) ∉ Q → ∀ l ∈ leads n r, l < C.rows.length → ∃ h2, T[l.toNat]? = some (some h2) ∧ leH h2 (C.beh r g h)
structure Gm (C : Pc) (q : Nat) (r : Row) (g : Grp) (h : Hd) (done : List Int) (T : Tb) (Q : List Int) : Prop where
  tab : Tab C T
  qs : ∀ x ∈ Q, 0 ≤ x ∧ ∃ h, T[x.toNat]? = some (some h)
  dn : ∀ l ∈ done, l < C.rows.length → ∃ h2, T[l.toNat]? = some (some h2) ∧ leH h2 (C.beh r g h)
  pend : ∀ (n : Nat) (r' : Row) (g' : Grp) (h' : Hd), n ≠ q → C.rows[n]? = some r' → C.gs[n]? = some g' → T[n]? = some (some h') → (n : Int) ∉ Q → ∀ l ∈ leads n r', l < C.rows.length → ∃ h2, T[l.toNat]? = some (some h2) ∧ leH h2 (C.beh r' g' h')
  cur : (q : Int) ∈ Q ∨ T[q]? = some (some h)
  low : ∃ t, T[q]? = some (some t) ∧ leH t h
section
variable {C : Pc} {T : Tb} {Q done : List Int} {q : Nat} {r : Row} {g : Grp} {h : Hd} {l : Int} {o : Option Hd}
theorem Gi.start (G : Gi C T ((q : Int) :: Q)) (e : T[q]? = some (some h)) : Gm C q r g h [] T Q :=
  ⟨G.tab, fun x hx => G.qs x (List.mem_cons_of_mem _ hx), fun _ h => (nomatch h), fun n r' g' h' ne er eg eh hn => G.pend n r' g' h' er eg eh fun m => by
    rcases List.mem_cons.mp m with m | m
    · exact ne (by omega)
    · exact hn m, .inr e, ⟨h, e, .refl⟩⟩
theorem Gm.oob (hC : C.Ok) (G : Gm C q r g h done T Q) (oh : HdOk C.P C.N h) (er : C.rows[q]? = some r) (eo : T[l.toNat]? = some o) : leH (updO o (C.beh r g h)) (C.beh r g h) :=
  updO_le (P := C.P) (N := C.N) (fun a e => G.tab.ok l.toNat a (by rw [eo, e])) (beh_ok hC er oh)
theorem Gm.same (hC : C.Ok) (G : Gm C q r g h done T Q) (oh : HdOk C.P C.N h) (er : C.rows[q]? = some r) (eo : T[l.toNat]? = some o) (e : some (updO o (C.beh r g h)) = o) : Gm C q r g h (done ++ [l]) T Q :=
  ⟨G.tab, G.qs, fun m hm hlt => by
    rcases List.mem_append.mp hm with hm | hm
    · exact G.dn m hm hlt
    · have : m = l := by simpa using hm
      subst this
      exact ⟨_, eo.trans (congrArg some e.symm), G.oob hC oh er eo⟩, G.pend, G.cur, G.low⟩
theorem Gm.fin (G : Gm C q r g h (leads q r) T Q) (er : C.rows[q]? = some r) (eg : C.gs[q]? = some g) : Gi C T Q :=
  ⟨G.tab, G.qs, fun n r' g' h' er' eg' eh' hn l hl hlt => by
    by_cases c : n = q
    · subst c
      rw [er] at er'
      rw [eg] at eg'
      cases er'
      cases eg'
      rcases G.cur with m | e
      · exact absurd m hn
      · rw [e] at eh'
        cases eh'
        exact G.dn l hl hlt
    · exact G.pend n r' g' h' c er' eg' eh' hn l hl hlt⟩
end
end PG
end
section
set_option linter.all false
set_option autoImplicit false
set_option maxRecDepth 100003
namespace PG
open PF
/-- the law's pairs tell what lies where -/
def PR (L : List (Int × Int)) (h : Hd) : Prop := L.Nodup ∧ ∀ p k, (p, k) ∈ L ↔ 0 ≤ p ∧ k ∈ h.getD p.toNat []
def flat (h : Hd) : List (Int × Int) := (List.range h.length).flatMap fun p => (h.getD p []).map fun k => ((p : Int), k)
def sw (a b p : Int) : Int := if p = a then b else if p = b then a else p
theorem sw_sw {a b p : Int} : sw a b (sw a b p) = p := by
  unfold sw
  by_cases h1 : p = a <;> by_cases h2 : p = b <;> simp [h1, h2] <;> (try omega) <;> (split <;> simp_all)
theorem turned {a b p : Int} : (dget (putAll [] [(.int a, .int b), (.int b, .int a)]) (.int p)).getD (.int p) = .int (sw a b p) := by
  unfold sw
  by_cases e : a = b
  · subst e
    have e1 : putAll [] [(D.int a, D.int a), (.int a, .int a)] = [(.int a, .int a)] := by simp [putAll, dput]
    rw [e1]
    by_cases e2 : p = a
    · subst e2; simp [dget]
    · simp [dget, e2, Ne.symm e2]
  · have e1 : putAll [] [(D.int a, D.int b), (.int b, .int a)] = [(.int a, .int b), (.int b, .int a)] := by simp [putAll, dput, e]
    rw [e1]
    by_cases e2 : p = a
    · subst e2; simp [dget]
    · by_cases e3 : p = b
      · subst e3; simp [dget, e2, Ne.symm e2]
      · simp [dget, e2, e3, Ne.symm e2, Ne.symm e3]
theorem PR.swap {L : List (Int × Int)} {h : Hd} {a b : Int} (hL : PR L h) (ha : In0 a h.length) (hb : In0 b h.length) : PR (L.map fun x => (sw a b x.1, x.2)) ((h.set a.toNat (h.getD b.toNat [])).set b.toNat (h.getD a.toNat [])) := by
  obtain ⟨a0, a1⟩ := ha
  obtain ⟨b0, b1⟩ := hb
  have inj : ∀ x y : Int × Int, (sw a b x.1, x.2) = (sw a b y.1, y.2) → x = y := fun x y e => by
    obtain ⟨e1, e2⟩ : sw a b x.1 = sw a b y.1 ∧ x.2 = y.2 := by simpa using e
    have := congrArg (sw a b) e1
    rw [sw_sw, sw_sw] at this
    exact Prod.ext this e2
  refine ⟨List.pairwise_map.mpr (hL.1.imp fun {x y} h e => h (inj x y e)), fun p k => ?_⟩
  · have e1 : (p, k) ∈ L.map (fun x => (sw a b x.1, x.2)) ↔ (sw a b p, k) ∈ L := by
      rw [List.mem_map]
      constructor
      · rintro ⟨x, hx, e⟩
        obtain ⟨rfl, rfl⟩ : sw a b x.1 = p ∧ x.2 = k := by simpa using e
        rw [sw_sw]
        exact hx
      · intro hx
        exact ⟨_, hx, by rw [sw_sw]⟩
    rw [e1, hL.2, getD_set, getD_set, List.length_set]
    unfold sw
    by_cases c1 : p = a
    · subst c1
      by_cases c2 : b = p
      · subst c2
        simp [a0, a1]
      · have c3 : ¬ b.toNat = p.toNat := by omega
        have : p.toNat < h.length := by omega
        simp [c3, a0, b0, this]
    · by_cases c2 : p = b
      · subst c2
        have : p.toNat < h.length := by omega
        simp [c1, a0, b0, this]
      · by_cases p0 : 0 ≤ p
        · have c3 : ¬ b.toNat = p.toNat := by omega
          have c4 : ¬ a.toNat = p.toNat := by omega
          simp [c1, c2, c3, c4]
        · simp [c1, c2, p0]
theorem PR.copy {L : List (Int × Int)} {h : Hd} {i j : Int} (hL : PR L h) (hi : In0 i h.length) (hj : 0 ≤ j) (ne : i ≠ j) : PR (L.filter (fun x => !(x.1 == i)) ++ (L.filter fun x => x.1 == j).map fun x => (i, x.2)) (h.set i.toNat (h.getD j.toNat [])) := by
  obtain ⟨i0, i1⟩ := hi
  refine ⟨?_, fun p k => ?_⟩
  · rw [List.nodup_append]
    have inj : ∀ x y : Int × Int, x ∈ L.filter (fun x => x.1 == j) → y ∈ L.filter (fun x => x.1 == j) → (i, x.2) = (i, y.2) → x = y := fun x y hx hy e => by
      have h1 : x.1 = j := by simpa using (List.mem_filter.mp hx).2
      have h2 : y.1 = j := by simpa using (List.mem_filter.mp hy).2
      have h3 : x.2 = y.2 := by simpa using e
      exact Prod.ext (h1.trans h2.symm) h3
    refine ⟨hL.1.filter _, List.pairwise_map.mpr ((hL.1.filter (fun x => x.1 == j)).imp_of_mem fun {x y} hx hy h e => h (inj x y hx hy e)), fun x hx y hy => ?_⟩
    · obtain ⟨z, _, rfl⟩ := List.mem_map.mp hy
      have h1 : x.1 ≠ i := by simpa using (List.mem_filter.mp hx).2
      intro e
      exact h1 (by rw [e])
  · have e1 : (p, k) ∈ (L.filter fun x => x.1 == j).map (fun x => (i, x.2)) ↔ i = p ∧ (j, k) ∈ L := by
      rw [List.mem_map]
      constructor
      · rintro ⟨x, hx, e⟩
        obtain ⟨rfl, rfl⟩ : i = p ∧ x.2 = k := by simpa using e
        have h1 : x.1 = j := by simpa using (List.mem_filter.mp hx).2
        refine ⟨rfl, ?_⟩
        rw [← h1]
        exact (List.mem_filter.mp hx).1
      · rintro ⟨rfl, hx⟩
        exact ⟨(j, k), List.mem_filter.mpr ⟨hx, by simp⟩, rfl⟩
    rw [List.mem_append, e1, List.mem_filter, hL.2, hL.2, getD_set]
    by_cases c : i = p
    · subst c
      have : i.toNat < h.length := by omega
      simp [this, i0, hj]
    · by_cases p0 : 0 ≤ p
      · have c3 : ¬ i.toNat = p.toNat := by omega
        simp [c, Ne.symm c, c3, p0]
      · simp [c, p0]
theorem PR.same {L : List (Int × Int)} {h : Hd} {i : Int} (hL : PR L h) : PR L (h.set i.toNat (h.getD i.toNat [])) := by
  refine ⟨hL.1, fun p k => ?_⟩
  rw [hL.2, getD_set]
  split
  · rename_i c
    rw [c.1]
  · rfl
end PG
end
section
set_option linter.all false
set_option autoImplicit false
set_option maxRecDepth 100003
namespace PF
/-- [f x for x in xs if p x], where nothing changes -/
theorem comp_fm {α : Type} {S : Sto} {ρ : Env} {it : Iter} {g : G} {t : T} {e : E} {φ f : α → D} {p : α → Bool} {xs : List α} (σ : α → Env) (ea : it.all = xs.map φ) (hs : it.same S = true) (hg : ∀ x ∈ xs, g (φ x) ρ = some (σ x))
    (ht : ∀ x ∈ xs, ∀ P : Bool → Sto → Prop, wp (t (σ x) S) P = P (p x) S) (he : ∀ x ∈ xs, ∀ P : D → Sto → Prop, wp (e (σ x) S) P = P (f x) S) :
    wp (compLoop it g t e ρ it.all S) fun ys S' => ys = (xs.filter p).map f ∧ S' = S := by
  refine wp_mono (wp_loop (it := it) (fun k acc S' => acc = ((xs.take k).filter p).map f ∧ S' = S) (fun k acc S' h => by rw [h.2]; exact hs) ?_ ⟨rfl, rfl⟩) ?_
  · rintro k x acc S1 hx ⟨rfl, rfl⟩
    rw [ea, List.getElem?_map] at hx
    cases e2 : xs[k]? with
    | none => rw [e2] at hx; cases hx
    | some v =>
      rw [e2] at hx
      cases hx
      have hm := List.mem_of_getElem? e2
      refine ⟨_, hg v hm, ?_⟩
      rw [ht v hm]
      have e3 : xs.take (k + 1) = xs.take k ++ [v] := by rw [List.take_add_one, e2]; rfl
      cases hp : p v with
      | true =>
        rw [if_pos rfl, he v hm]
        refine ⟨?_, rfl⟩
        rw [e3, List.filter_append, List.map_append]
        simp [hp]
      | false =>
        rw [if_neg (by simp)]
        refine ⟨?_, rfl⟩
        rw [e3, List.filter_append]
        simp [hp]
  · rintro ys S1 ⟨rfl, rfl⟩
    refine ⟨?_, rfl⟩
    rw [ea, List.length_map, List.take_length]
end PF
namespace PG
open PF
end PG
end
section
set_option linter.all false
set_option autoImplicit false
set_option maxRecDepth 100003
namespace PF
/-- s begins nowhere in p, whether p ends there or s follows it -/
def Free (s p : List Nat) : Prop := ∀ i, i < p.length → ∀ q, (q = [] ∨ ∃ q2, q = s ++ q2) → ((p ++ q).drop i).take s.length ≠ s
theorem Free.tail {s r : List Nat} {c : Nat} (h : Free s (c :: r)) : Free s r := fun i hi q hq => h (i + 1) (by simp; omega) q hq
theorem joinL_cons {a p : List Nat} {ps : List (List Nat)} (h : ps ≠ []) : joinL a (p :: ps) = p ++ (a ++ joinL a ps) := by
  cases ps with
  | nil => exact absurd rfl h
  | cons q r => rfl
theorem joinL_len {a : List Nat} : ∀ (ys : List (List Nat)), (joinL a ys).length ≤ (ys.map (·.length)).sum + ys.length * a.length
  | [] => Nat.zero_le _
  | [p] => by show p.length ≤ _; simp
  | p :: q :: r => by
    have := joinL_len (a := a) (q :: r)
    show (p ++ (a ++ joinL a (q :: r))).length ≤ _
    rw [List.length_append, List.length_append, List.map_cons, List.sum_cons, List.length_cons, Nat.succ_mul]
    omega
theorem mem_joinL {a : List Nat} {c : Nat} : ∀ {ys : List (List Nat)}, c ∈ joinL a ys → c ∈ a ∨ ∃ y ∈ ys, c ∈ y
  | [], h => nomatch h
  | [p], h => .inr ⟨p, List.mem_cons_self, h⟩
  | p :: q :: r, h => by
    have h : c ∈ p ++ (a ++ joinL a (q :: r)) := h
    rcases List.mem_append.mp h with h | h
    · exact .inr ⟨p, List.mem_cons_self, h⟩
    · rcases List.mem_append.mp h with h | h
      · exact .inl h
      · rcases mem_joinL h with h | ⟨y, hy, h⟩
        · exact .inl h
        · exact .inr ⟨y, List.mem_cons_of_mem _ hy, h⟩
theorem sum_le {ys : List (List Nat)} {k : Nat} (h : ∀ y ∈ ys, y.length ≤ k) : (ys.map (·.length)).sum ≤ ys.length * k := by
  induction ys with
  | nil => simp
  | cons y ys ih =>
    rw [List.map_cons, List.sum_cons, List.length_cons, Nat.succ_mul]
    have := ih fun z hz => h z (List.mem_cons_of_mem _ hz)
    have := h y List.mem_cons_self
    omega
def numGood (n : Nat) : Bool :=
  let s := (Nat.toDigits 10 n).map Char.toNat
  decide (1 ≤ s.length ∧ s.length ≤ 3) && (s.all fun c => decide (48 ≤ c ∧ c ≤ 57)) && (digVal s == n) && (s.headD 0 != 48 || s == [48])
theorem num_all : (List.range 1000).all numGood = true := by decide +kernel
structure NumOk (i : Int) (s : List Nat) : Prop where
  l1 : 1 ≤ s.length
  l3 : s.length ≤ 3
  dig : ∀ c ∈ s, 48 ≤ c ∧ c ≤ 57
  val : ((digVal s : Nat) : Int) = i
  hd : s.headD 0 ≠ 48 ∨ s = [48]
theorem num_ok {i : Int} (h : 0 ≤ i ∧ i < 1000) : NumOk i (strI i) := by
  obtain ⟨n, rfl⟩ : ∃ n : Nat, i = (n : Int) := ⟨i.toNat, by omega⟩
  have hn := List.all_eq_true.mp num_all n (List.mem_range.mpr (by omega))
  rw [strI_nat]
  unfold numGood at hn
  simp only [Bool.and_eq_true, Bool.or_eq_true, decide_eq_true_eq, beq_iff_eq, bne_iff_ne, List.all_eq_true] at hn
  obtain ⟨⟨⟨h1, h2⟩, h3⟩, h4⟩ := hn
  exact ⟨h1.1, h1.2, h2, by rw [h3], h4⟩
theorem num_not {i : Int} (h : 0 ≤ i ∧ i < 1000) {c : Nat} (hc : c < 48 ∨ 57 < c) : c ∉ strI i := fun m => by
  have := (num_ok h).dig c m
  omega
end PF
namespace PG
open PF
theorem v_itxt {S : Sto} {ρ : Env} {P : Iter → Sto → Prop} {i : Nat} {s : List Nat} (h : ρ[i]? = some (some (.str s))) : wp (iTxt (eVar i) ρ S) P = P ⟨[], charsD s⟩ S := by
  unfold iTxt
  rw [wp_bind, w_var h]
  simp only [wp_ok]
theorem w_lenS {S : Sto} {P : D → Sto → Prop} {s : List Nat} (h : s.length ≤ LIM) : wp (fLen [.str s] S) P = P (.int (s.length : Nat)) S := by
  unfold fLen
  simp only [if_pos h, wp_ok]
theorem w_intT {S : Sto} {P : D → Sto → Prop} {s : List Nat} (h : s ≠ [] ∧ s.length ≤ 640 ∧ (s.all fun c => decide (48 ≤ c ∧ c ≤ 57)) = true) : wp (fIntT [.str s] S) P = P (.int (digVal s : Nat)) S := by
  unfold fIntT
  simp only [if_pos h, wp_ok]
end PG
end
section
set_option linter.all false
set_option autoImplicit false
set_option maxRecDepth 100003
namespace PF
theorem strsOf_map : ∀ ys : List (List Nat), strsOf (ys.map D.str) = some ys
  | [] => rfl
  | y :: ys => by
    show (strsOf (ys.map D.str)).map (y :: ·) = _
    rw [strsOf_map ys]
    rfl
theorem v_s1 {S : Sto} {ρ : Env} {P : D → Sto → Prop} {g : D → D → M D} {o a : E} : wp (eS1 g o a ρ S) P = wp (o ρ S) fun x S => isS x = true ∧ wp (a ρ S) fun y S => wp (g x y S) P := by
  unfold eS1
  rw [wp_bind]
  congr
  funext x S
  by_cases h : isS x = true
  · rw [if_pos h, wp_bind, h]
    simp
  · rw [if_neg h]
    simp [h, wp_bad]
theorem w_join {S : Sto} {P : D → Sto → Prop} {a : List Nat} {y : D} {ys : List (List Nat)} (h : seqOf y S = some (ys.map .str)) (hl : (ys.map (·.length)).sum + ys.length * a.length ≤ LIM) : wp (mJoin (.str a) y S) P = P (.str (joinL a ys)) S := by
  unfold mJoin
  simp only [h, strsOf_map, if_pos hl, wp_ok]
theorem w_split {S : Sto} {P : D → Sto → Prop} {a b : List Nat} (h1 : b ≠ []) (h2 : (b.all fun c => decide (c < 256)) = true) (h3 : a.length + 2 ≤ LIM) : wp (mSplit (.str a) (.str b) S) P = P (.ref S.length) (S ++ [.lst ((spl b 0 [] a).map .str)]) := by
  unfold mSplit
  simp only [if_pos (And.intro h1 (And.intro h2 h3)), alloc, wp_ok]
end PF
namespace PG
open PF
abbrev sp : List Nat := [32]
abbrev nl : List Nat := [10]
def Row.nums : Row → List Int
  | .put d k => [d, k]
  | .copy d a => [d, a]
  | .op _ d a b => [d, a, b]
  | .call d a => [d, a]
  | .say a => [a]
  | .ife a r => [a, r]
  | .go r => [r]
  | .fin => []
theorem row_D (r : Row) : r.D = .tup (.str r.w :: r.nums.map .int) := by
  cases r <;> rfl
theorem row_small {r : Row} {names many : Int} (h : r.ok names many) (hn : names ≤ 8) (hm : many ≤ 24) : ∀ i ∈ r.nums, 0 ≤ i ∧ i < 1000 := by
  intro i hi
  cases r <;> simp only [Row.nums, List.mem_cons, List.not_mem_nil, or_false] at hi <;> simp only [Row.ok, In0] at h
  all_goals first | (rcases hi with rfl | rfl | rfl <;> omega) | (rcases hi with rfl | rfl <;> omega) | (subst hi; omega) | exact hi.elim
/-- the words of a row -/
def words (r : Row) : List (List Nat) := r.w :: r.nums.map strI
def rowT (r : Row) : List Nat := joinL sp (words r)
theorem w_mem (r : Row) : r.w ∈ [z_put, z_copy, z_add, z_take, z_less, z_call, z_say, z_if, z_go, z_end] := by
  cases r with
  | op o _ _ _ => cases o <;> simp [Row.w, Op3.s]
  | _ => simp [Row.w]
theorem w_sign {r : Row} {c : Nat} (h : c ∈ r.w) : 97 ≤ c ∧ c ≤ 122 := by
  have all : ∀ w ∈ [z_put, z_copy, z_add, z_take, z_less, z_call, z_say, z_if, z_go, z_end], ∀ c ∈ w, 97 ≤ c ∧ c ≤ 122 := by decide
  exact all _ (w_mem r) c h
theorem w_length {r : Row} : 1 ≤ r.w.length ∧ r.w.length ≤ 4 := by
  have all : ∀ w ∈ [z_put, z_copy, z_add, z_take, z_less, z_call, z_say, z_if, z_go, z_end], 1 ≤ w.length ∧ w.length ≤ 4 := by decide
  exact all _ (w_mem r)
theorem words_sign {r : Row} (hs : ∀ i ∈ r.nums, 0 ≤ i ∧ i < 1000) {w : List Nat} (hw : w ∈ words r) {c : Nat} (hc : c ∈ w) : 48 ≤ c := by
  unfold words at hw
  rcases List.mem_cons.mp hw with rfl | hw
  · have := w_sign hc; omega
  · obtain ⟨i, hi, rfl⟩ := List.mem_map.mp hw
    exact ((num_ok (hs i hi)).dig c hc).1
theorem words_small {r : Row} (hs : ∀ i ∈ r.nums, 0 ≤ i ∧ i < 1000) : ∀ w ∈ words r, w.length ≤ 4 := by
  intro w hw
  unfold words at hw
  rcases List.mem_cons.mp hw with rfl | hw
  · exact w_length.2
  · obtain ⟨i, hi, rfl⟩ := List.mem_map.mp hw
    have := (num_ok (hs i hi)).l3
    omega
theorem words_many (r : Row) : (words r).length ≤ 4 := by cases r <;> simp [words, Row.nums]
theorem join_bound {a : List Nat} {ys : List (List Nat)} {k n : Nat} (h : ∀ y ∈ ys, y.length ≤ k) (hn : ys.length ≤ n) (hl : n * k + n * a.length ≤ LIM) : (ys.map (·.length)).sum + ys.length * a.length ≤ LIM := by
  have h1 := sum_le h
  have h2 : ys.length * k ≤ n * k := Nat.mul_le_mul_right k hn
  have h3 : ys.length * a.length ≤ n * a.length := Nat.mul_le_mul_right _ hn
  omega
theorem joinL_bound {a : List Nat} {ys : List (List Nat)} {k n : Nat} (h : ∀ y ∈ ys, y.length ≤ k) (hn : ys.length ≤ n) : (joinL a ys).length ≤ n * k + n * a.length := by
  have h0 := joinL_len (a := a) ys
  have h1 := sum_le h
  have h2 : ys.length * k ≤ n * k := Nat.mul_le_mul_right k hn
  have h3 : ys.length * a.length ≤ n * a.length := Nat.mul_le_mul_right _ hn
  omega
theorem rowT_len {r : Row} (hs : ∀ i ∈ r.nums, 0 ≤ i ∧ i < 1000) : (rowT r).length ≤ 20 := joinL_bound (k := 4) (n := 4) (words_small hs) (words_many r)
theorem rowT_no10 {r : Row} (hs : ∀ i ∈ r.nums, 0 ≤ i ∧ i < 1000) : 10 ∉ rowT r := fun h => by
  rcases mem_joinL h with h | ⟨w, hw, h⟩
  · simp at h
  · have := words_sign hs hw h; omega
theorem w_gslL {S : Sto} {P : D → Sto → Prop} {n : Nat} {ds : List D} {lo hi : Option Int} (h : lstOf n S = some ds) : wp (gSlice (.ref n) lo hi S) P = P (.ref S.length) (S ++ [.lst (cut ds lo hi)]) := by
  unfold gSlice
  simp only [h, alloc, wp_ok]
theorem cut_tail {d : D} {ds : List D} : cut (d :: ds) (some 1) none = ds := by
  unfold cut sIx
  simp only [show ¬ ((1 : Int) < 0) by decide, if_false, List.length_cons]
  have e : min (Int.toNat 1) (ds.length + 1) = 1 := by show min 1 (ds.length + 1) = 1; omega
  rw [e, List.drop_succ_cons, List.drop_zero, List.take_of_length_le (by omega)]
end PG
end
section
set_option linter.all false
set_option autoImplicit false
set_option maxRecDepth 100003
namespace PG
open PF
def strA : D → D
  | .int i => .str (strI i)
  | d => d
theorem w_strA {S : Sto} {P : D → Sto → Prop} {d : D} (h : (∃ s, d = .str s) ∨ ∃ i : Int, d = .int i ∧ 0 ≤ i ∧ i < 1000) : wp (fStrA [d] S) P = P (strA d) S := by
  rcases h with ⟨s, rfl⟩ | ⟨i, rfl, h⟩
  · exact wp_ok
  · unfold fStrA
    have c : -(2 ^ 60) < i ∧ i < 2 ^ 60 := by omega
    simp only [if_pos c, wp_ok]
    rfl
/-- " ".join([str(part) for part in row]) -/
theorem row_text {S : Sto} {ρ : Env} {i j : Nat} {r : Row} (hi : ρ[i]? = some (some r.D)) (hij : j ≠ i) (hj : j < ρ.length) (hs : ∀ i ∈ r.nums, 0 ≤ i ∧ i < 1000) :
    wp (eS1 mJoin (eC (.str z__)) (eComp (iSeq (eVar i)) [j] (PF.gName j) tYes (eCall fStrA (aCons (eVar j) aNil))) ρ S) fun d S' => d = .str (rowT r) ∧ Keep [] S S' := by
  rw [v_s1, w_c]
  refine ⟨rfl, ?_⟩
  simp only [w_comp, v_iseq, w_var hi, row_D, seqOf, chkOf, on_some, wipe]
  refine wp_mono (comp_mapK (it := ⟨[], .str r.w :: r.nums.map .int⟩) (xs := .str r.w :: r.nums.map .int) (φ := fun d => d) (f := strA) (by simp) (fun _ _ => rfl) fun d hd S1 k1 => ?_) ?_
  · have e : ((ρ.set j none).set j (some d))[j]? = some (some d) := by simp [hj]
    rw [w_call, w_cons, w_var e, w_nil, w_strA]
    · exact ⟨rfl, .refl⟩
    · rcases List.mem_cons.mp hd with rfl | hd
      · exact .inl ⟨_, rfl⟩
      · obtain ⟨n, hn, rfl⟩ := List.mem_map.mp hd
        exact .inr ⟨n, rfl, hs n hn⟩
  rintro _ S1 ⟨rfl, k1⟩
  have hnl : r.nums.length ≤ 3 := by cases r <;> simp [Row.nums]
  refine ⟨by simp only [List.length_map, List.length_cons]; exact lim_le (by omega), ?_⟩
  have ew : (D.str r.w :: r.nums.map D.int).map strA = (words r).map .str := by
    unfold words
    simp only [List.map_cons, List.map_map]
    rfl
  rw [ew]
  have g : (S1 ++ [MO.lst ((words r).map D.str)])[S1.length]? = some (.lst ((words r).map .str)) := get_last
  rw [w_join (ys := words r) (show seqOf (.ref S1.length) _ = _ from lstOf_lst g) (join_bound (words_small hs) (words_many r) (by unfold LIM; decide))]
  exact ⟨rfl, k1.trans .app⟩
def headT (params names : Int) : List Nat := joinL sp [z_params, strI params, z_names, strI names]
def progT (params names : Int) (rows : List Row) : List Nat := joinL nl (headT params names :: rows.map rowT)
theorem lines_small {params names : Int} {rows : List Row} (hP : ProgOk params names rows) : ∀ y ∈ headT params names :: rows.map rowT, y.length ≤ 40 ∧ 10 ∉ y := by
  have h0 := hP.pr
  have h1 := hP.nm
  have h2 := hP.ln
  have n1 := num_ok (i := params) (by omega)
  have n2 := num_ok (i := names) (by omega)
  intro y hy
  rcases List.mem_cons.mp hy with rfl | hy
  · constructor
    · have := joinL_len (a := sp) [z_params, strI params, z_names, strI names]
      have l1 := n1.l3
      have l2 := n2.l3
      simp at this
      unfold headT
      omega
    · intro m
      rcases mem_joinL m with m | ⟨w, hw, m⟩
      · simp at m
      · simp only [List.mem_cons, List.not_mem_nil, or_false] at hw
        rcases hw with rfl | rfl | rfl | rfl
        · exact absurd m (by decide)
        · exact num_not (i := params) (by omega) (.inl (by decide)) m
        · exact absurd m (by decide)
        · exact num_not (i := names) (by omega) (.inl (by decide)) m
  · obtain ⟨r, hr, rfl⟩ := List.mem_map.mp hy
    have hs := row_small (hP.ok r hr) h1.2 (by omega)
    exact ⟨by have := rowT_len hs; omega, rowT_no10 hs⟩
theorem progT_len {params names : Int} {rows : List Row} (hP : ProgOk params names rows) : (progT params names rows).length ≤ 25 * 40 + 25 * 1 := joinL_bound (a := nl) (fun y hy => (lines_small hP y hy).1) (by have := hP.ln; simp; omega)
theorem lines_join {params names : Int} {rows : List Row} (hP : ProgOk params names rows) : ((headT params names :: rows.map rowT).map (·.length)).sum + (headT params names :: rows.map rowT).length * nl.length ≤ LIM :=
  join_bound (fun y hy => (lines_small hP y hy).1) (n := 25) (by have := hP.ln; simp; omega) (by unfold LIM; decide)
theorem written_spec {S : Sto} {params names : Int} {rows : List Row} (hP : ProgOk params names rows) : wp (f_written [progD params names rows] S) fun d S' => d = .str (progT params names rows) ∧ Keep [] S S' := by
  have h0 := hP.pr
  have h1 := hP.nm
  have h2 := hP.ln
  have fp : progD params names rows = .tup [.int params, .int names, .tup (rows.map Row.D)] := rfl
  have p0 : ∀ (S : Sto) (Q : D → Sto → Prop), wp (gIx (progD params names rows) (.int 0) S) Q = Q (.int params) S := fun S Q => by simp_arith [fp, at0]
  have p1 : ∀ (S : Sto) (Q : D → Sto → Prop), wp (gIx (progD params names rows) (.int 1) S) Q = Q (.int names) S := fun S Q => by simp_arith [fp, at_1]
  have p2 : ∀ (S : Sto) (Q : D → Sto → Prop), wp (gIx (progD params names rows) (.int 2) S) Q = Q (.tup (rows.map Row.D)) S := fun S Q => by simp_arith [fp, at_2]
  unfold f_written b_written
  rw [w_fn]
  refine ⟨by simp, ?_⟩
  simp only [List.map_cons, List.map_nil, List.length_cons, List.length_nil, Nat.zero_add, Nat.reduceAdd, Nat.reduceSub, List.replicate_succ, List.replicate_zero, List.cons_append, List.nil_append]
  rw [w_seq]
  simp only [w_expr, w_call, w_cons, w_nil, v_var, List.getElem?_cons_zero, on_some]
  refine wp_mono (need_program_spec hP) ?_
  rintro _ S1 ⟨rfl, k1⟩
  rw [w_seq]
  simp only [w_set, v_s1, w_c, w_lst, w_cons, w_nil, w_call, w_e2, v_var, List.getElem?_cons_zero, on_some, p0, p1, w_str (show -(2 ^ 60) < params ∧ params < 2 ^ 60 by omega), w_str (show -(2 ^ 60) < names ∧ names < 2 ^ 60 by omega), List.set_cons_succ, List.set_cons_zero]
  refine ⟨rfl, ?_⟩
  have g2 : (S1 ++ [MO.lst [D.str z_params, .str (strI params), .str z_names, .str (strI names)]])[S1.length]? = some (.lst ([z_params, strI params, z_names, strI names].map D.str)) := get_last
  have n1 := (num_ok (i := params) (by omega)).l3
  have n2 := (num_ok (i := names) (by omega)).l3
  rw [w_join (ys := [z_params, strI params, z_names, strI names]) (show seqOf (.ref S1.length) _ = _ from lstOf_lst g2) (by simp; unfold LIM; omega)]
  have k2 : Keep [] S (S1 ++ [MO.lst [D.str z_params, .str (strI params), .str z_names, .str (strI names)]]) := k1.trans .app
  generalize S1 ++ [MO.lst [D.str z_params, .str (strI params), .str z_names, .str (strI names)]] = S2 at *
  show wp _ _
  have eh : joinL z__ [z_params, strI params, z_names, strI names] = headT params names := rfl
  rw [eh]
  simp only [w_ret, v_s1, w_c, w_e2, w_lst, w_cons, w_nil, v_var, List.getElem?_cons_zero, List.getElem?_cons_succ, on_some, w_comp, v_iseq, p2, seqOf, chkOf, wipe, List.set_cons_succ, List.set_cons_zero]
  refine ⟨rfl, ?_⟩
  have g3 : (S2 ++ [MO.lst [D.str (headT params names)]])[S2.length]? = some (.lst [D.str (headT params names)]) := get_last
  have k3 : Keep [] S (S2 ++ [MO.lst [D.str (headT params names)]]) := k2.trans .app
  generalize S2.length = hr at *
  generalize S2 ++ [MO.lst [D.str (headT params names)]] = S3 at *
  refine wp_mono (comp_mapK (it := ⟨[], rows.map Row.D⟩) (xs := rows) (φ := Row.D) (f := fun r => .str (rowT r)) rfl (fun _ _ => rfl) fun r hr S4 k4 => ?_) ?_
  · exact row_text (r := r) rfl (by decide) (by simp) (row_small (hP.ok r hr) h1.2 (by omega))
  rintro _ S4 ⟨rfl, k4⟩
  refine ⟨by rw [List.length_map]; exact lim_le (by omega), ?_⟩
  have g4 := get_app (U := [MO.lst (rows.map fun r => D.str (rowT r))]) (k4.at g3 (by simp))
  have g5 : (S4 ++ [MO.lst (rows.map fun r => D.str (rowT r))])[S4.length]? = some (.lst (rows.map fun r => D.str (rowT r))) := get_last
  rw [w_addL, wrOf_lst g4, on_some, wrOf_lst g5, on_some]
  refine ⟨by simp only [List.length_cons, List.length_nil, List.length_map]; exact lim_le (by omega), ?_⟩
  have el : [D.str (headT params names)] ++ (rows.map fun r => D.str (rowT r)) = (headT params names :: rows.map rowT).map D.str := by simp
  rw [el]
  have g6 : ((S4 ++ [MO.lst (rows.map fun r => D.str (rowT r))]) ++ [MO.lst ((headT params names :: rows.map rowT).map D.str)])[(S4 ++ [MO.lst (rows.map fun r => D.str (rowT r))]).length]? = some (.lst ((headT params names :: rows.map rowT).map D.str)) := get_last
  rw [w_join (ys := headT params names :: rows.map rowT) (show seqOf (.ref _) _ = _ from lstOf_lst g6) (lines_join hP)]
  exact ⟨rfl, ((k3.trans k4).trans .app).trans .app⟩
end PG
end
section
set_option linter.all false
set_option autoImplicit false
set_option maxRecDepth 100003
namespace PG
open PF
theorem w_every {S : Sto} {ρ : Env} {P : D → Sto → Prop} {a : E} {lo : O} {n : Nat} {ds : List D} {k : Nat} (ha : ∀ Q : D → Sto → Prop, wp (a ρ S) Q = Q (.ref n) S) (hl : ∀ Q : Option Int → Sto → Prop, wp (lo ρ S) Q = Q (if k = 0 then none else some (k : Int)) S) (h : S[n]? = some (.lst ds)) :
    wp (eEvery a lo ρ S) P = P (.ref S.length) (S ++ [.lst (every2 (ds.drop k))]) := by
  unfold eEvery
  rw [wp_bind, ha, wp_bind, hl]
  unfold gEvery
  simp only [lstOf_lst h]
  by_cases c : k = 0
  · subst c
    simp only [if_true, Option.getD_none, Int.le_refl, alloc, wp_ok]
    rfl
  · rw [if_neg c]
    simp only [Option.getD_some, if_pos (show (0 : Int) ≤ (k : Int) by omega), alloc, wp_ok, Int.toNat_natCast]
theorem enum_map : ∀ (k : Nat) (ds : List D) (i : Nat) (d : D), (enumD k ds)[i]? = some d → ∃ e, ds[i]? = some e ∧ d = .tup [.int ((k + i : Nat) : Int), e]
  | _, [], _, _, h => by simp [enumD] at h
  | k, x :: xs, 0, d, h => by
    simp [enumD] at h
    exact ⟨x, rfl, h.symm⟩
  | k, x :: xs, i + 1, d, h => by
    simp only [enumD, List.getElem?_cons_succ] at h
    obtain ⟨e, h1, h2⟩ := enum_map (k + 1) xs i d h
    exact ⟨e, by simpa using h1, by rw [h2, show k + 1 + i = k + (i + 1) by omega]⟩
theorem enumD_length : ∀ (k : Nat) (ds : List D), (enumD k ds).length = ds.length
  | _, [] => rfl
  | k, x :: xs => by simp [enumD, enumD_length (k + 1) xs]
end PG
end
section
set_option linter.all false
set_option autoImplicit false
set_option maxRecDepth 100003
namespace PG
open PF
/-- a tree that is like itself -/
def alOk : Nat → D → Bool
  | 0, _ => false
  | _ + 1, .ref _ => false
  | k + 1, .tup ds => decide (ds.length < 2 ^ 62) && ds.all (alOk k)
  | _ + 1, _ => true
theorem al_flat {S : Sto} : ∀ {k : Nat} {d : D}, alOk k d = true → Ev k d d S
  | 0, _, h => by cases h
  | k + 1, .non, _ => al_non
  | k + 1, .bl _, _ => al_bl
  | k + 1, .int _, _ => al_int
  | k + 1, .str _, _ => al_str
  | k + 1, .ref _, h => by cases h
  | k + 1, .tup ds, h => by
    simp only [alOk, Bool.and_eq_true, decide_eq_true_eq, List.all_eq_true] at h
    exact al_tup rfl h.1 fun i a b ha hb => by
      rw [ha] at hb
      cases hb
      exact al_flat (h.2 a (List.mem_of_getElem? ha))
theorem alOk_mono : ∀ {k : Nat} {d : D}, alOk k d = true → alOk (k + 1) d = true
  | 0, _, h => by cases h
  | k + 1, .non, _ => rfl
  | k + 1, .bl _, _ => rfl
  | k + 1, .int _, _ => rfl
  | k + 1, .str _, _ => rfl
  | k + 1, .ref _, h => by cases h
  | k + 1, .tup ds, h => by
    simp only [alOk, Bool.and_eq_true, decide_eq_true_eq, List.all_eq_true] at h ⊢
    exact ⟨h.1, fun d hd => alOk_mono (h.2 d hd)⟩
theorem alOk_le {k m : Nat} {d : D} (h : alOk k d = true) (l : k ≤ m) : alOk m d = true := by
  induction l with
  | refl => exact h
  | step _ ih => exact alOk_mono ih
theorem alOk_tup {k : Nat} {ds : List D} (hl : ds.length < 2 ^ 62) (h : ∀ d ∈ ds, alOk k d = true) : alOk (k + 1) (.tup ds) = true := by
  simp only [alOk, Bool.and_eq_true, decide_eq_true_eq, List.all_eq_true]
  exact ⟨hl, h⟩
theorem alOk_map {k : Nat} {α : Type} {f : α → D} {xs : List α} (hl : xs.length < 2 ^ 62) (h : ∀ x ∈ xs, alOk k (f x) = true) : alOk (k + 1) (.tup (xs.map f)) = true :=
  alOk_tup (by rw [List.length_map]; exact hl) fun d hd => by
    obtain ⟨x, hx, rfl⟩ := List.mem_map.mp hd
    exact h x hx
theorem alOk_row (r : Row) : alOk 2 r.D = true := by
  cases r with
  | op o _ _ _ => cases o <;> rfl
  | _ => rfl
theorem alOk_prog {params names : Int} {rows : List Row} (h : rows.length ≤ 1000) : alOk 4 (progD params names rows) = true := by
  refine alOk_tup (show 3 < 2 ^ 62 by decide) fun d hd => ?_
  simp only [List.mem_cons, List.not_mem_nil, or_false] at hd
  rcases hd with rfl | rfl | rfl
  · rfl
  · rfl
  · exact alOk_map (by omega) fun r _ => alOk_row r
end PG
end
section
set_option linter.all false
set_option autoImplicit false
set_option maxRecDepth 100003
set_option linter.all false
set_option maxHeartbeats 0
namespace PF
def wpx {α : Type} (o : Out α) (Q : α → Sto → Prop) (R : Exc → Sto → Prop) : Prop := match o with
  | .ok a S => Q a S
  | .err e S => R e S
  | .bad => False
section
variable {α β : Type} {o : Out α} {Q Q' : α → Sto → Prop} {R R' : Exc → Sto → Prop} {S : Sto} {ρ : Env}
theorem wy_of (h : wp o Q) : wpx o Q R := by
  obtain ⟨a, S, e, q⟩ := h
  subst e
  exact q
theorem wy_mono (h : wpx o Q R) (k : ∀ a S, Q a S → Q' a S) (k2 : ∀ e S, R e S → R' e S) : wpx o Q' R' := by
  cases o with
  | ok a S => exact k _ _ h
  | err e S => exact k2 _ _ h
  | bad => exact h
theorem wy_bind {k : α → M β} {P : β → Sto → Prop} : wpx (o.bind k) P R = wpx o (fun a S => wpx (k a S) P R) R := by
  cases o <;> rfl
variable {Z : Fl × Env → Sto → Prop} {P : D → Sto → Prop}
theorem wy_seq {a b : St} : wpx (sSeq a b ρ S) Z R = wpx (a ρ S) (fun r S => match r.1 with
    | .nx => wpx (b r.2 S) Z R
    | f => Z (f, r.2) S) R := by
  unfold sSeq
  rw [wy_bind]
  congr
  funext r S
  cases r.1 <;> rfl
theorem wy_sif {t : T} {a b : St} (h : wp (t ρ S) fun c S => if c = true then wpx (a ρ S) Z R else wpx (b ρ S) Z R) : wpx (sIf t a b ρ S) Z R := by
  unfold sIf
  rw [wy_bind]
  refine wy_of (wp_mono h ?_)
  intro c S h
  split <;> simp_all
theorem wy_raise {c : Nat} {a : A} (h : wp (a ρ S) fun xs S => R ⟨c, xs.head?⟩ S) : wpx (sRaise c a ρ S) Z R := by
  unfold sRaise
  rw [wy_bind]
  exact wy_of h
theorem wy_expr {a : E} (h : wpx (a ρ S) (fun _ S => Z (.nx, ρ) S) R) : wpx (sExpr a ρ S) Z R := by
  unfold sExpr
  rw [wy_bind]
  exact wy_mono h (fun _ _ h => h) (fun _ _ h => h)
theorem wy_call {f : Fn} {a : A} (h : wp (a ρ S) fun xs S => wpx (f xs S) P R) : wpx (eCall f a ρ S) P R := by
  unfold eCall
  rw [wy_bind]
  exact wy_of h
theorem wy_fn {n : Nat} {b : St} {xs : List D} (h : xs.length ≤ n ∧ wpx (b (xs.map some ++ List.replicate (n - xs.length) none) S) (fun r S => match r.1 with
    | .nx => P .non S
    | .rt d => P d S
    | _ => False) R) : wpx (fn n b xs S) P R := by
  unfold fn
  rw [if_pos h.1, wy_bind]
  refine wy_mono h.2 ?_ fun _ _ h => h
  intro r S h
  split at h <;> simp_all [wpx]
theorem wy_sfor {i : I} {g : G} {b : St} (h : wp (i ρ S) fun it S => wpx (forLoop it g b it.all ρ S) Z R) : wpx (sFor i g b ρ S) Z R := by
  unfold sFor
  rw [wy_bind]
  exact wy_of h
theorem wy_for {it : Iter} {g : G} {b : St} (J : Nat → Env → Sto → Prop) (hs : ∀ k ρ S, J k ρ S → it.same S = true)
    (step : ∀ k x ρ S, it.all[k]? = some x → J k ρ S → ∃ ρ1, g x ρ = some ρ1 ∧ wpx (b ρ1 S) (fun r S1 => r.1 = .nx ∧ J (k + 1) r.2 S1) R)
    (h0 : J 0 ρ S) (hd : ∀ ρ S, J it.all.length ρ S → Z (.nx, ρ) S) : wpx (forLoop it g b it.all ρ S) Z R := by
  have key : ∀ (xs : List D) (k : Nat) (ρ : Env) (S : Sto), it.all = it.all.take k ++ xs → k + xs.length = it.all.length → J k ρ S → wpx (forLoop it g b xs ρ S) Z R := by
    intro xs
    induction xs with
    | nil =>
      intro k ρ S e1 e2 h
      unfold forLoop
      rw [if_pos (hs _ _ _ h)]
      have : k = it.all.length := by simpa using e2
      rw [this] at h
      exact hd _ _ h
    | cons x xs ih =>
      intro k ρ S e1 e2 h
      have hx : it.all[k]? = some x := by
        have hk : (it.all.take k).length = k := by
          rw [List.length_take]
          rw [List.length_cons] at e2
          omega
        rw [e1, List.getElem?_append_right (by rw [hk]; exact Nat.le_refl _), hk, Nat.sub_self]
        rfl
      have e1' : it.all = it.all.take (k + 1) ++ xs := by
        rw [List.take_add_one, hx, List.append_assoc]
        exact e1
      obtain ⟨ρ1, eg, w⟩ := step k x ρ S hx h
      unfold forLoop
      rw [if_pos (hs _ _ _ h), eg]
      simp only [wy_bind]
      refine wy_mono w (fun r S1 w1 => ?_) fun _ _ h => h
      have el : k + 1 + xs.length = it.all.length := by rw [List.length_cons] at e2; omega
      rw [w1.1]
      exact ih (k + 1) _ S1 e1' el w1.2
  exact key it.all 0 ρ S (by simp) (by simp) h0
theorem wy_told {tabs : List (Nat × Nat)} {f : E} (ht : tabs.all (fun p => decide (S[p.1]? = some (.ins p.2 []))) = true) (h : wpx (f ρ S) P fun e S => wp (tellX e S) P) : wp (eTold tabs f ρ S) P := by
  unfold eTold
  rw [if_pos ht]
  cases e : f ρ S with
  | ok d S1 => rw [e] at h; exact ⟨d, S1, rfl, h⟩
  | err x S1 => rw [e] at h; exact h
  | bad => rw [e] at h; exact h.elim
theorem tell16 {r : D} : wp (tellX ⟨16, some r⟩ S) P = P (.tup [.str [66, 97, 100, 84, 101, 120, 116], r]) S := wp_ok
theorem tell15 {r : D} : wp (tellX ⟨15, some r⟩ S) P = P (.tup [.str [66, 97, 100, 80, 114, 111, 103, 114, 97, 109], r]) S := wp_ok
end
end PF
namespace PG
open PF
instance {n m : Int} {r : Row} : Decidable (r.ok n m) := by
  cases r <;> (unfold Row.ok In0; infer_instance)
theorem num_res {S : Sto} {P : D → Sto → Prop} {i lo hi : Int} : wp (f_is_number [.int i, .int lo, .int hi] S) P = P (.bl (decide (lo ≤ i ∧ i ≤ hi))) S := by
  unfold f_is_number b_is_number
  by_cases h1 : lo ≤ i
  · by_cases h2 : i ≤ hi
    · simp_arith [h1, h2, true_and]
    · simp_arith [h1, h2, true_and]
  · simp_arith [h1, false_and]
theorem eq_nil1 {S : Sto} {a : Int} : eqF ((S ++ [MO.lst [.int a]]) ++ [MO.lst []]) (.ref S.length) (.ref (S ++ [MO.lst [.int a]]).length) = some false :=
  eq_ints (L := [a]) (M := []) (lstOf_app get_last) (by rw [lstOf_len]; rfl)
theorem eq_nil2 {S : Sto} {a b : Int} : eqF ((S ++ [MO.lst [.int a, .int b]]) ++ [MO.lst []]) (.ref S.length) (.ref (S ++ [MO.lst [.int a, .int b]]).length) = some false :=
  eq_ints (L := [a, b]) (M := []) (lstOf_app get_last) (by rw [lstOf_len]; rfl)
theorem eq_nil3 {S : Sto} {a b c : Int} : eqF ((S ++ [MO.lst [.int a, .int b, .int c]]) ++ [MO.lst []]) (.ref S.length) (.ref (S ++ [MO.lst [.int a, .int b, .int c]]).length) = some false :=
  eq_ints (L := [a, b, c]) (M := []) (lstOf_app get_last) (by rw [lstOf_len]; rfl)
theorem is_row_res {S : Sto} {names many : Int} {row : Row} : wp (f_is_row [row.D, .int names, .int many] S) fun d S' => d = .bl (decide (row.ok names many)) ∧ Keep [] S S' := by
  unfold f_is_row b_is_row
  have K : ∀ U V W : List MO, Keep [] S (((S ++ U) ++ V) ++ W) := fun U V W => .trans (.trans .app .app) .app
  cases row with
  | put d k =>
    have e : decide (Row.ok names many (.put d k)) = decide ((0 ≤ d ∧ d ≤ names - 1) ∧ (0 ≤ k ∧ k ≤ 999)) := decide_eq_decide.mpr (by unfold Row.ok In0; constructor <;> omega)
    rw [e]
    (simp_arith [Row.D, at0, sh_put, sh_copy, sh_call, sh_say, sh_if, sh_go, sh_end, Option.getD_some, reduceCtorEq, v_lenSs (show z_dn.length ≤ 1000 by decide), v_lenSs (show z_da.length ≤ 1000 by decide), v_lenSs (show z_a.length ≤ 1000 by decide), v_lenSs (show z_ar.length ≤ 1000 by decide), v_lenSs (show z_r.length ≤ 1000 by decide), v_lenSs (show z_empty.length ≤ 1000 by decide), w_dict, w_evnil, w_evcons, keyOk, range0, range1, range2, range3])
    refine ⟨by decide, ?_⟩
    by_cases hd : 0 ≤ d ∧ d ≤ names - 1 <;> by_cases hk : 0 ≤ k ∧ k ≤ 999 <;> (simp_arith [w_ccons, w_cnil, same_nil, at0, at_1, at_2, at_3, v_ixSs (show z_dn.length ≤ 1000 by decide), v_ixSs (show z_da.length ≤ 1000 by decide), v_ixSs (show z_daa.length ≤ 1000 by decide), v_ixSs (show z_a.length ≤ 1000 by decide), v_ixSs (show z_ar.length ≤ 1000 by decide), v_ixSs (show z_r.length ≤ 1000 by decide), v_dx (show keyOk (.str z_d) = true from rfl), v_dx (show keyOk (.str z_a) = true from rfl), v_dx (show keyOk (.str z_n) = true from rfl), v_dx (show keyOk (.str z_r) = true from rfl), dicOf_len, dicOf_0, most_d, most_a, most_n, most_r, Nat.zero_le, eq_nils, num_res, hd, hk, eq_nil1, eq_nil2, eq_nil3]) <;> first | exact K _ _ _ | exact ⟨by simp, K _ _ _⟩ | exact ⟨by decide, K _ _ _⟩ | exact ⟨by decide, by simp, K _ _ _⟩ | exact ⟨by decide, by decide, K _ _ _⟩
  | copy d a =>
    have e : decide (Row.ok names many (.copy d a)) = decide ((0 ≤ d ∧ d ≤ names - 1) ∧ (0 ≤ a ∧ a ≤ names - 1)) := decide_eq_decide.mpr (by unfold Row.ok In0; constructor <;> omega)
    rw [e]
    (simp_arith [Row.D, at0, sh_put, sh_copy, sh_call, sh_say, sh_if, sh_go, sh_end, Option.getD_some, reduceCtorEq, v_lenSs (show z_dn.length ≤ 1000 by decide), v_lenSs (show z_da.length ≤ 1000 by decide), v_lenSs (show z_a.length ≤ 1000 by decide), v_lenSs (show z_ar.length ≤ 1000 by decide), v_lenSs (show z_r.length ≤ 1000 by decide), v_lenSs (show z_empty.length ≤ 1000 by decide), w_dict, w_evnil, w_evcons, keyOk, range0, range1, range2, range3])
    refine ⟨by decide, ?_⟩
    by_cases hd : 0 ≤ d ∧ d ≤ names - 1 <;> by_cases ha : 0 ≤ a ∧ a ≤ names - 1 <;> (simp_arith [w_ccons, w_cnil, same_nil, at0, at_1, at_2, at_3, v_ixSs (show z_dn.length ≤ 1000 by decide), v_ixSs (show z_da.length ≤ 1000 by decide), v_ixSs (show z_daa.length ≤ 1000 by decide), v_ixSs (show z_a.length ≤ 1000 by decide), v_ixSs (show z_ar.length ≤ 1000 by decide), v_ixSs (show z_r.length ≤ 1000 by decide), v_dx (show keyOk (.str z_d) = true from rfl), v_dx (show keyOk (.str z_a) = true from rfl), v_dx (show keyOk (.str z_n) = true from rfl), v_dx (show keyOk (.str z_r) = true from rfl), dicOf_len, dicOf_0, most_d, most_a, most_n, most_r, Nat.zero_le, eq_nils, num_res, hd, ha, eq_nil1, eq_nil2, eq_nil3]) <;> first | exact K _ _ _ | exact ⟨by simp, K _ _ _⟩ | exact ⟨by decide, K _ _ _⟩ | exact ⟨by decide, by simp, K _ _ _⟩ | exact ⟨by decide, by decide, K _ _ _⟩
  | op o d a b =>
    have e : decide (Row.ok names many (.op o d a b)) = decide ((0 ≤ d ∧ d ≤ names - 1) ∧ (0 ≤ a ∧ a ≤ names - 1) ∧ (0 ≤ b ∧ b ≤ names - 1)) := decide_eq_decide.mpr (by unfold Row.ok In0; constructor <;> omega)
    rw [e]
    have e2 : dget t_SHAPES (.str o.s) = some (.str z_daa) := by cases o <;> decide +kernel
    (simp_arith [Row.D, at0, e2, Option.getD_some, reduceCtorEq, v_lenSs (show z_daa.length ≤ 1000 by decide), w_dict, w_evnil, w_evcons, keyOk, range0, range1, range2, range3])
    refine ⟨by decide, ?_⟩
    by_cases hd : 0 ≤ d ∧ d ≤ names - 1 <;> by_cases ha : 0 ≤ a ∧ a ≤ names - 1 <;> by_cases hb : 0 ≤ b ∧ b ≤ names - 1 <;> (simp_arith [w_ccons, w_cnil, same_nil, at0, at_1, at_2, at_3, v_ixSs (show z_dn.length ≤ 1000 by decide), v_ixSs (show z_da.length ≤ 1000 by decide), v_ixSs (show z_daa.length ≤ 1000 by decide), v_ixSs (show z_a.length ≤ 1000 by decide), v_ixSs (show z_ar.length ≤ 1000 by decide), v_ixSs (show z_r.length ≤ 1000 by decide), v_dx (show keyOk (.str z_d) = true from rfl), v_dx (show keyOk (.str z_a) = true from rfl), v_dx (show keyOk (.str z_n) = true from rfl), v_dx (show keyOk (.str z_r) = true from rfl), dicOf_len, dicOf_0, most_d, most_a, most_n, most_r, Nat.zero_le, eq_nils, num_res, hd, ha, hb, eq_nil1, eq_nil2, eq_nil3]) <;> first | exact K _ _ _ | exact ⟨by simp, K _ _ _⟩ | exact ⟨by decide, K _ _ _⟩ | exact ⟨by decide, by simp, K _ _ _⟩ | exact ⟨by decide, by decide, K _ _ _⟩
  | call d a =>
    have e : decide (Row.ok names many (.call d a)) = decide ((0 ≤ d ∧ d ≤ names - 1) ∧ (0 ≤ a ∧ a ≤ names - 1)) := decide_eq_decide.mpr (by unfold Row.ok In0; constructor <;> omega)
    rw [e]
    (simp_arith [Row.D, at0, sh_put, sh_copy, sh_call, sh_say, sh_if, sh_go, sh_end, Option.getD_some, reduceCtorEq, v_lenSs (show z_dn.length ≤ 1000 by decide), v_lenSs (show z_da.length ≤ 1000 by decide), v_lenSs (show z_a.length ≤ 1000 by decide), v_lenSs (show z_ar.length ≤ 1000 by decide), v_lenSs (show z_r.length ≤ 1000 by decide), v_lenSs (show z_empty.length ≤ 1000 by decide), w_dict, w_evnil, w_evcons, keyOk, range0, range1, range2, range3])
    refine ⟨by decide, ?_⟩
    by_cases hd : 0 ≤ d ∧ d ≤ names - 1 <;> by_cases ha : 0 ≤ a ∧ a ≤ names - 1 <;> (simp_arith [w_ccons, w_cnil, same_nil, at0, at_1, at_2, at_3, v_ixSs (show z_dn.length ≤ 1000 by decide), v_ixSs (show z_da.length ≤ 1000 by decide), v_ixSs (show z_daa.length ≤ 1000 by decide), v_ixSs (show z_a.length ≤ 1000 by decide), v_ixSs (show z_ar.length ≤ 1000 by decide), v_ixSs (show z_r.length ≤ 1000 by decide), v_dx (show keyOk (.str z_d) = true from rfl), v_dx (show keyOk (.str z_a) = true from rfl), v_dx (show keyOk (.str z_n) = true from rfl), v_dx (show keyOk (.str z_r) = true from rfl), dicOf_len, dicOf_0, most_d, most_a, most_n, most_r, Nat.zero_le, eq_nils, num_res, hd, ha, eq_nil1, eq_nil2, eq_nil3]) <;> first | exact K _ _ _ | exact ⟨by simp, K _ _ _⟩ | exact ⟨by decide, K _ _ _⟩ | exact ⟨by decide, by simp, K _ _ _⟩ | exact ⟨by decide, by decide, K _ _ _⟩
  | say a =>
    have e : decide (Row.ok names many (.say a)) = decide ((0 ≤ a ∧ a ≤ names - 1)) := decide_eq_decide.mpr (by unfold Row.ok In0; constructor <;> omega)
    rw [e]
    (simp_arith [Row.D, at0, sh_put, sh_copy, sh_call, sh_say, sh_if, sh_go, sh_end, Option.getD_some, reduceCtorEq, v_lenSs (show z_dn.length ≤ 1000 by decide), v_lenSs (show z_da.length ≤ 1000 by decide), v_lenSs (show z_a.length ≤ 1000 by decide), v_lenSs (show z_ar.length ≤ 1000 by decide), v_lenSs (show z_r.length ≤ 1000 by decide), v_lenSs (show z_empty.length ≤ 1000 by decide), w_dict, w_evnil, w_evcons, keyOk, range0, range1, range2, range3])
    refine ⟨by decide, ?_⟩
    by_cases ha : 0 ≤ a ∧ a ≤ names - 1 <;> (simp_arith [w_ccons, w_cnil, same_nil, at0, at_1, at_2, at_3, v_ixSs (show z_dn.length ≤ 1000 by decide), v_ixSs (show z_da.length ≤ 1000 by decide), v_ixSs (show z_daa.length ≤ 1000 by decide), v_ixSs (show z_a.length ≤ 1000 by decide), v_ixSs (show z_ar.length ≤ 1000 by decide), v_ixSs (show z_r.length ≤ 1000 by decide), v_dx (show keyOk (.str z_d) = true from rfl), v_dx (show keyOk (.str z_a) = true from rfl), v_dx (show keyOk (.str z_n) = true from rfl), v_dx (show keyOk (.str z_r) = true from rfl), dicOf_len, dicOf_0, most_d, most_a, most_n, most_r, Nat.zero_le, eq_nils, num_res, ha, eq_nil1, eq_nil2, eq_nil3]) <;> first | exact K _ _ _ | exact ⟨by simp, K _ _ _⟩ | exact ⟨by decide, K _ _ _⟩ | exact ⟨by decide, by simp, K _ _ _⟩ | exact ⟨by decide, by decide, K _ _ _⟩
  | ife a r =>
    have e : decide (Row.ok names many (.ife a r)) = decide ((0 ≤ a ∧ a ≤ names - 1) ∧ (0 ≤ r ∧ r ≤ many - 1)) := decide_eq_decide.mpr (by unfold Row.ok In0; constructor <;> omega)
    rw [e]
    (simp_arith [Row.D, at0, sh_put, sh_copy, sh_call, sh_say, sh_if, sh_go, sh_end, Option.getD_some, reduceCtorEq, v_lenSs (show z_dn.length ≤ 1000 by decide), v_lenSs (show z_da.length ≤ 1000 by decide), v_lenSs (show z_a.length ≤ 1000 by decide), v_lenSs (show z_ar.length ≤ 1000 by decide), v_lenSs (show z_r.length ≤ 1000 by decide), v_lenSs (show z_empty.length ≤ 1000 by decide), w_dict, w_evnil, w_evcons, keyOk, range0, range1, range2, range3])
    refine ⟨by decide, ?_⟩
    by_cases ha : 0 ≤ a ∧ a ≤ names - 1 <;> by_cases hr : 0 ≤ r ∧ r ≤ many - 1 <;> (simp_arith [w_ccons, w_cnil, same_nil, at0, at_1, at_2, at_3, v_ixSs (show z_dn.length ≤ 1000 by decide), v_ixSs (show z_da.length ≤ 1000 by decide), v_ixSs (show z_daa.length ≤ 1000 by decide), v_ixSs (show z_a.length ≤ 1000 by decide), v_ixSs (show z_ar.length ≤ 1000 by decide), v_ixSs (show z_r.length ≤ 1000 by decide), v_dx (show keyOk (.str z_d) = true from rfl), v_dx (show keyOk (.str z_a) = true from rfl), v_dx (show keyOk (.str z_n) = true from rfl), v_dx (show keyOk (.str z_r) = true from rfl), dicOf_len, dicOf_0, most_d, most_a, most_n, most_r, Nat.zero_le, eq_nils, num_res, ha, hr, eq_nil1, eq_nil2, eq_nil3]) <;> first | exact K _ _ _ | exact ⟨by simp, K _ _ _⟩ | exact ⟨by decide, K _ _ _⟩ | exact ⟨by decide, by simp, K _ _ _⟩ | exact ⟨by decide, by decide, K _ _ _⟩
  | go r =>
    have e : decide (Row.ok names many (.go r)) = decide ((0 ≤ r ∧ r ≤ many - 1)) := decide_eq_decide.mpr (by unfold Row.ok In0; constructor <;> omega)
    rw [e]
    (simp_arith [Row.D, at0, sh_put, sh_copy, sh_call, sh_say, sh_if, sh_go, sh_end, Option.getD_some, reduceCtorEq, v_lenSs (show z_dn.length ≤ 1000 by decide), v_lenSs (show z_da.length ≤ 1000 by decide), v_lenSs (show z_a.length ≤ 1000 by decide), v_lenSs (show z_ar.length ≤ 1000 by decide), v_lenSs (show z_r.length ≤ 1000 by decide), v_lenSs (show z_empty.length ≤ 1000 by decide), w_dict, w_evnil, w_evcons, keyOk, range0, range1, range2, range3])
    refine ⟨by decide, ?_⟩
    by_cases hr : 0 ≤ r ∧ r ≤ many - 1 <;> (simp_arith [w_ccons, w_cnil, same_nil, at0, at_1, at_2, at_3, v_ixSs (show z_dn.length ≤ 1000 by decide), v_ixSs (show z_da.length ≤ 1000 by decide), v_ixSs (show z_daa.length ≤ 1000 by decide), v_ixSs (show z_a.length ≤ 1000 by decide), v_ixSs (show z_ar.length ≤ 1000 by decide), v_ixSs (show z_r.length ≤ 1000 by decide), v_dx (show keyOk (.str z_d) = true from rfl), v_dx (show keyOk (.str z_a) = true from rfl), v_dx (show keyOk (.str z_n) = true from rfl), v_dx (show keyOk (.str z_r) = true from rfl), dicOf_len, dicOf_0, most_d, most_a, most_n, most_r, Nat.zero_le, eq_nils, num_res, hr, eq_nil1, eq_nil2, eq_nil3]) <;> first | exact K _ _ _ | exact ⟨by simp, K _ _ _⟩ | exact ⟨by decide, K _ _ _⟩ | exact ⟨by decide, by simp, K _ _ _⟩ | exact ⟨by decide, by decide, K _ _ _⟩
  | fin =>
    (simp_arith [Row.D, at0, sh_put, sh_copy, sh_call, sh_say, sh_if, sh_go, sh_end, Option.getD_some, reduceCtorEq, v_lenSs (show z_dn.length ≤ 1000 by decide), v_lenSs (show z_da.length ≤ 1000 by decide), v_lenSs (show z_a.length ≤ 1000 by decide), v_lenSs (show z_ar.length ≤ 1000 by decide), v_lenSs (show z_r.length ≤ 1000 by decide), v_lenSs (show z_empty.length ≤ 1000 by decide), w_dict, w_evnil, w_evcons, keyOk, range0, range1, range2, range3])
    refine ⟨by decide, ?_⟩
    (simp_arith [w_ccons, w_cnil, same_nil, at0, at_1, at_2, at_3, v_ixSs (show z_dn.length ≤ 1000 by decide), v_ixSs (show z_da.length ≤ 1000 by decide), v_ixSs (show z_daa.length ≤ 1000 by decide), v_ixSs (show z_a.length ≤ 1000 by decide), v_ixSs (show z_ar.length ≤ 1000 by decide), v_ixSs (show z_r.length ≤ 1000 by decide), v_dx (show keyOk (.str z_d) = true from rfl), v_dx (show keyOk (.str z_a) = true from rfl), v_dx (show keyOk (.str z_n) = true from rfl), v_dx (show keyOk (.str z_r) = true from rfl), dicOf_len, dicOf_0, most_d, most_a, most_n, most_r, Nat.zero_le, eq_nils])
    exact ⟨congrArg D.bl (decide_eq_true (show Row.ok names many .fin from trivial)).symm, K _ _ _⟩
def firstBad (names many : Int) : Nat → List Row → Option Int
  | _, [] => none
  | k, r :: rs => if 24 ≤ k ∨ ¬ r.ok names many then some (k : Int) else firstBad names many (k + 1) rs
def npRes (params names : Int) (rows : List Row) : Option Int :=
  if ¬ (1 ≤ names ∧ names ≤ 8) ∨ ¬ (0 ≤ params ∧ params ≤ names) ∨ rows = [] then some (-1) else firstBad names (min rows.length 24 : Nat) 0 rows
theorem need_program_res {S : Sto} {params names : Int} {rows : List Row} (hl : rows.length ≤ 10000) : wpx (f_need_program [progD params names rows] S) (fun d S' => npRes params names rows = none ∧ Keep [] S S')
    fun e S' => ∃ r, npRes params names rows = some r ∧ e = ⟨15, some (.int r)⟩ ∧ Keep [] S S' := by
  unfold f_need_program b_need_program progD
  refine wy_fn ⟨by simp, ?_⟩
  simp only [List.map_cons, List.map_nil, List.length_cons, List.length_nil, Nat.zero_add, Nat.reduceAdd, Nat.reduceSub, List.replicate_succ, List.replicate_zero, List.cons_append, List.nil_append]
  rw [wy_seq]
  refine wy_sif ?_
  by_cases n : ¬ (1 ≤ names ∧ names ≤ 8)
  · simp_arith [at_1, num_res, n, decide_false]
    refine wy_raise ?_
    simp_arith []
    exact ⟨-1, if_pos (.inl n), rfl, .refl⟩
  have n' := Decidable.not_not.mp n
  simp_arith [at_1, num_res, n', decide_true]
  refine wy_of ?_
  simp_arith []
  rw [wy_seq]
  refine wy_of ?_
  simp_arith []
  rw [wy_seq]
  refine wy_sif ?_
  by_cases p : ¬ (0 ≤ params ∧ params ≤ names)
  · simp_arith [at_1, num_res, p, decide_false]
    refine wy_raise ?_
    simp_arith []
    exact ⟨-1, if_pos (.inr (.inl p)), rfl, .refl⟩
  have p' := Decidable.not_not.mp p
  simp_arith [at_1, num_res, p', decide_true]
  by_cases c : rows = []
  · subst c
    have z : (((([] : List Row).map Row.D).length : Int) == 0) = true := rfl
    simp_arith [z]
    refine wy_raise ?_
    simp_arith []
    exact ⟨-1, if_pos (.inr (.inr rfl)), rfl, .refl⟩
  have z : (((rows.map Row.D).length : Int) == 0) = false := by
    rw [List.length_map, beq_eq_false_iff_ne]
    have := List.length_pos_iff.mpr c
    omega
  have enp : npRes params names rows = firstBad names (min rows.length 24 : Nat) 0 rows := if_neg (by rintro (h | h | h) <;> contradiction)
  simp_arith [z]
  refine wy_of ?_
  simp_arith []
  refine wy_sfor ?_
  simp_arith [seqZ, chkOf]
  refine wy_for (it := ⟨[], enumD 0 (rows.map Row.D)⟩) (fun k ρ S' => firstBad names (min rows.length 24 : Nat) 0 rows = firstBad names (min rows.length 24 : Nat) k (rows.drop k) ∧ Keep [] S S' ∧ ∃ c1 c2, ρ = [some (progD params names rows), some (.int params), some (.int names), some (.tup (rows.map Row.D)), c1, c2]) (fun _ _ _ _ => rfl) ?_ ⟨rfl, .refl, none, none, rfl⟩ ?_
  · rintro k x ρ S1 hx ⟨k0, k1, c1, c2, rfl⟩
    obtain ⟨d, e, rfl⟩ := enumD_get hx
    rw [List.getElem?_map] at e
    cases e2 : rows[k]? with
    | none => rw [e2] at e; cases e
    | some row =>
      rw [e2] at e
      cases e
      have hk : k < rows.length := (List.getElem?_eq_some_iff.mp e2).1
      have ed : rows.drop k = row :: rows.drop (k + 1) := by
        rw [List.drop_eq_getElem_cons hk, (List.getElem?_eq_some_iff.mp e2).2]
      rw [ed] at k0
      have hm : (if (24 : Int) < ((rows.map Row.D).length : Int) then (24 : Int) else ((rows.map Row.D).length : Int)) = ((min rows.length 24 : Nat) : Int) := by rw [List.length_map]; split <;> omega
      refine ⟨_, rfl, ?_⟩
      refine wy_sif ?_
      by_cases c24 : 24 ≤ k
      · have c24' : (24 : Int) ≤ (k : Int) := by omega
        simp_arith [c24']
        refine wy_raise ?_
        simp_arith []
        exact ⟨k, by rw [enp, k0, firstBad, if_pos (.inl c24)], by simp, k1⟩
      have c24' : ¬ (24 : Int) ≤ (k : Int) := by omega
      simp_arith [c24', hm]
      refine wp_mono (is_row_res) ?_
      rintro _ S2 ⟨rfl, k2⟩
      by_cases ok : row.ok names (min rows.length 24 : Nat)
      · simp_arith [ok]
        refine wy_of ?_
        simp_arith []
        rw [firstBad, if_neg (by rintro (h | h); exact c24 h; exact h ok)] at k0
        exact ⟨k0, k1.trans k2, _, _, rfl⟩
      · simp_arith [ok]
        refine wy_raise ?_
        simp_arith []
        exact ⟨k, by rw [enp, k0, firstBad, if_pos (.inr ok)], by simp, k1.trans k2⟩
  · rintro ρ S1 ⟨k0, k1, _⟩
    have el : (Iter.mk [] (enumD 0 (rows.map Row.D))).all.length = rows.length := by show (enumD 0 (rows.map Row.D)).length = _; rw [enumD_len, List.length_map]
    rw [el, List.drop_length] at k0
    exact ⟨enp.trans k0, k1⟩
end PG
end
section
set_option linter.all false
set_option autoImplicit false
set_option maxRecDepth 100003
set_option linter.all false
set_option maxHeartbeats 0
namespace PG
open PF
def dig (c : Nat) : Bool := decide (48 ≤ c ∧ c ≤ 57)
def numOf (w : List Nat) : Option Int := if (1 ≤ w.length ∧ w.length ≤ 3) ∧ w.all dig = true ∧ (w.headD 0 ≠ 48 ∨ w = [48]) then some ((digVal w : Nat) : Int) else none
def onD : Option Int → D
  | none => .non
  | some i => .int i
/-- small and of signs -/
def Tx (w : List Nat) : Prop := ∀ c ∈ w, c < 1114112
theorem fig_res {S : Sto} {c : Nat} : inB (.str [c]) (.str z_0123456789) S = some (dig c) := by
  show some (z_0123456789.contains c) = _
  congr 1
  by_cases h : 48 ≤ c ∧ c ≤ 57
  · obtain rfl | rfl | rfl | rfl | rfl | rfl | rfl | rfl | rfl | rfl : c = 48 ∨ c = 49 ∨ c = 50 ∨ c = 51 ∨ c = 52 ∨ c = 53 ∨ c = 54 ∨ c = 55 ∨ c = 56 ∨ c = 57 := by omega
    all_goals rfl
  · rw [dig, decide_eq_false h, Bool.eq_false_iff]
    intro e
    simp [z_0123456789] at e
    omega
theorem tree_str {S : Sto} {n : Nat} {y : List Nat} (h : Tx y) : tree S n (.str y) = some (.str y) := by
  cases n <;> simp only [tree, if_pos (List.all_eq_true.mpr fun c hc => decide_eq_true (h c hc))]
theorem strs_trees {S : Sto} {n : Nat} : ∀ {ys : List (List Nat)}, (∀ y ∈ ys, Tx y) → allSome (tree S n) (ys.map D.str) = some (ys.map J.str)
  | [], _ => rfl
  | y :: ys, h => by
    simp only [List.map_cons, allSome, tree_str (h y List.mem_cons_self), strs_trees (ys := ys) fun z hz => h z (List.mem_cons_of_mem _ hz)]
theorem eq_strs_nil {S : Sto} {a b : Nat} {ys : List (List Nat)} (ha : lstOf a S = some (ys.map .str)) (hb : lstOf b S = some []) (h : ∀ y ∈ ys, Tx y) : eqF S (.ref a) (.ref b) = some (ys.isEmpty) := by
  show eqT S (.ref a) (.ref b) = _
  unfold eqT
  have ea : tree S EQD (.ref a) = some (.lst (ys.map J.str)) := by
    show tree S (39 + 1) (.ref a) = _
    simp only [tree, ha, strs_trees h]
  have eb : tree S EQD (.ref b) = some (.lst []) := by
    show tree S (39 + 1) (.ref b) = _
    simp only [tree, hb, allSome]
  rw [ea, eb]
  cases ys <;> rfl
/-- the looking at a word's signs, as both have it -/
def stNum (e : E) : St := sSeq (sIf (PF.tOr (PF.tNot (tE (eChain gLe gLe (eC (.int 1)) (eCall fLen (aCons (eVar 0) (aNil))) (eC (.int 3))))) (tE (e2 gNe (eComp (iTxt (eVar 0)) [1] (PF.gName 1) (tE (e2 gNotIn (eVar 1) (eC (.str z_0123456789)))) (eVar 1)) (eLst (aNil))))) (sRet (eC .non)) (sNext))
  (sRet e)
theorem num_walk {S : Sto} {e : E} {w : List Nat} {P : D → Sto → Prop} (hl : w.length ≤ LIM) (hc : Tx w) (h0 : ¬ ((1 ≤ w.length ∧ w.length ≤ 3) ∧ w.all dig = true) → ∀ S', Keep [] S S' → P .non S')
    (h1 : 1 ≤ w.length → w.length ≤ 3 → w.all dig = true → ∀ S', Keep [] S S' → wp (e [some (.str w), none] S') P) : wp (fn 2 (stNum e) [.str w] S) P := by
  unfold stNum
  rw [w_fn]
  refine ⟨by simp, ?_⟩
  simp only [List.map_cons, List.map_nil, List.length_cons, List.length_nil, Nat.zero_add, Nat.reduceAdd, Nat.reduceSub, List.replicate_succ, List.replicate_zero, List.cons_append, List.nil_append]
  rw [w_seq]
  simp only [w_sif, w_tor, w_tnot, w_te, w_chain, w_c, w_call, w_cons, w_nil, v_var, List.getElem?_cons_succ, List.getElem?_cons_zero, on_some, w_lenS hl, w_le, ex_bl]
  by_cases l1 : ¬ 1 ≤ w.length
  · rw [if_neg (show ¬ decide (1 ≤ ((w.length : Nat) : Int)) = true by simp; omega)]
    simp only [Bool.not_false, if_true, w_ret, w_c]
    exact h0 (fun h => l1 h.1.1) _ .refl
  rw [if_pos (show decide (1 ≤ ((w.length : Nat) : Int)) = true by simp; omega)]
  by_cases l3 : ¬ w.length ≤ 3
  · rw [if_pos (show (!decide (((w.length : Nat) : Int) ≤ 3)) = true by simp; omega)]
    simp only [if_true, w_ret, w_c]
    exact h0 (fun h => l3 h.1.2) _ .refl
  rw [if_neg (show ¬ (!decide (((w.length : Nat) : Int) ≤ 3)) = true by simp; omega)]
  have vt : ∀ P : Iter → Sto → Prop, wp (iTxt (eVar 0) [some (.str w), none] S) P = P ⟨[], charsD w⟩ S := fun P => v_itxt rfl
  simp only [w_e2, w_comp, vt, wipe, List.set_cons_succ, List.set_cons_zero]
  refine wp_mono (comp_fm (it := ⟨[], charsD w⟩) (φ := fun c => .str [c]) (p := fun c => !dig c) (f := fun c => .str [c]) (xs := w) (fun c => [some (.str w), some (.str [c])]) rfl rfl (fun _ _ => rfl) (fun c hc P => ?_) fun c hc P => ?_) ?_
  · simp only [w_te, w_e2, w_c, v_var, List.getElem?_cons_succ, List.getElem?_cons_zero, on_some]
    rw [v_notIn, fig_res, on_some]
    simp only [ex_bl]
  · exact w_var rfl
  rintro _ S1 ⟨rfl, rfl⟩
  have e0 : (w.filter fun c => !dig c).map (fun c => D.str [c]) = ((w.filter fun c => !dig c).map (fun c => [c])).map D.str := by rw [List.map_map]; rfl
  rw [e0]
  have hh : ∀ y ∈ (w.filter fun c => !dig c).map (fun c => [c]), Tx y := by
    intro y hy
    obtain ⟨c, hc1, rfl⟩ := List.mem_map.mp hy
    intro d hd
    rw [List.mem_singleton.mp hd]
    exact hc c (List.mem_filter.mp hc1).1
  have hlen : (((w.filter fun c => !dig c).map (fun c => [c])).map D.str).length ≤ LIM := by
    rw [List.length_map, List.length_map]
    exact Nat.le_trans (List.length_filter_le _ _) hl
  refine ⟨hlen, ?_⟩
  have emp : ((w.filter fun c => !dig c).map (fun c => [c])).isEmpty = w.all dig := by
    cases ha : w.all dig with
    | true =>
      have : (w.filter fun c => !dig c) = [] := List.filter_eq_nil_iff.mpr fun c hc => by simp [List.all_eq_true.mp ha c hc]
      rw [this]; rfl
    | false =>
      rw [List.all_eq_false] at ha
      obtain ⟨c, hc, hn⟩ := ha
      have : c ∈ (w.filter fun c => !dig c) := List.mem_filter.mpr ⟨hc, by simpa using hn⟩
      cases hf : (w.filter fun c => !dig c) with
      | nil => rw [hf] at this; cases this
      | cons _ _ => rfl
  generalize (w.filter fun c => !dig c).map (fun c => [c]) = ys at *
  have g1 : ((S1 ++ [MO.lst (ys.map D.str)]) ++ [MO.lst []])[S1.length]? = some (.lst (ys.map D.str)) := get_app get_last
  have g2 : ((S1 ++ [MO.lst (ys.map D.str)]) ++ [MO.lst []])[(S1 ++ [MO.lst (ys.map D.str)]).length]? = some (.lst []) := get_last
  rw [w_lst, w_nil, v_ne, eq_strs_nil (lstOf_lst g1) (lstOf_lst g2) hh, on_some]
  simp only [ex_bl]
  rw [emp]
  cases ha : w.all dig with
  | false =>
    simp only [Bool.not_false, if_true, w_ret, w_c]
    exact h0 (fun h => by rw [ha] at h; cases h.2) _ (Keep.app.trans .app)
  | true =>
    rw [if_neg (by decide), w_next]
    dsimp only
    rw [w_ret]
    exact h1 (Decidable.not_not.mp l1) (Decidable.not_not.mp l3) ha _ (Keep.app.trans .app)
theorem w_intA {S : Sto} {w : List Nat} (l1 : 1 ≤ w.length) (l3 : w.length ≤ 3) (ha : w.all dig = true) (P : D → Sto → Prop) : wp (eCall fIntT (aCons (eVar 0) aNil) [some (.str w), none] S) P = P (.int (digVal w : Nat)) S := by
  rw [w_call, w_cons, v_var]
  simp only [List.getElem?_cons_zero, on_some, w_nil]
  rw [w_intT ⟨by rintro rfl; simp at l1, by omega, ha⟩]
theorem number_of_res {S : Sto} {w : List Nat} (hl : w.length ≤ LIM) (hc : Tx w) : wp (f_number_of [.str w] S) fun d S' => d = onD (numOf w) ∧ Keep [] S S' := by
  refine num_walk hl hc (fun h S' k => ⟨?_, k⟩) fun l1 l3 ha S1 k => ?_
  · rw [numOf, if_neg (fun g => h ⟨g.1, g.2.1⟩)]; rfl
  rw [w_if]
  obtain ⟨c0, r0, rfl⟩ : ∃ c r, w = c :: r := by
    cases w with
    | nil => simp at l1
    | cons c r => exact ⟨c, r, rfl⟩
  have ix : ∀ (S : Sto) (P : D → Sto → Prop), wp (gIx (.str (c0 :: r0)) (.int 0) S) P = P (.str [c0]) S := fun S P => w_ixS hl (by rw [at0]; rfl)
  simp only [w_tor, w_te, w_e2, w_c, v_var, List.getElem?_cons_zero, on_some, ix, w_neS, w_eqS, ex_bl, w_intA l1 l3 ha]
  have z0 : z_0 = [48] := rfl
  rw [z0]
  by_cases h : c0 = 48
  · subst h
    rw [if_neg (by decide)]
    by_cases h2 : r0 = []
    · subst h2
      rw [if_pos (by decide), numOf, if_pos ⟨⟨l1, l3⟩, ha, .inr rfl⟩]
      exact ⟨rfl, k⟩
    · rw [if_neg (by simpa using h2), numOf, if_neg (fun g => g.2.2.elim (fun g => g rfl) fun g => h2 (by injection g))]
      exact ⟨rfl, k⟩
  · rw [if_pos (by simpa using h), if_pos trivial, numOf, if_pos ⟨⟨l1, l3⟩, ha, .inl h⟩]
    exact ⟨rfl, k⟩
def wGood (w : List Nat) : Bool := (decide ((Nat.toDigits 10 (digVal w)).map Char.toNat = w)) == (decide (w.headD 0 ≠ 48 ∨ w = [48]))
theorem wg1 : (List.range 10).all (fun a => wGood [48 + a]) = true := by decide +kernel
theorem wg2 : (List.range 10).all (fun a => (List.range 10).all fun b => wGood [48 + a, 48 + b]) = true := by decide +kernel
theorem wg3 : (List.range 10).all (fun a => (List.range 10).all fun b => (List.range 10).all fun c => wGood [48 + a, 48 + b, 48 + c]) = true := by decide +kernel
theorem dig_ex {c : Nat} (h : dig c = true) : ∃ a, a ∈ List.range 10 ∧ c = 48 + a := by
  unfold dig at h
  simp only [decide_eq_true_eq] at h
  exact ⟨c - 48, by rw [List.mem_range]; omega, by omega⟩
theorem w_good {w : List Nat} (l1 : 1 ≤ w.length) (l3 : w.length ≤ 3) (ha : w.all dig = true) : wGood w = true := by
  match w, l1, l3, ha with
  | [a], _, _, ha =>
    simp only [List.all_cons, List.all_nil, Bool.and_true] at ha
    obtain ⟨a, m, rfl⟩ := dig_ex ha
    exact List.all_eq_true.mp wg1 a m
  | [a, b], _, _, ha =>
    simp only [List.all_cons, List.all_nil, Bool.and_true, Bool.and_eq_true] at ha
    obtain ⟨a, m, rfl⟩ := dig_ex ha.1
    obtain ⟨b, m2, rfl⟩ := dig_ex ha.2
    exact List.all_eq_true.mp (List.all_eq_true.mp wg2 a m) b m2
  | [a, b, c], _, _, ha =>
    simp only [List.all_cons, List.all_nil, Bool.and_true, Bool.and_eq_true] at ha
    obtain ⟨a, m, rfl⟩ := dig_ex ha.1
    obtain ⟨b, m2, rfl⟩ := dig_ex ha.2.1
    obtain ⟨c, m3, rfl⟩ := dig_ex ha.2.2
    exact List.all_eq_true.mp (List.all_eq_true.mp (List.all_eq_true.mp wg3 a m) b m2) c m3
theorem dig_small {w : List Nat} (l3 : w.length ≤ 3) (ha : w.all dig = true) : digVal w < 1000 := by
  have d : ∀ c, dig c = true → c - 48 ≤ 9 := fun c h => by unfold dig at h; simp only [decide_eq_true_eq] at h; omega
  match w, l3, ha with
  | [], _, _ => decide
  | [a], _, ha =>
    simp only [List.all_cons, List.all_nil, Bool.and_true] at ha
    have := d a ha
    simp only [digVal, List.foldl]
    omega
  | [a, b], _, ha =>
    simp only [List.all_cons, List.all_nil, Bool.and_true, Bool.and_eq_true] at ha
    have := d a ha.1
    have := d b ha.2
    simp only [digVal, List.foldl]
    omega
  | [a, b, c], _, ha =>
    simp only [List.all_cons, List.all_nil, Bool.and_true, Bool.and_eq_true] at ha
    have := d a ha.1
    have := d b ha.2.1
    have := d c ha.2.2
    simp only [digVal, List.foldl]
    omega
theorem str_dig {w : List Nat} (l1 : 1 ≤ w.length) (l3 : w.length ≤ 3) (ha : w.all dig = true) : strI ((digVal w : Nat) : Int) = w ↔ (w.headD 0 ≠ 48 ∨ w = [48]) := by
  have h := w_good l1 l3 ha
  unfold wGood at h
  rw [beq_iff_eq, decide_eq_decide] at h
  rw [strI_nat]
  exact h
theorem law_number_res {S : Sto} {w : List Nat} (hl : w.length ≤ LIM) (hc : Tx w) : wp (f__law_number [.str w] S) fun d S' => d = onD (numOf w) ∧ Keep [] S S' := by
  refine num_walk hl hc (fun h S' k => ⟨?_, k⟩) fun l1 l3 ha S1 k => ?_
  · rw [numOf, if_neg (fun g => h ⟨g.1, g.2.1⟩)]; rfl
  have hs := dig_small l3 ha
  have sd := str_dig l1 l3 ha
  rw [w_if]
  simp only [w_te, w_e2, w_intA l1 l3 ha]
  rw [w_call, w_cons, w_intA l1 l3 ha, w_nil, w_str (by omega)]
  simp only [v_var, List.getElem?_cons_zero, on_some, w_eqS, ex_bl]
  by_cases h : strI ((digVal w : Nat) : Int) = w
  · rw [if_pos (by simpa using h), numOf, if_pos ⟨⟨l1, l3⟩, ha, sd.mp h⟩]
    exact ⟨rfl, k⟩
  · rw [if_neg (by simpa using h), numOf, if_neg (fun g => h (sd.mpr g.2.2)), w_c]
    exact ⟨rfl, k⟩
theorem numOf_some {w : List Nat} {i : Int} (h : numOf w = some i) : strI i = w ∧ 0 ≤ i ∧ i < 1000 := by
  unfold numOf at h
  split at h
  · rename_i g
    injection h with h
    subst h
    have := dig_small g.1.2 g.2.1
    exact ⟨(str_dig g.1.1 g.1.2 g.2.1).mpr g.2.2, by omega, by omega⟩
  · cases h
end PG
end
section
set_option linter.all false
set_option autoImplicit false
set_option maxRecDepth 100003
set_option linter.all false
set_option maxHeartbeats 0
namespace PG
open PF
/-- how many numbers a word wants -/
def ar (w : List Nat) : Option Nat :=
  if w = z_put then some 2 else if w = z_copy then some 2 else if w = z_add then some 3 else if w = z_take then some 3 else if w = z_less then some 3 else if w = z_call then some 2 else if w = z_say then some 1 else if w = z_if then some 2 else if w = z_go then some 1 else if w = z_end then some 0 else none
def mkRow (w : List Nat) (ns : List Int) : Option Row :=
  if w = z_put then (match ns with | [d, k] => some (.put d k) | _ => none) else if w = z_copy then (match ns with | [d, k] => some (.copy d k) | _ => none)
  else if w = z_add then (match ns with | [d, a, b] => some (.op .add d a b) | _ => none) else if w = z_take then (match ns with | [d, a, b] => some (.op .take d a b) | _ => none)
  else if w = z_less then (match ns with | [d, a, b] => some (.op .less d a b) | _ => none) else if w = z_call then (match ns with | [d, a] => some (.call d a) | _ => none)
  else if w = z_say then (match ns with | [a] => some (.say a) | _ => none) else if w = z_if then (match ns with | [a, r] => some (.ife a r) | _ => none)
  else if w = z_go then (match ns with | [r] => some (.go r) | _ => none) else if w = z_end then (match ns with | [] => some .fin | _ => none) else none
theorem mk_none {w : List Nat} {ns : List Int} (h : ar w ≠ some ns.length) : mkRow w ns = none := by
  unfold ar at h
  unfold mkRow
  repeat' split
  all_goals first | rfl | (exfalso; simp_all)
theorem mk_some {w : List Nat} {ns : List Int} (h : ar w = some ns.length) : ∃ r, mkRow w ns = some r ∧ r.w = w ∧ r.nums = ns := by
  unfold ar at h
  unfold mkRow
  split at h
  · rename_i e; match ns, h with
    | [d, k], _ => exact ⟨_, if_pos e, e.symm, rfl⟩
  rename_i e0
  rw [if_neg e0]
  split at h
  · rename_i e; match ns, h with
    | [d, k], _ => exact ⟨_, if_pos e, e.symm, rfl⟩
  rename_i e1
  rw [if_neg e1]
  split at h
  · rename_i e; match ns, h with
    | [d, a, b], _ => exact ⟨_, if_pos e, e.symm, rfl⟩
  rename_i e2
  rw [if_neg e2]
  split at h
  · rename_i e; match ns, h with
    | [d, a, b], _ => exact ⟨_, if_pos e, e.symm, rfl⟩
  rename_i e3
  rw [if_neg e3]
  split at h
  · rename_i e; match ns, h with
    | [d, a, b], _ => exact ⟨_, if_pos e, e.symm, rfl⟩
  rename_i e4
  rw [if_neg e4]
  split at h
  · rename_i e; match ns, h with
    | [d, k], _ => exact ⟨_, if_pos e, e.symm, rfl⟩
  rename_i e5
  rw [if_neg e5]
  split at h
  · rename_i e; match ns, h with
    | [d], _ => exact ⟨_, if_pos e, e.symm, rfl⟩
  rename_i e6
  rw [if_neg e6]
  split at h
  · rename_i e; match ns, h with
    | [d, k], _ => exact ⟨_, if_pos e, e.symm, rfl⟩
  rename_i e7
  rw [if_neg e7]
  split at h
  · rename_i e; match ns, h with
    | [d], _ => exact ⟨_, if_pos e, e.symm, rfl⟩
  rename_i e8
  rw [if_neg e8]
  split at h
  · rename_i e; match ns, h with
    | [], _ => exact ⟨_, if_pos e, e.symm, rfl⟩
  · cases h
/-- the dict of the words, and what it tells -/
theorem shapes_get (w : List Nat) : (ar w = none ∧ dget t_SHAPES (.str w) = none) ∨ ∃ sh : List Nat, ar w = some sh.length ∧ dget t_SHAPES (.str w) = some (.str sh) ∧ sh.length ≤ 1000 := by
  unfold ar
  by_cases e0 : w = z_put
  · subst e0; exact .inr ⟨_, rfl, sh_put, by decide⟩
  by_cases e1 : w = z_copy
  · subst e1; exact .inr ⟨_, rfl, sh_copy, by decide⟩
  by_cases e2 : w = z_add
  · subst e2; exact .inr ⟨_, rfl, sh_add, by decide⟩
  by_cases e3 : w = z_take
  · subst e3; exact .inr ⟨_, rfl, sh_take, by decide⟩
  by_cases e4 : w = z_less
  · subst e4; exact .inr ⟨_, rfl, sh_less, by decide⟩
  by_cases e5 : w = z_call
  · subst e5; exact .inr ⟨_, rfl, sh_call, by decide⟩
  by_cases e6 : w = z_say
  · subst e6; exact .inr ⟨_, rfl, sh_say, by decide⟩
  by_cases e7 : w = z_if
  · subst e7; exact .inr ⟨_, rfl, sh_if, by decide⟩
  by_cases e8 : w = z_go
  · subst e8; exact .inr ⟨_, rfl, sh_go, by decide⟩
  by_cases e9 : w = z_end
  · subst e9; exact .inr ⟨_, rfl, sh_end, by decide⟩
  refine .inl ⟨by simp [*], ?_⟩
  simp [dget, t_SHAPES, List.find?, Ne.symm, *, eq_comm]
def lcts : List (D × D) := [(.str z_put, .int 2), (.str z_copy, .int 2), (.str z_add, .int 3), (.str z_take, .int 3), (.str z_less, .int 3), (.str z_call, .int 2), (.str z_say, .int 1), (.str z_if, .int 2), (.str z_go, .int 1), (.str z_end, .int 0)]
theorem put_lcts : putAll [] lcts = lcts := by decide +kernel
theorem lcts_get (w : List Nat) : dget lcts (.str w) = (ar w).map fun n => .int (n : Nat) := by
  unfold ar
  by_cases e0 : w = z_put
  · subst e0; rfl
  by_cases e1 : w = z_copy
  · subst e1; rfl
  by_cases e2 : w = z_add
  · subst e2; rfl
  by_cases e3 : w = z_take
  · subst e3; rfl
  by_cases e4 : w = z_less
  · subst e4; rfl
  by_cases e5 : w = z_call
  · subst e5; rfl
  by_cases e6 : w = z_say
  · subst e6; rfl
  by_cases e7 : w = z_if
  · subst e7; rfl
  by_cases e8 : w = z_go
  · subst e8; rfl
  by_cases e9 : w = z_end
  · subst e9; rfl
  simp [dget, lcts, List.find?, Ne.symm, *, eq_comm]
/-- the words of a row's line -/
def rowW : List (List Nat) → Option Row
  | [] => none
  | w :: ws => match allSome numOf ws with
    | none => none
    | some ns => mkRow w ns
def rowOf (l : List Nat) : Option Row := rowW (spl sp 0 [] l)
def orD : Option Row → D
  | none => .non
  | some r => r.D
theorem spl_ne {s : List Nat} : ∀ (k : Nat) (acc l : List Nat), spl s k acc l ≠ []
  | _, _, [] => by simp [spl]
  | 0, acc, c :: r => by
    unfold spl
    split
    · exact List.cons_ne_nil _ _
    · exact spl_ne 0 _ r
  | k + 1, acc, c :: r => by
    unfold spl
    exact spl_ne k _ r
theorem allSome_len {α β : Type} {f : α → Option β} : ∀ {xs : List α} {ys : List β}, allSome f xs = some ys → ys.length = xs.length
  | [], _, h => by simp only [allSome] at h; cases h; rfl
  | x :: xs, ys, h => by
    simp only [allSome] at h
    split at h
    · cases h
    · split at h
      · cases h
      · rename_i e2
        cases h
        simp [allSome_len e2]
theorem allSome_map {xs : List (List Nat)} {ns : List Int} (h : allSome numOf xs = some ns) : xs.map (fun w => onD (numOf w)) = ns.map .int := by
  induction xs generalizing ns with
  | nil => simp only [allSome] at h; cases h; rfl
  | cons x xs ih =>
    simp only [allSome] at h
    split at h
    · cases h
    · rename_i e1
      split at h
      · cases h
      · rename_i e2
        cases h
        rw [List.map_cons, List.map_cons, e1, ih e2]
        rfl
theorem allSome_any {α β : Type} {f : α → Option β} {xs : List α} : (xs.any fun x => (f x).isNone) = (allSome f xs).isNone := by
  induction xs with
  | nil => rfl
  | cons x xs ih =>
    simp only [allSome, List.any_cons, ih]
    cases f x <;> cases allSome f xs <;> rfl
theorem inB_onD {S : Sto} {n : Nat} {os : List (Option Int)} (h : lstOf n S = some (os.map onD)) : inB .non (.ref n) S = some (os.any (·.isNone)) := by
  have e : ∀ is : List (Option Int), allSome (tree S EQD) (is.map onD) = some (is.map fun o => match o with | none => J.non | some i => J.int i) := fun is => by
    induction is with
    | nil => rfl
    | cons i is ih =>
      have : tree S EQD (onD i) = some (match i with | none => J.non | some i => J.int i) := by show tree S (39 + 1) (onD i) = _; cases i <;> simp only [tree, onD]
      simp only [List.map_cons, allSome, this, ih]
  have e0 : tree S EQD .non = some .non := by show tree S (39 + 1) .non = _; simp only [tree]
  unfold inB
  simp only [h]
  unfold inTree
  rw [e0, e]
  show some ((os.map _).any fun z => J.eqv z .non) = _
  rw [List.any_map]
  congr 2
  funext o
  cases o <;> rfl
/-- [number(word) for word in ..] -/
theorem nums_comp {S : Sto} {ρ : Env} {it : Iter} {i : Nat} {ws : List (List Nat)} {f : Fn} (hf : ∀ S w, w ∈ ws → wp (f [.str w] S) fun d S' => d = onD (numOf w) ∧ Keep [] S S') (ea : it.all = ws.map .str) (hs : ∀ S', Keep [] S S' → it.same S' = true) (hi : i < ρ.length) :
    wp (compLoop it (PF.gName i) tYes (eCall f (aCons (eVar i) aNil)) ρ it.all S) fun ys S' => ys = (ws.map numOf).map onD ∧ Keep [] S S' := by
  refine wp_mono (comp_mapK (xs := ws) (φ := .str) (f := fun w => onD (numOf w)) ea hs fun w hw S1 k1 => ?_) fun _ _ h => ⟨by rw [h.1, List.map_map]; rfl, h.2⟩
  have e : (ρ.set i (some (.str w)))[i]? = some (some (.str w)) := by simp [hi]
  rw [w_call, w_cons, w_var e, w_nil]
  exact hf _ _ hw
/-- parts of a small text -/
theorem spl_len {s : List Nat} : ∀ (k : Nat) (acc l : List Nat), (spl s k acc l).length ≤ l.length + 1
  | _, _, [] => by simp [spl]
  | 0, acc, c :: r => by
    unfold spl
    split
    · have := spl_len (s := s) (s.length - 1) [] r
      simp; omega
    · have := spl_len (s := s) 0 (acc ++ [c]) r
      simp; omega
  | k + 1, acc, c :: r => by
    unfold spl
    have := spl_len (s := s) k acc r
    simp; omega
theorem spl_part_len {s : List Nat} : ∀ (k : Nat) (acc l : List Nat), ∀ p ∈ spl s k acc l, p.length ≤ acc.length + l.length
  | _, acc, [], p, h => by simp [spl] at h; subst h; simp
  | 0, acc, c :: r, p, h => by
    unfold spl at h
    split at h
    · rcases List.mem_cons.mp h with h | h
      · subst h; simp
      · have := spl_part_len (s := s) (s.length - 1) [] r p h
        simp at this ⊢; omega
    · have := spl_part_len (s := s) 0 (acc ++ [c]) r p h
      simp at this ⊢; omega
  | k + 1, acc, c :: r, p, h => by
    unfold spl at h
    have := spl_part_len (s := s) k acc r p h
    simp; omega
theorem spl_mem {s : List Nat} : ∀ (k : Nat) (acc l : List Nat), ∀ p ∈ spl s k acc l, ∀ c ∈ p, c ∈ acc ∨ c ∈ l
  | _, acc, [], p, h, c, hc => by simp [spl] at h; subst h; exact .inl hc
  | 0, acc, d :: r, p, h, c, hc => by
    unfold spl at h
    split at h
    · rcases List.mem_cons.mp h with h | h
      · subst h; exact .inl hc
      · rcases spl_mem (s := s) (s.length - 1) [] r p h c hc with h | h
        · cases h
        · exact .inr (List.mem_cons_of_mem _ h)
    · rcases spl_mem (s := s) 0 (acc ++ [d]) r p h c hc with h | h
      · rcases List.mem_append.mp h with h | h
        · exact .inl h
        · exact .inr (by rw [List.mem_singleton.mp h]; exact List.mem_cons_self)
      · exact .inr (List.mem_cons_of_mem _ h)
  | k + 1, acc, d :: r, p, h, c, hc => by
    unfold spl at h
    rcases spl_mem (s := s) k acc r p h c hc with h | h
    · exact .inl h
    · exact .inr (List.mem_cons_of_mem _ h)
theorem spl_tx {s l : List Nat} (h : Tx l) : ∀ p ∈ spl s 0 [] l, Tx p := fun p hp c hc => (spl_mem 0 [] l p hp c hc).elim (fun h => nomatch h) (h c)
theorem spl_small {s l : List Nat} : ∀ p ∈ spl s 0 [] l, p.length ≤ l.length := fun p hp => by have := spl_part_len 0 [] l p hp; simpa using this
end PG
end
section
set_option linter.all false
set_option autoImplicit false
set_option maxRecDepth 100003
set_option linter.all false
set_option maxHeartbeats 0
namespace PG
open PF
theorem w_notInD {S : Sto} {P : D → Sto → Prop} {n : Nat} {k : List Nat} {kvs : List (D × D)} (h : dicOf n S = some kvs) : wp (gNotInD (.str k) (.ref n) S) P = P (.bl (!(dget kvs (.str k)).isSome)) S := by
  unfold gNotInD inD
  simp only [h, keyOk, if_true, wp_ok]
theorem dic_get {S : Sto} {n : Nat} {kvs : List (D × D)} (h : S[n]? = some (.dic kvs)) : dicOf n S = some kvs := by unfold dicOf; rw [h]
theorem cut_1 {d : D} {ds : List D} : cut (d :: ds) none (some 1) = [d] := by
  unfold cut sIx
  simp only [show ¬ ((1 : Int) < 0) by decide, if_false, List.length_cons]
  have e : min (Int.toNat 1) (ds.length + 1) = 1 := by show min 1 (ds.length + 1) = 1; omega
  rw [e]
  rfl
theorem rowW_cons {w : List Nat} {ws : List (List Nat)} : rowW (w :: ws) = match allSome numOf ws with
    | none => none
    | some ns => mkRow w ns := rfl
/-- the end of both: a row of a word and numbers -/
theorem row_join {S : Sto} {P : D → Sto → Prop} {a b : Nat} {w : List Nat} {ns : List Int} {r : Row} (ha : S[a]? = some (.lst [.str w])) (hb : S[b]? = some (.lst (ns.map .int))) (hl : ns.length ≤ 10000) (hw : r.w = w) (hn : r.nums = ns)
    (h : ∀ S', Keep [] S S' → P r.D S') : wp (gAdd (.ref a) (.ref b) S) fun d S' => wp (fTuple [d] S') P := by
  rw [w_addL, wrOf_lst ha, on_some, wrOf_lst hb, on_some]
  refine ⟨by simp only [List.length_cons, List.length_nil, List.length_map]; unfold LIM; omega, ?_⟩
  rw [v_tupOf]
  have g6 : (S ++ [MO.lst ([D.str w] ++ ns.map D.int)])[S.length]? = some (.lst ([D.str w] ++ ns.map D.int)) := get_last
  simp only [seqOf, lstOf_lst g6, on_some]
  have e : D.tup ([D.str w] ++ ns.map D.int) = r.D := by rw [row_D, hw, hn]; rfl
  rw [e]
  exact h _ .app
theorem row_of_res {S : Sto} {l : List Nat} (hl : l.length + 2 ≤ LIM) (hl2 : l.length ≤ 9000) (hc : Tx l) : wp (f_row_of [.str l] S) fun d S' => d = orD (rowOf l) ∧ Keep [] S S' := by
  unfold f_row_of b_row_of
  rw [w_fn]
  refine ⟨by simp, ?_⟩
  simp only [List.map_cons, List.map_nil, List.length_cons, List.length_nil, Nat.zero_add, Nat.reduceAdd, Nat.reduceSub, List.replicate_succ, List.replicate_zero, List.cons_append, List.nil_append]
  rw [w_seq]
  simp only [w_set, v_s1, v_var, w_c, List.getElem?_cons_zero, on_some, List.set_cons_succ, List.set_cons_zero]
  refine ⟨rfl, ?_⟩
  rw [w_split (by decide) (by decide) hl]
  have e0 : rowOf l = rowW (spl z__ 0 [] l) := rfl
  have hsm := spl_small (s := z__) (l := l)
  have hln := spl_len (s := z__) 0 [] l
  have htx := spl_tx (s := z__) hc
  have hne := spl_ne (s := z__) 0 [] l
  rw [e0]
  generalize spl z__ 0 [] l = ws at *
  obtain ⟨w, ws, rfl⟩ : ∃ w r, ws = w :: r := by
    cases ws with
    | nil => exact absurd rfl hne
    | cons w r => exact ⟨w, r, rfl⟩
  rw [List.length_cons] at hln
  have g1 : (S ++ [MO.lst ((w :: ws).map D.str)])[S.length]? = some (.lst ((w :: ws).map .str)) := get_last
  have k1 : Keep [] S (S ++ [MO.lst ((w :: ws).map D.str)]) := .app
  generalize S.length = wr at *
  generalize S ++ [MO.lst ((w :: ws).map D.str)] = S1 at *
  rw [List.map_cons] at g1
  rw [w_seq]
  simp only [w_set, w_comp, v_iseq, w_slice, w_osome, w_onone, v_var, w_c, List.getElem?_cons_succ, List.getElem?_cons_zero, on_some, ex_int, w_gslL (lstOf_lst g1), wipe, List.set_cons_succ, List.set_cons_zero]
  rw [cut_tail]
  have g2 : (S1 ++ [MO.lst (ws.map .str)])[S1.length]? = some (.lst (ws.map .str)) := get_last
  have g1' := get_app (U := [MO.lst (ws.map .str)]) g1
  have k2 : Keep [] S (S1 ++ [MO.lst (ws.map .str)]) := k1.trans .app
  generalize S1.length = nr at *
  generalize S1 ++ [MO.lst (ws.map .str)] = S2 at *
  simp only [seqOf, chkOf, lstOf_lst g2, on_some]
  refine wp_mono (nums_comp (it := ⟨[(nr, ws.map .str)], ws.map .str⟩) (ws := ws) (fun S x hx => number_of_res (Nat.le_trans (hsm x (List.mem_cons_of_mem _ hx)) (by omega)) (htx x (List.mem_cons_of_mem _ hx))) rfl (fun S' k => by simp [Iter.same, lstOf_lst (k.at g2 (by simp))]) (by simp)) ?_
  rintro _ S3 ⟨rfl, k3⟩
  refine ⟨by rw [List.length_map, List.length_map]; unfold LIM; omega, ?_⟩
  have g4 : (S3 ++ [MO.lst ((ws.map numOf).map onD)])[S3.length]? = some (.lst ((ws.map numOf).map onD)) := get_last
  have g14 := get_app (U := [MO.lst ((ws.map numOf).map onD)]) (k3.at g1' (by simp))
  have k4 : Keep [] S (S3 ++ [MO.lst ((ws.map numOf).map onD)]) := (k2.trans k3).trans .app
  generalize S3.length = ir at *
  generalize S3 ++ [MO.lst ((ws.map numOf).map onD)] = S4 at *
  rw [w_seq]
  simp only [w_sif, w_tor, w_te, w_e1, w_e2, w_c, w_call, w_cons, w_nil, v_var, List.getElem?_cons_succ, List.getElem?_cons_zero, on_some, v_ixL, lstOf_lst g14, at0, w_kNotIn, ex_bl]
  rw [rowW_cons]
  rcases shapes_get w with ⟨ea, eg⟩ | ⟨sh, ea, eg, hsh⟩
  · simp only [eg, Option.isSome_none, Bool.not_false, if_true, w_ret, w_c]
    have : (match allSome numOf ws with | none => none | some ns => mkRow w ns) = none := by
      split
      · rfl
      · exact mk_none (by rw [ea]; simp)
    rw [this]
    exact ⟨rfl, k4⟩
  simp only [eg, Option.isSome_some, Bool.not_true]
  rw [if_neg (by decide)]
  simp only [v_in, inB_onD (lstOf_lst g4), on_some, ex_bl]
  rw [List.any_map]
  have ean : (ws.any ((fun o => o.isNone) ∘ numOf)) = (allSome numOf ws).isNone := allSome_any
  rw [ean]
  cases eas : allSome numOf ws with
  | none =>
    simp only [Option.isNone_none, if_true, w_ret, w_c]
    exact ⟨rfl, k4⟩
  | some ns =>
    have hnl : ns.length = ws.length := allSome_len eas
    have enm : (ws.map numOf).map onD = ns.map .int := by rw [← allSome_map eas, List.map_map]; rfl
    rw [enm] at g4
    simp only [Option.isNone_some]
    rw [if_neg (by decide)]
    simp only [v_lenL, lstOf_lst g4, lstOf_lst g14, at0, List.getElem?_cons_zero, on_some, List.length_map, w_kIx, eg, w_lenS (lim_le hsh), w_neI, ex_bl]
    by_cases hs : ns.length = sh.length
    · have en : (!(((ns.length : Nat) : Int) == ((sh.length : Nat) : Int))) = false := by rw [hs]; simp
      rw [en]
      rw [if_neg (by decide), w_next]
      dsimp only
      obtain ⟨r, er, hw, hn⟩ := mk_some (w := w) (ns := ns) (by rw [ea, hs])
      simp only [w_ret, w_call, w_cons, w_nil, w_e2, w_lst, w_c, v_var, List.getElem?_cons_succ, List.getElem?_cons_zero, on_some, v_ixL, lstOf_lst g14, at0]
      have g5 : (S4 ++ [MO.lst [.str w]])[S4.length]? = some (.lst [.str w]) := get_last
      have g45 := get_app (U := [MO.lst [.str w]]) g4
      refine row_join g5 g45 (by omega) hw hn fun S' k => ?_
      rw [er]
      exact ⟨rfl, (k4.trans .app).trans k⟩
    · have en : (!(((ns.length : Nat) : Int) == ((sh.length : Nat) : Int))) = true := by simp; omega
      rw [en]
      simp only [if_true, w_ret, w_c]
      rw [mk_none (by rw [ea]; simp; omega)]
      exact ⟨rfl, k4⟩
end PG
end
section
set_option linter.all false
set_option autoImplicit false
set_option maxRecDepth 100003
set_option linter.all false
set_option maxHeartbeats 0
namespace PG
open PF
theorem rowW_no {w : List Nat} {ws : List (List Nat)} (h : ∀ ns, allSome numOf ws = some ns → ar w ≠ some ns.length) : rowW (w :: ws) = none := by
  rw [rowW_cons]
  split
  · rfl
  · rename_i ns e
    exact mk_none (h ns e)
theorem rowW_yes {w : List Nat} {ws : List (List Nat)} {ns : List Int} {r : Row} (e : allSome numOf ws = some ns) (h : mkRow w ns = some r) : rowW (w :: ws) = some r := by
  rw [rowW_cons]
  split
  · rename_i e2; rw [e] at e2; cases e2
  · rename_i ns2 e2; rw [e] at e2; cases e2; exact h
theorem rowW_nums {w : List Nat} {ws : List (List Nat)} (e : allSome numOf ws = none) : rowW (w :: ws) = none := by
  rw [rowW_cons]
  split
  · rfl
  · rename_i ns2 e2; rw [e] at e2; cases e2
theorem law_line_res {S : Sto} {l : List Nat} (hl : l.length + 2 ≤ LIM) (hl2 : l.length ≤ 9000) (hc : Tx l) : wp (f__law_line [.str l] S) fun d S' => d = orD (rowOf l) ∧ Keep [] S S' := by
  unfold f__law_line b__law_line
  rw [w_fn]
  refine ⟨by simp, ?_⟩
  simp only [List.map_cons, List.map_nil, List.length_cons, List.length_nil, Nat.zero_add, Nat.reduceAdd, Nat.reduceSub, List.replicate_succ, List.replicate_zero, List.cons_append, List.nil_append]
  rw [w_seq]
  simp only [w_set, w_dict, w_evcons, w_evnil, w_c, keyOk, true_and, List.set_cons_succ, List.set_cons_zero]
  have ed : ([(.str z_put, .int 2), (.str z_copy, .int 2), (.str z_add, .int 3), (.str z_take, .int 3), (.str z_less, .int 3), (.str z_call, .int 2), (.str z_say, .int 1), (.str z_if, .int 2), (.str z_go, .int 1), (.str z_end, .int 0)] : List (D × D)) = lcts := rfl
  rw [ed, put_lcts]
  have gd : (S ++ [MO.dic lcts])[S.length]? = some (.dic lcts) := get_last
  have k0 : Keep [] S (S ++ [MO.dic lcts]) := .app
  generalize S.length = dr at *
  generalize S ++ [MO.dic lcts] = S0 at *
  rw [w_seq]
  simp only [w_set, v_s1, v_var, w_c, List.getElem?_cons_succ, List.getElem?_cons_zero, on_some, List.set_cons_succ, List.set_cons_zero]
  refine ⟨rfl, ?_⟩
  rw [w_split (by decide) (by decide) hl]
  have e0 : rowOf l = rowW (spl z__ 0 [] l) := rfl
  have hsm := spl_small (s := z__) (l := l)
  have hln := spl_len (s := z__) 0 [] l
  have htx := spl_tx (s := z__) hc
  have hne := spl_ne (s := z__) 0 [] l
  rw [e0]
  generalize spl z__ 0 [] l = ws at *
  obtain ⟨w, ws, rfl⟩ : ∃ w r, ws = w :: r := by
    cases ws with
    | nil => exact absurd rfl hne
    | cons w r => exact ⟨w, r, rfl⟩
  rw [List.length_cons] at hln
  have g1 : (S0 ++ [MO.lst ((w :: ws).map D.str)])[S0.length]? = some (.lst ((w :: ws).map .str)) := get_last
  have gd1 := get_app (U := [MO.lst ((w :: ws).map D.str)]) gd
  have k1 : Keep [] S (S0 ++ [MO.lst ((w :: ws).map D.str)]) := k0.trans .app
  generalize S0.length = wr at *
  generalize S0 ++ [MO.lst ((w :: ws).map D.str)] = S1 at *
  rw [List.map_cons] at g1
  rw [w_seq]
  have ix : ∀ P : D → Sto → Prop, wp (gIx (.ref wr) (.int 0) S1) P = P (.str w) S1 := fun P => by rw [v_ixL, lstOf_lst g1, on_some, at0, List.getElem?_cons_zero, on_some]
  simp only [w_sif, w_tor, w_te, w_e2, w_c, w_call, w_cons, w_nil, v_var, List.getElem?_cons_succ, List.getElem?_cons_zero, on_some, ix, w_notInD (dic_get gd1), lcts_get, ex_bl]
  cases ea : ar w with
  | none =>
    simp only [Option.map_none, Option.isSome_none, Bool.not_false, if_true, w_ret, w_c]
    rw [rowW_no fun ns _ => by rw [ea]; simp]
    exact ⟨rfl, k1⟩
  | some m =>
    simp only [Option.map_some, Option.isSome_some, Bool.not_true]
    rw [if_neg (by decide)]
    have hd : ∀ P : D → Sto → Prop, wp (gDx (.ref dr) (.str w) S1) P = P (.int (m : Nat)) S1 := fun P => by rw [v_dx rfl, dic_get gd1, on_some, lcts_get, ea]; simp only [Option.map_some, on_some]
    simp only [v_lenL, lstOf_lst g1, List.length_cons, List.length_map, on_some, ix, hd, w_add, w_neI, ex_bl]
    by_cases hm : ws.length = m
    · have en : (!((((ws.length + 1 : Nat) : Nat) : Int) == 1 + ((m : Nat) : Int))) = false := by rw [hm]; simp; omega
      rw [en]
      rw [if_neg (by decide), w_next]
      dsimp only
      rw [w_seq]
      simp only [w_set, w_comp, v_iseq, w_slice, w_osome, w_onone, v_var, w_c, List.getElem?_cons_succ, List.getElem?_cons_zero, on_some, ex_int, w_gslL (lstOf_lst g1), wipe, List.set_cons_succ, List.set_cons_zero]
      rw [cut_tail]
      have g2 : (S1 ++ [MO.lst (ws.map .str)])[S1.length]? = some (.lst (ws.map .str)) := get_last
      have g1' := get_app (U := [MO.lst (ws.map .str)]) g1
      have k2 : Keep [] S (S1 ++ [MO.lst (ws.map .str)]) := k1.trans .app
      generalize S1.length = nr at *
      generalize S1 ++ [MO.lst (ws.map .str)] = S2 at *
      simp only [seqOf, chkOf, lstOf_lst g2, on_some]
      refine wp_mono (nums_comp (it := ⟨[(nr, ws.map .str)], ws.map .str⟩) (ws := ws) (fun S x hx => law_number_res (Nat.le_trans (hsm x (List.mem_cons_of_mem _ hx)) (by omega)) (htx x (List.mem_cons_of_mem _ hx))) rfl (fun S' k => by simp [Iter.same, lstOf_lst (k.at g2 (by simp))]) (by simp)) ?_
      rintro _ S3 ⟨rfl, k3⟩
      refine ⟨by rw [List.length_map, List.length_map]; unfold LIM; omega, ?_⟩
      have g4 : (S3 ++ [MO.lst ((ws.map numOf).map onD)])[S3.length]? = some (.lst ((ws.map numOf).map onD)) := get_last
      have g14 := get_app (U := [MO.lst ((ws.map numOf).map onD)]) (k3.at g1' (by simp))
      have k4 : Keep [] S (S3 ++ [MO.lst ((ws.map numOf).map onD)]) := (k2.trans k3).trans .app
      generalize S3.length = ir at *
      generalize S3 ++ [MO.lst ((ws.map numOf).map onD)] = S4 at *
      simp only [w_ret, w_if, w_te, w_e2, w_c, v_var, List.getElem?_cons_succ, List.getElem?_cons_zero, on_some]
      simp only [v_in, inB_onD (lstOf_lst g4), on_some, ex_bl]
      rw [List.any_map]
      have ean : (ws.any ((fun o => o.isNone) ∘ numOf)) = (allSome numOf ws).isNone := allSome_any
      rw [ean]
      cases eas : allSome numOf ws with
      | none =>
        simp only [Option.isNone_none, if_true, w_c]
        rw [rowW_nums eas]
        exact ⟨rfl, k4⟩
      | some ns =>
        have hnl : ns.length = ws.length := allSome_len eas
        have enm : (ws.map numOf).map onD = ns.map .int := by rw [← allSome_map eas, List.map_map]; rfl
        rw [enm] at g4
        simp only [Option.isNone_some]
        rw [if_neg (by decide)]
        obtain ⟨r, er, hw, hn⟩ := mk_some (w := w) (ns := ns) (by rw [ea, hnl, hm])
        simp only [w_call, w_cons, w_nil, w_e2, w_slice, w_osome, w_onone, w_c, v_var, List.getElem?_cons_succ, List.getElem?_cons_zero, on_some, ex_int, w_gslL (lstOf_lst g14)]
        rw [cut_1]
        have g5 : (S4 ++ [MO.lst [.str w]])[S4.length]? = some (.lst [.str w]) := get_last
        have g45 := get_app (U := [MO.lst [.str w]]) g4
        refine row_join g5 g45 (by omega) hw hn fun S' k => ?_
        rw [rowW_yes eas er]
        exact ⟨rfl, (k4.trans .app).trans k⟩
    · have en : (!((((ws.length + 1 : Nat) : Nat) : Int) == 1 + ((m : Nat) : Int))) = true := by simp; omega
      rw [en]
      simp only [if_true, w_ret, w_c]
      rw [rowW_no fun ns eas => by rw [ea, allSome_len eas]; simp; omega]
      exact ⟨rfl, k1⟩
end PG
end
section
set_option linter.all false
set_option autoImplicit false
set_option maxRecDepth 100003
set_option linter.all false
set_option maxHeartbeats 0
namespace PG
open PF
/-- the numbers of a head's words -/
def prHead (ws : List (List Nat)) : Option (Int × Int) :=
  if ws.length = 4 ∧ ws[0]? = some z_params ∧ ws[2]? = some z_names then
    match numOf (ws.getD 1 []), numOf (ws.getD 3 []) with
    | some p, some n => some (p, n)
    | _, _ => none
  else none
inductive Rd where
  | text (i : Int)
  | prog (p n : Int) (rows : List Row)
def rdOf (l : List Nat) : Rd :=
  match prHead (spl sp 0 [] ((spl nl 0 [] l).headD [])) with
  | none => .text 0
  | some (p, n) => match allSome rowOf (spl nl 0 [] l).tail with
    | none => .text (1 + (((spl nl 0 [] l).tail.findIdx fun x => (rowOf x).isNone : Nat) : Int))
    | some rows => .prog p n rows
/-- what is told of a text -/
def rdD : Rd → D
  | .text i => .tup [.str z_BadText, .int i]
  | .prog p n rows => match npRes p n rows with
    | none => progD p n rows
    | some r => .tup [.str [66, 97, 100, 80, 114, 111, 103, 114, 97, 109], .int r]
theorem rd_bad {l : List Nat} (h : prHead (spl sp 0 [] ((spl nl 0 [] l).headD [])) = none) : rdOf l = .text 0 := by
  unfold rdOf; rw [h]
theorem rd_row_bad {l : List Nat} {p n : Int} (h : prHead (spl sp 0 [] ((spl nl 0 [] l).headD [])) = some (p, n)) (h2 : allSome rowOf (spl nl 0 [] l).tail = none) : rdOf l = .text (1 + (((spl nl 0 [] l).tail.findIdx fun x => (rowOf x).isNone : Nat) : Int)) := by
  unfold rdOf; rw [h]; dsimp only; rw [h2]
theorem rd_prog {l : List Nat} {p n : Int} {rows : List Row} (h : prHead (spl sp 0 [] ((spl nl 0 [] l).headD [])) = some (p, n)) (h2 : allSome rowOf (spl nl 0 [] l).tail = some rows) : rdOf l = .prog p n rows := by
  unfold rdOf; rw [h]; dsimp only; rw [h2]
/-- lists of words -/
theorem eqvs_strs : ∀ (ys zs : List (List Nat)), J.eqvs (ys.map J.str) (zs.map J.str) = decide (ys = zs)
  | [], [] => rfl
  | [], _ :: _ => rfl
  | _ :: _, [] => rfl
  | y :: ys, z :: zs => by
    show (J.eqv (.str y) (.str z) && J.eqvs _ _) = _
    rw [eqvs_strs ys zs]
    show ((y == z) && _) = _
    by_cases h1 : y = z <;> by_cases h2 : ys = zs <;> simp [h1, h2]
theorem eq_strs2 {S : Sto} {a b : Nat} {ys zs : List (List Nat)} (ha : lstOf a S = some (ys.map .str)) (hb : lstOf b S = some (zs.map .str)) (h : ∀ y ∈ ys, Tx y) (h2 : ∀ y ∈ zs, Tx y) : eqF S (.ref a) (.ref b) = some (decide (ys = zs)) := by
  show eqT S (.ref a) (.ref b) = _
  unfold eqT
  have ea : tree S EQD (.ref a) = some (.lst (ys.map J.str)) := by
    show tree S (39 + 1) (.ref a) = _
    simp only [tree, ha, strs_trees h]
  have eb : tree S EQD (.ref b) = some (.lst (zs.map J.str)) := by
    show tree S (39 + 1) (.ref b) = _
    simp only [tree, hb, strs_trees h2]
  rw [ea, eb]
  show some (J.eqvs _ _) = _
  rw [eqvs_strs]
theorem every2_map {α β : Type} {f : α → β} : ∀ {l : List α}, every2 (l.map f) = (every2 l).map f
  | [] => rfl
  | [_] => rfl
  | _ :: _ :: r => by simp only [List.map_cons, every2, every2_map (l := r)]
theorem every2_mem {α : Type} {x : α} : ∀ {l : List α}, x ∈ every2 l → x ∈ l
  | [], h => h
  | [_], h => h
  | a :: b :: r, h => by
    simp only [every2] at h
    rcases List.mem_cons.mp h with h | h
    · exact h ▸ List.mem_cons_self
    · exact List.mem_cons_of_mem _ (List.mem_cons_of_mem _ (every2_mem h))
theorem every2_len {α : Type} : ∀ {l : List α}, (every2 l).length ≤ l.length
  | [] => Nat.le_refl _
  | [_] => Nat.le_refl _
  | a :: b :: r => by
    have := every2_len (l := r)
    simp only [every2, List.length_cons]
    omega
theorem allSome_app {α β : Type} {f : α → Option β} {ys : List β} {x : α} {y : β} : ∀ {xs : List α} {ys : List β}, allSome f xs = some ys → f x = some y → allSome f (xs ++ [x]) = some (ys ++ [y])
  | [], ys, h, h2 => by simp only [allSome] at h; cases h; simp [allSome, h2]
  | a :: xs, ys, h, h2 => by
    simp only [allSome] at h
    split at h
    · cases h
    · rename_i b e1
      split at h
      · cases h
      · rename_i zs e2
        cases h
        simp only [List.cons_append, allSome, e1, allSome_app (ys := ys) e2 h2]
theorem first_none {α β : Type} {f : α → Option β} : ∀ {k : Nat} {xs : List α} {ys : List β} {x : α}, allSome f (xs.take k) = some ys → xs[k]? = some x → f x = none → allSome f xs = none ∧ (xs.findIdx fun x => (f x).isNone) = k
  | _, [], _, _, _, h, _ => by simp at h
  | 0, a :: xs, ys, x, h, h1, h2 => by
    simp at h1
    subst h1
    simp [allSome, h2, List.findIdx_cons]
  | k + 1, a :: xs, ys, x, h, h1, h2 => by
    simp only [List.take_succ_cons, allSome] at h
    split at h
    · cases h
    · rename_i b e1
      split at h
      · cases h
      · rename_i zs e2
        obtain ⟨a1, a2⟩ := first_none (k := k) (xs := xs) e2 (by simpa using h1) h2
        simp only [allSome, e1, a1, List.findIdx_cons, Option.isNone_some, cond_false, a2, and_self]
/-- four words -/
theorem head4 {a b c d : List Nat} : prHead [a, b, c, d] = if a = z_params ∧ c = z_names then (match numOf b, numOf d with | some p, some n => some (p, n) | _, _ => none) else none := by
  unfold prHead
  simp
end PG
end
section
set_option linter.all false
set_option autoImplicit false
set_option maxRecDepth 100003
set_option linter.all false
set_option maxHeartbeats 0
namespace PG
open PF
theorem read_res {S : Sto} {l : List Nat} (hl : l.length ≤ 9000) (hc : Tx l) : wpx (f_read [.str l] S) (fun d S' => (∃ p n rows, rdOf l = .prog p n rows ∧ npRes p n rows = none ∧ d = progD p n rows) ∧ Keep [] S S')
    fun e S' => ((∃ i, rdOf l = .text i ∧ e = ⟨16, some (.int i)⟩) ∨ ∃ p n rows r, rdOf l = .prog p n rows ∧ npRes p n rows = some r ∧ e = ⟨15, some (.int r)⟩) ∧ Keep [] S S' := by
  have hlim : l.length + 2 ≤ LIM := by unfold LIM; omega
  unfold f_read b_read
  refine wy_fn ⟨by simp, ?_⟩
  simp only [List.map_cons, List.map_nil, List.length_cons, List.length_nil, Nat.zero_add, Nat.reduceAdd, Nat.reduceSub, List.replicate_succ, List.replicate_zero, List.cons_append, List.nil_append]
  have rb := @rd_bad l
  have rrb := @rd_row_bad l
  have rp := @rd_prog l
  have hsm := spl_small (s := nl) (l := l)
  have hln := spl_len (s := nl) 0 [] l
  have htx := spl_tx (s := nl) hc
  have hne := spl_ne (s := nl) 0 [] l
  rw [wy_seq]
  refine wy_of ?_
  simp only [w_set, v_s1, v_var, w_c, List.getElem?_cons_zero, on_some, List.set_cons_succ, List.set_cons_zero]
  refine ⟨rfl, ?_⟩
  rw [w_split (by decide) (by decide) hlim]
  have e00 : spl z___38 0 [] l = spl nl 0 [] l := rfl
  rw [e00]
  generalize spl nl 0 [] l = ls at *
  obtain ⟨h, ls, rfl⟩ : ∃ w r, ls = w :: r := by
    cases ls with
    | nil => exact absurd rfl hne
    | cons w r => exact ⟨w, r, rfl⟩
  rw [List.length_cons] at hln
  simp only [List.headD_cons, List.tail_cons] at rb rrb rp
  have g1 : (S ++ [MO.lst ((h :: ls).map D.str)])[S.length]? = some (.lst (.str h :: ls.map .str)) := get_last
  have k1 : Keep [] S (S ++ [MO.lst ((h :: ls).map D.str)]) := .app
  generalize S.length = lr at *
  generalize S ++ [MO.lst ((h :: ls).map D.str)] = S1 at *
  have hh : h.length ≤ l.length := hsm h List.mem_cons_self
  have hhc : Tx h := htx h List.mem_cons_self
  rw [wy_seq]
  refine wy_of ?_
  simp only [w_set, v_s1, w_e2, v_var, w_c, List.getElem?_cons_succ, List.getElem?_cons_zero, on_some, v_ixL, lstOf_lst g1, at0, List.set_cons_succ, List.set_cons_zero]
  refine ⟨rfl, ?_⟩
  rw [w_split (by decide) (by decide) (by omega)]
  have e01 : spl z__ 0 [] h = spl sp 0 [] h := rfl
  rw [e01]
  have wsm := spl_small (s := sp) (l := h)
  have wln := spl_len (s := sp) 0 [] h
  have wtx := spl_tx (s := sp) hhc
  have wne := spl_ne (s := sp) 0 [] h
  generalize spl sp 0 [] h = ws at *
  have g2 : (S1 ++ [MO.lst (ws.map D.str)])[S1.length]? = some (.lst (ws.map .str)) := get_last
  have g12 := get_app (U := [MO.lst (ws.map D.str)]) g1
  have k2 : Keep [] S (S1 ++ [MO.lst (ws.map D.str)]) := k1.trans .app
  generalize S1.length = wr at *
  generalize S1 ++ [MO.lst (ws.map D.str)] = S2 at *
  rw [wy_seq]
  refine wy_of ?_
  have we : ∀ P : D → Sto → Prop, wp (eEvery (eVar 2) (oSome (eC (.int 1))) [some (.str l), some (.ref lr), some (.ref wr), none, none, none, none, none, none, none] S2) P = P (.ref S2.length) (S2 ++ [.lst ((every2 (ws.drop 1)).map .str)]) := fun P => by
    rw [w_every (k := 1) (fun Q => w_var rfl) (fun Q => by rw [w_osome, w_c]; simp) g2, ← List.map_drop, every2_map]
  simp only [w_set, w_comp, v_iseq, we, seqOf, wipe, List.set_cons_succ, List.set_cons_zero]
  have htl : ∀ x ∈ every2 (ws.drop 1), x ∈ ws := fun x hx => List.mem_of_mem_drop (every2_mem hx)
  have hel : (every2 (ws.drop 1)).length ≤ 9001 := Nat.le_trans every2_len (by rw [List.length_drop]; omega)
  have e4 : ∀ a b c d : List Nat, ws = [a, b, c, d] → every2 (ws.drop 1) = [b, d] := fun a b c d e => by subst e; rfl
  generalize every2 (ws.drop 1) = us at *
  have g3 : (S2 ++ [MO.lst (us.map D.str)])[S2.length]? = some (.lst (us.map .str)) := get_last
  have g13 := get_app (U := [MO.lst (us.map D.str)]) g12
  have g23 := get_app (U := [MO.lst (us.map D.str)]) g2
  have k3 : Keep [] S (S2 ++ [MO.lst (us.map D.str)]) := k2.trans .app
  generalize S2.length = er at *
  generalize S2 ++ [MO.lst (us.map D.str)] = S3 at *
  simp only [lstOf_lst g3, on_some, chkOf]
  refine wp_mono (nums_comp (it := ⟨[(er, us.map D.str)], us.map D.str⟩) (ws := us) (fun S x hx => number_of_res (Nat.le_trans (wsm x (htl x hx)) (by omega)) (wtx x (htl x hx))) rfl (fun S' k => by simp [Iter.same, lstOf_lst (k.at g3 (by simp))]) (by simp)) ?_
  rintro _ S4 ⟨rfl, k4⟩
  refine ⟨by rw [List.length_map, List.length_map]; unfold LIM; omega, ?_⟩
  have g5 : (S4 ++ [MO.lst ((us.map numOf).map onD)])[S4.length]? = some (.lst ((us.map numOf).map onD)) := get_last
  have g15 := get_app (U := [MO.lst ((us.map numOf).map onD)]) (k4.at g13 (by simp))
  have g25 := get_app (U := [MO.lst ((us.map numOf).map onD)]) (k4.at g23 (by simp))
  have k5 : Keep [] S (S4 ++ [MO.lst ((us.map numOf).map onD)]) := (k3.trans k4).trans .app
  generalize S4.length = nr at *
  generalize S4 ++ [MO.lst ((us.map numOf).map onD)] = S5 at *
  rw [wy_seq]
  refine wy_sif ?_
  have we2 : ∀ P : D → Sto → Prop, wp (eEvery (eVar 2) oNone [some (.str l), some (.ref lr), some (.ref wr), some (.ref nr), none, none, none, none, none, none] S5) P = P (.ref S5.length) (S5 ++ [.lst ((every2 ws).map .str)]) := fun P => by
    rw [w_every (k := 0) (fun Q => w_var rfl) (fun Q => by rw [w_onone]; simp) g25, List.drop_zero, every2_map]
  simp only [w_tor, w_te, w_e2, w_call, w_cons, w_nil, w_c, v_var, List.getElem?_cons_succ, List.getElem?_cons_zero, on_some, v_lenL, lstOf_lst g25, List.length_map, List.length_cons, List.length_nil, w_neI, ex_bl]
  by_cases c4 : ¬ ws.length = 4
  · rw [if_pos (by simp; omega)]
    simp only [if_true]
    refine wy_raise ?_
    simp only [w_cons, w_nil, w_c]
    exact ⟨.inl ⟨0, rb (by unfold prHead; rw [if_neg (fun g => c4 g.1)]), rfl⟩, k5⟩
  have c4' := Decidable.not_not.mp c4
  obtain ⟨wa, wb, wc, wd, rfl⟩ : ∃ a b c d, ws = [a, b, c, d] := by
    match ws, c4' with
    | [a, b, c, d], _ => exact ⟨a, b, c, d, rfl⟩
  obtain rfl : us = [wb, wd] := e4 wa wb wc wd rfl
  rw [head4] at rb rrb rp
  rw [if_neg (by simp)]
  simp only [we2, w_lst, w_cons, w_nil, w_c]
  have ee : every2 [wa, wb, wc, wd] = [wa, wc] := rfl
  rw [ee]
  have el : ([D.str z_params, D.str z_names] : List D) = [z_params, z_names].map D.str := rfl
  rw [el]
  have g6 : ((S5 ++ [MO.lst ([wa, wc].map D.str)]) ++ [MO.lst ([z_params, z_names].map D.str)])[S5.length]? = some (.lst ([wa, wc].map .str)) := get_app get_last
  have g7 : ((S5 ++ [MO.lst ([wa, wc].map D.str)]) ++ [MO.lst ([z_params, z_names].map D.str)])[(S5 ++ [MO.lst ([wa, wc].map D.str)]).length]? = some (.lst ([z_params, z_names].map .str)) := get_last
  have g17 := get_app (U := [MO.lst ([z_params, z_names].map D.str)]) (get_app (U := [MO.lst ([wa, wc].map D.str)]) g15)
  have g57 := get_app (U := [MO.lst ([z_params, z_names].map D.str)]) (get_app (U := [MO.lst ([wa, wc].map D.str)]) g5)
  have k7 : Keep [] S ((S5 ++ [MO.lst ([wa, wc].map D.str)]) ++ [MO.lst ([z_params, z_names].map D.str)]) := (k5.trans .app).trans .app
  have eqs := eq_strs2 (lstOf_lst g6) (lstOf_lst g7) (fun y hy => wtx y (by simp at hy ⊢; rcases hy with rfl | rfl <;> simp)) (by unfold Tx; decide)
  generalize ((S5 ++ [MO.lst ([wa, wc].map D.str)]) ++ [MO.lst ([z_params, z_names].map D.str)]) = S7 at *
  simp only [v_ne, eqs, on_some, ex_bl]
  by_cases cw : ¬ (wa = z_params ∧ wc = z_names)
  · rw [if_pos (by simp; exact Decidable.not_and_iff_not_or_not.mp cw)]
    simp only [if_true]
    refine wy_raise ?_
    simp only [w_cons, w_nil, w_c]
    exact ⟨.inl ⟨0, rb (by rw [if_neg cw]), rfl⟩, k7⟩
  have cw' := Decidable.not_not.mp cw
  rw [if_pos cw'] at rb rrb rp
  rw [if_neg (by simpa using cw')]
  simp only [v_in, inB_onD (lstOf_lst g57), on_some, ex_bl]
  cases eb : numOf wb with
  | none =>
    rw [if_pos (by simp [eb])]
    refine wy_raise ?_
    simp only [w_cons, w_nil, w_c]
    exact ⟨.inl ⟨0, rb (by rw [eb]), rfl⟩, k7⟩
  | some P =>
  cases ed : numOf wd with
  | none =>
    rw [if_pos (by simp [ed])]
    refine wy_raise ?_
    simp only [w_cons, w_nil, w_c]
    exact ⟨.inl ⟨0, rb (by rw [eb, ed]), rfl⟩, k7⟩
  | some N =>
  rw [if_neg (by simp [eb, ed])]
  have en : (([wb, wd].map numOf).map onD) = [.int P, .int N] := by simp [eb, ed, onD]
  rw [en] at g57
  rw [eb, ed] at rrb rp
  refine wy_of ?_
  rw [w_next]
  dsimp only
  rw [wy_seq]
  refine wy_of ?_
  simp only [w_set, w_lst, w_nil, List.set_cons_succ, List.set_cons_zero]
  have g8 : (S7 ++ [MO.lst []])[S7.length]? = some (.lst []) := get_last
  have g18 := get_app (U := [MO.lst []]) g17
  have g58 := get_app (U := [MO.lst []]) g57
  have k8 : Keep [] S (S7 ++ [MO.lst []]) := k7.trans .app
  have nro : S7.length ≠ nr := by have := lt_of_get g57; omega
  have nrs : S.length ≤ S7.length := k7.len
  generalize S7.length = rr at *
  generalize S7 ++ [MO.lst []] = S8 at *
  rw [wy_seq]
  refine wy_sfor ?_
  simp only [v_enum, w_slice, w_osome, w_onone, v_var, w_c, List.getElem?_cons_succ, List.getElem?_cons_zero, on_some, ex_int, w_gslL (lstOf_lst g18), List.map_cons, cut_tail]
  have er9 : (S8 ++ [MO.lst (ls.map D.str)])[S8.length]? = some (.lst (ls.map D.str)) := get_last
  have g9 := get_app (U := [MO.lst (ls.map D.str)]) g8
  have g59 := get_app (U := [MO.lst (ls.map D.str)]) g58
  have k9 : Keep [] S (S8 ++ [MO.lst (ls.map D.str)]) := k8.trans .app
  have nsr : S8.length ≠ rr := by have := lt_of_get g8; omega
  generalize S8.length = sr at *
  generalize S8 ++ [MO.lst (ls.map D.str)] = S9 at *
  simp only [seqZ, seqOf, chkOf, lstOf_lst er9, on_some]
  refine wy_for (it := ⟨[(sr, ls.map D.str)], enumD 0 (ls.map D.str)⟩) (fun k ρ S' => ∃ rows, allSome rowOf (ls.take k) = some rows ∧ (∃ c5 c6 c7, ρ = [some (.str l), some (.ref lr), some (.ref wr), some (.ref nr), some (.ref rr), c5, c6, c7, none, none]) ∧ S'[rr]? = some (.lst (rows.map Row.D)) ∧ Keep [rr] S9 S') (fun k ρ S' h => by obtain ⟨rows, _, _, _, h⟩ := h; simp [Iter.same, lstOf_lst (h.at er9 (by simp; exact nsr))]) ?_ ⟨[], by simp [allSome], ⟨_, _, _, rfl⟩, g9, .refl⟩ ?_
  · rintro k x ρ S10 hx ⟨rows, ha, ⟨c5, c6, c7, rfl⟩, g10, k10⟩
    obtain ⟨e, he, rfl⟩ := enum_map 0 _ k x hx
    rw [List.getElem?_map] at he
    cases er : ls[k]? with
    | none => rw [er] at he; cases he
    | some x =>
      rw [er] at he
      cases he
      have hm := List.mem_of_getElem? er
      have hkl : k < ls.length := (List.getElem?_eq_some_iff.mp er).1
      have hrl : rows.length ≤ k := by rw [allSome_len ha, List.length_take]; omega
      have hx1 := hsm x (List.mem_cons_of_mem _ hm)
      refine ⟨_, rfl, ?_⟩
      rw [wy_seq]
      refine wy_of ?_
      simp only [List.set_cons_succ, List.set_cons_zero, w_set, w_call, w_cons, w_nil, v_var, List.getElem?_cons_succ, List.getElem?_cons_zero, on_some]
      refine wp_mono (row_of_res (by omega) (by omega) (htx x (List.mem_cons_of_mem _ hm))) ?_
      rintro _ S11 ⟨rfl, k11⟩
      have g11 := k11.at g10 (by simp)
      rw [wy_seq]
      refine wy_sif ?_
      simp only [w_te, w_e1, v_var, List.getElem?_cons_succ, List.getElem?_cons_zero, on_some, w_isN, ex_bl]
      cases eo : rowOf x with
      | none =>
        obtain ⟨f1, f2⟩ := first_none ha er eo
        rw [if_pos (by simp [orD])]
        refine wy_raise ?_
        simp only [w_cons, w_nil, w_c, w_e2, v_var, List.getElem?_cons_succ, List.getElem?_cons_zero, on_some, w_add]
        refine ⟨.inl ⟨_, rrb rfl f1, ?_⟩, k9.past (k10.trans k11.all) (by simp; exact nrs)⟩
        rw [f2]
        show Exc.mk 16 (some (D.int (((0 + k : Nat) : Int) + 1))) = _
        congr 3
        omega
      | some row =>
        have nn : decide (orD (some row) = D.non) = false := by show decide (row.D = D.non) = false; rw [row_D]; rfl
        rw [if_neg (by rw [nn]; decide)]
        refine wy_of ?_
        rw [w_next]
        dsimp only
        refine wy_of ?_
        simp only [w_expr, v_m1, v_var, List.getElem?_cons_succ, List.getElem?_cons_zero, on_some, isL_lst g11, true_and, v_append, wrOf_lst g11]
        refine ⟨by rw [List.length_map]; unfold LIM; omega, rows ++ [row], ?_, ⟨_, _, _, rfl⟩, ?_, (k10.trans k11.all).trans (.set (by simp))⟩
        · rw [List.take_add_one, er]
          exact allSome_app (ys := rows) ha eo
        · rw [get_set (lt_of_get g11), List.map_append]
          rfl
  · rintro ρ S10 ⟨rows, ha, ⟨c5, c6, c7, rfl⟩, g10, k10⟩
    have elen : (Iter.mk [(sr, ls.map D.str)] (enumD 0 (ls.map D.str))).all.length = ls.length := by show (enumD 0 (ls.map D.str)).length = _; rw [enumD_length, List.length_map]
    rw [elen, List.take_length] at ha
    have hrl : rows.length = ls.length := allSome_len ha
    have g510 := k10.at g59 (by simp; omega)
    have k10' : Keep [] S S10 := k9.past k10 (by simp; exact nrs)
    have rpp := rp rfl ha
    rw [wy_seq]
    refine wy_of ?_
    simp only [w_set, w_tup, w_cons, w_nil, w_e2, w_call, w_c, v_var, List.getElem?_cons_succ, List.getElem?_cons_zero, on_some, v_ixL, lstOf_lst g510, at0, v_tupOf, seqOf, lstOf_lst g10, List.set_cons_succ, List.set_cons_zero]
    rw [show at? [D.int P, D.int N] 1 = some (.int N) from rfl, on_some]
    have epd : D.tup [.int P, .int N, .tup (rows.map Row.D)] = progD P N rows := rfl
    rw [epd]
    rw [wy_seq]
    refine wy_expr ?_
    refine wy_call ?_
    simp only [w_cons, w_nil, v_var, List.getElem?_cons_succ, List.getElem?_cons_zero, on_some]
    refine wy_mono (need_program_res (by omega)) ?_ ?_
    · rintro _ S11 ⟨hn, k11⟩
      refine wy_of ?_
      simp only [w_ret, v_var, List.getElem?_cons_succ, List.getElem?_cons_zero, on_some]
      exact ⟨⟨P, N, rows, rpp, hn, rfl⟩, k10'.trans k11⟩
    · rintro e S11 ⟨r, hr, rfl, k11⟩
      exact ⟨.inr ⟨P, N, rows, r, rpp, hr, rfl⟩, k10'.trans k11⟩
end PG
end
section
set_option linter.all false
set_option autoImplicit false
set_option maxRecDepth 100003
set_option linter.all false
set_option maxHeartbeats 0
namespace PG
open PF
theorem first_good {names m : Int} : ∀ {rows : List Row} {k : Nat}, firstBad names m k rows = none → k + rows.length ≤ 24 ∨ rows = [] 
  | [], _, _ => .inr rfl
  | r :: rs, k, h => by
    unfold firstBad at h
    split at h
    · cases h
    · rename_i c
      have c1 : ¬ 24 ≤ k := fun h => c (.inl h)
      rcases first_good h with h | h
      · left; simp only [List.length_cons]; omega
      · subst h; left; simp; omega
theorem first_all {names m : Int} : ∀ {rows : List Row} {k : Nat}, firstBad names m k rows = none → ∀ r ∈ rows, r.ok names m
  | r :: rs, k, h, x, hx => by
    unfold firstBad at h
    split at h
    · cases h
    · rename_i c
      rcases List.mem_cons.mp hx with rfl | hx
      · exact Decidable.not_not.mp fun h => c (.inr h)
      · exact first_all h x hx
theorem np_ok {p n : Int} {rows : List Row} (h : npRes p n rows = none) : ProgOk p n rows := by
  unfold npRes at h
  split at h
  · cases h
  · rename_i c
    have c1 : 1 ≤ n ∧ n ≤ 8 := Decidable.not_not.mp fun h => c (.inl h)
    have c2 : 0 ≤ p ∧ p ≤ n := Decidable.not_not.mp fun h => c (.inr (.inl h))
    have c3 : rows ≠ [] := fun h => c (.inr (.inr h))
    have hl : rows.length ≤ 24 := by
      rcases first_good h with h | h
      · omega
      · exact absurd h c3
    have e : min rows.length 24 = rows.length := by omega
    rw [e] at h
    exact ⟨c2, c1, ⟨List.length_pos_iff.mpr c3, hl⟩, first_all h⟩
theorem written_res {S : Sto} {p n : Int} {rows : List Row} (hl : rows.length ≤ 10000) : wpx (f_written [progD p n rows] S) (fun d S' => npRes p n rows = none ∧ d = .str (progT p n rows) ∧ Keep [] S S')
    fun e S' => ∃ r, npRes p n rows = some r ∧ e = ⟨15, some (.int r)⟩ ∧ Keep [] S S' := by
  cases h : npRes p n rows with
  | none => exact wy_of (wp_mono (written_spec (np_ok h)) fun _ _ g => ⟨rfl, g⟩)
  | some r =>
    unfold f_written b_written
    refine wy_fn ⟨by simp, ?_⟩
    simp only [List.map_cons, List.map_nil, List.length_cons, List.length_nil, Nat.zero_add, Nat.reduceAdd, Nat.reduceSub, List.replicate_succ, List.replicate_zero, List.cons_append, List.nil_append]
    rw [wy_seq]
    refine wy_expr ?_
    refine wy_call ?_
    simp only [w_cons, w_nil, v_var, List.getElem?_cons_succ, List.getElem?_cons_zero, on_some]
    refine wy_mono (need_program_res hl) ?_ ?_
    · rintro _ S1 ⟨hn, _⟩
      rw [h] at hn
      cases hn
    · rintro e S1 ⟨r2, hr, rfl, k1⟩
      rw [h] at hr
      exact ⟨r2, hr, rfl, k1⟩
/-- parts joined again -/
theorem join_spl {s : List Nat} (hs : s ≠ []) : ∀ (k : Nat) (acc l : List Nat), joinL s (spl s k acc l) = acc ++ l.drop k
  | _, acc, [] => by simp [spl, joinL]
  | 0, acc, c :: r => by
    unfold spl
    split
    · rename_i h
      rw [beq_iff_eq] at h
      rw [joinL_cons (spl_ne _ _ _), join_spl hs]
      obtain ⟨a, q, rfl⟩ : ∃ a q, s = a :: q := by
        cases s with
        | nil => exact absurd rfl hs
        | cons a q => exact ⟨a, q, rfl⟩
      simp only [List.length_cons, List.take_succ_cons, List.cons.injEq] at h
      simp only [List.length_cons, Nat.add_sub_cancel, List.nil_append, List.drop_zero]
      rw [List.cons_append]
      congr 1
      obtain ⟨h1, h2⟩ := h
      rw [h1]
      congr 1
      conv => lhs; arg 1; rw [← h2]
      exact List.take_append_drop _ _
    · rw [join_spl hs]
      simp
  | k + 1, acc, c :: r => by
    unfold spl
    rw [join_spl hs]
    simp
theorem join_spl0 {s l : List Nat} (hs : s ≠ []) : joinL s (spl s 0 [] l) = l := by rw [join_spl hs]; simp
theorem nums_words : ∀ {ws : List (List Nat)} {ns : List Int}, allSome numOf ws = some ns → ns.map strI = ws ∧ ∀ i ∈ ns, 0 ≤ i ∧ i < 1000
  | [], ns, h => by simp only [allSome] at h; cases h; exact ⟨rfl, fun _ h => nomatch h⟩
  | w :: ws, ns, h => by
    simp only [allSome] at h
    split at h
    · cases h
    · rename_i i e1
      split at h
      · cases h
      · rename_i is e2
        cases h
        obtain ⟨a, b⟩ := nums_words e2
        obtain ⟨c1, c2⟩ := numOf_some e1
        refine ⟨by rw [List.map_cons, c1, a], ?_⟩
        intro j hj
        rcases List.mem_cons.mp hj with rfl | hj
        · exact c2
        · exact b j hj
theorem row_words {l : List Nat} {r : Row} (h : rowOf l = some r) : rowT r = l ∧ ∀ i ∈ r.nums, 0 ≤ i ∧ i < 1000 := by
  have e : joinL sp (spl sp 0 [] l) = l := join_spl0 (by decide)
  unfold rowOf at h
  cases hw : spl sp 0 [] l with
  | nil => exact absurd hw (spl_ne _ _ _)
  | cons w ws =>
    rw [hw] at h e
    rw [rowW_cons] at h
    split at h
    · cases h
    · rename_i ns en
      by_cases ha : ar w = some ns.length
      · obtain ⟨r2, e2, hw2, hn2⟩ := mk_some ha
        rw [e2] at h
        cases h
        obtain ⟨a, b⟩ := nums_words en
        refine ⟨?_, by rw [hn2]; exact b⟩
        unfold rowT words
        rw [hw2, hn2, a]
        exact e
      · rw [mk_none ha] at h
        cases h
theorem rows_words : ∀ {ls : List (List Nat)} {rows : List Row}, allSome rowOf ls = some rows → rows.map rowT = ls
  | [], rows, h => by simp only [allSome] at h; cases h; rfl
  | w :: ws, rows, h => by
    simp only [allSome] at h
    split at h
    · cases h
    · rename_i i e1
      split at h
      · cases h
      · rename_i is e2
        cases h
        rw [List.map_cons, rows_words e2, (row_words e1).1]
theorem rd_text {l : List Nat} {p n : Int} {rows : List Row} (h : rdOf l = .prog p n rows) : progT p n rows = l ∧ allSome rowOf (spl nl 0 [] l).tail = some rows := by
  have e : joinL nl (spl nl 0 [] l) = l := join_spl0 (by decide)
  unfold rdOf at h
  cases hw : spl nl 0 [] l with
  | nil => exact absurd hw (spl_ne _ _ _)
  | cons x xs =>
    rw [hw] at h e
    simp only [List.headD_cons, List.tail_cons] at h ⊢
    split at h
    · cases h
    · rename_i p2 n2 hh
      split at h
      · cases h
      · rename_i rows2 hr
        cases h
        refine ⟨?_, hr⟩
        unfold progT
        rw [rows_words hr]
        have ex : joinL sp (spl sp 0 [] x) = x := join_spl0 (by decide)
        have eh : headT p n = x := by
          unfold prHead at hh
          split at hh
          · rename_i c
            obtain ⟨c1, c2, c3⟩ := c
            match hs : spl sp 0 [] x, c1 with
            | [a, b, c, d], _ =>
              rw [hs] at hh c2 c3 ex
              simp at c2 c3
              subst c2 c3
              split at hh
              · rename_i p3 n3 e1 e2
                cases hh
                simp at e1 e2
                unfold headT
                rw [(numOf_some e1).1, (numOf_some e2).1]
                exact ex
              · cases hh
          · cases hh
        rw [eh]
        exact e
end PG
end
section
set_option linter.all false
set_option autoImplicit false
set_option maxRecDepth 100003
set_option linter.all false
set_option maxHeartbeats 0
namespace PG
open PF
def orJ : Option Row → J
  | none => .non
  | some r => .tup (.str r.w :: r.nums.map .int)
theorem tree_rowD {S : Sto} {n : Nat} {r : Row} : tree S (n + 1) r.D = some (.tup (.str r.w :: r.nums.map .int)) := by
  have ew : tree S n (.str r.w) = some (.str r.w) := tree_str fun c hc => by have := w_sign hc; omega
  rw [row_D]
  simp only [tree, allSome, ew, tree_ints]
theorem tree_orD {S : Sto} {n : Nat} {o : Option Row} : tree S (n + 1) (orD o) = some (orJ o) := by
  cases o with
  | none => simp only [orD, orJ, tree]
  | some r => exact tree_rowD
theorem trees_orD {S : Sto} {n : Nat} : ∀ {os : List (Option Row)}, allSome (tree S (n + 1)) (os.map orD) = some (os.map orJ)
  | [] => rfl
  | o :: os => by simp only [List.map_cons, allSome, tree_orD, trees_orD (os := os)]
theorem eqv_orJ (o : Option Row) : J.eqv (orJ o) .non = o.isNone := by
  cases o <;> rfl
theorem inB_orD {S : Sto} {n : Nat} {os : List (Option Row)} (h : lstOf n S = some (os.map orD)) : inB .non (.ref n) S = some (os.any (·.isNone)) := by
  have e0 : tree S EQD .non = some .non := by show tree S (39 + 1) .non = _; simp only [tree]
  have e1 : allSome (tree S EQD) (os.map orD) = some (os.map orJ) := trees_orD (n := 39)
  unfold inB
  simp only [h]
  unfold inTree
  rw [e0, e1]
  show some ((os.map _).any fun z => J.eqv z .non) = _
  rw [List.any_map]
  congr 2
  funext o
  exact eqv_orJ o
theorem w_indexN {S : Sto} {P : D → Sto → Prop} {n : Nat} {os : List (Option Row)} (h : lstOf n S = some (os.map orD)) (ha : os.any (·.isNone) = true) : wp (mIndexN (.ref n) .non S) P = P (.int ((os.findIdx fun o => o.isNone : Nat) : Int)) S := by
  have e0 : tree S EQD .non = some .non := by show tree S (39 + 1) .non = _; simp only [tree]
  have e1 : allSome (tree S EQD) (os.map orD) = some (os.map orJ) := trees_orD (n := 39)
  have ef : (os.map orJ).findIdx (fun z => J.eqv z .non) = os.findIdx fun o => o.isNone := by
    rw [List.findIdx_map]
    congr 1
    funext o
    exact eqv_orJ o
  unfold mIndexN
  simp only [h, e0, e1, ef, List.length_map]
  rw [if_pos, wp_ok]
  rw [List.findIdx_lt_length]
  obtain ⟨x, hx, hy⟩ := List.any_eq_true.mp ha
  exact ⟨x, hx, hy⟩
theorem eq_toldS {S : Sto} {w l : List Nat} {r : Int} (hw : Tx w) (hl : Tx l) : eqF S (.tup [.str w, .int r]) (.str l) = some false := by
  show eqT S _ _ = _
  unfold eqT
  have ea : tree S EQD (.tup [.str w, .int r]) = some (.tup [.str w, .int r]) := by
    show tree S (39 + 1) _ = _
    simp only [tree, allSome, if_pos (List.all_eq_true.mpr fun c hc => decide_eq_true (hw c hc))]
  have eb : tree S EQD (.str l) = some (.str l) := tree_str hl
  rw [ea, eb]
  rfl
theorem rdD_ok {p n : Int} {rows : List Row} (h : npRes p n rows = none) : rdD (.prog p n rows) = progD p n rows := by
  unfold rdD; dsimp only; rw [h]
theorem rdD_err {p n r : Int} {rows : List Row} (h : npRes p n rows = some r) : rdD (.prog p n rows) = .tup [.str [66, 97, 100, 80, 114, 111, 103, 114, 97, 109], .int r] := by
  unfold rdD; dsimp only; rw [h]
def TabsAt (S : Sto) : Prop := S[1]? = some (.ins 20 []) ∧ S[2]? = some (.ins 21 [])
theorem TabsAt.keep {S S' : Sto} {W : List Nat} (h : TabsAt S) (k : Keep W S S') (h1 : 1 ∉ W) (h2 : 2 ∉ W) : TabsAt S' := ⟨k.at h.1 h1, k.at h.2 h2⟩
theorem TabsAt.all {S : Sto} (h : TabsAt S) : ([(1, 20), (2, 21)] : List (Nat × Nat)).all (fun p => decide (S[p.1]? = some (.ins p.2 []))) = true := by
  simp [h.1, h.2]
theorem law_read_res {S : Sto} {l : List Nat} (hT : TabsAt S) (hl : l.length ≤ 9000) (hc : Tx l) : wp (f__law_read [.str l] S) fun d S' => d = rdD (rdOf l) ∧ Keep [] S S' := by
  have hlim : l.length + 2 ≤ LIM := by unfold LIM; omega
  unfold f__law_read b__law_read
  rw [w_fn]
  refine ⟨by simp, ?_⟩
  simp only [List.map_cons, List.map_nil, List.length_cons, List.length_nil, Nat.zero_add, Nat.reduceAdd, Nat.reduceSub, List.replicate_succ, List.replicate_zero, List.cons_append, List.nil_append]
  have rb := @rd_bad l
  have rrb := @rd_row_bad l
  have rp := @rd_prog l
  have rt := @rd_text l
  have hsm := spl_small (s := nl) (l := l)
  have hln := spl_len (s := nl) 0 [] l
  have htx := spl_tx (s := nl) hc
  have hne := spl_ne (s := nl) 0 [] l
  rw [w_seq]
  simp only [w_set, v_s1, v_var, w_c, List.getElem?_cons_zero, on_some, List.set_cons_succ, List.set_cons_zero]
  refine ⟨rfl, ?_⟩
  rw [w_split (by decide) (by decide) hlim]
  have e00 : spl z___38 0 [] l = spl nl 0 [] l := rfl
  rw [e00]
  generalize spl nl 0 [] l = ls at *
  obtain ⟨h, ls, rfl⟩ : ∃ w r, ls = w :: r := by
    cases ls with
    | nil => exact absurd rfl hne
    | cons w r => exact ⟨w, r, rfl⟩
  rw [List.length_cons] at hln
  simp only [List.headD_cons, List.tail_cons] at rb rrb rp rt
  have g1 : (S ++ [MO.lst ((h :: ls).map D.str)])[S.length]? = some (.lst (.str h :: ls.map .str)) := get_last
  have k1 : Keep [] S (S ++ [MO.lst ((h :: ls).map D.str)]) := .app
  generalize S.length = lr at *
  generalize S ++ [MO.lst ((h :: ls).map D.str)] = S1 at *
  have hh : h.length ≤ l.length := hsm h List.mem_cons_self
  have hhc : Tx h := htx h List.mem_cons_self
  rw [w_seq]
  simp only [w_set, v_s1, w_e2, v_var, w_c, List.getElem?_cons_succ, List.getElem?_cons_zero, on_some, v_ixL, lstOf_lst g1, at0, List.set_cons_succ, List.set_cons_zero]
  refine ⟨rfl, ?_⟩
  rw [w_split (by decide) (by decide) (by omega)]
  have e01 : spl z__ 0 [] h = spl sp 0 [] h := rfl
  rw [e01]
  have wsm := spl_small (s := sp) (l := h)
  have wln := spl_len (s := sp) 0 [] h
  have wtx := spl_tx (s := sp) hhc
  have wne := spl_ne (s := sp) 0 [] h
  generalize spl sp 0 [] h = ws at *
  have g2 : (S1 ++ [MO.lst (ws.map D.str)])[S1.length]? = some (.lst (ws.map .str)) := get_last
  have g12 := get_app (U := [MO.lst (ws.map D.str)]) g1
  have k2 : Keep [] S (S1 ++ [MO.lst (ws.map D.str)]) := k1.trans .app
  generalize S1.length = wr at *
  generalize S1 ++ [MO.lst (ws.map D.str)] = S2 at *
  rw [w_seq]
  simp only [w_sif, w_tor, w_te, w_e2, w_call, w_cons, w_nil, w_c, v_var, List.getElem?_cons_succ, List.getElem?_cons_zero, on_some, v_lenL, lstOf_lst g2, List.length_map, w_neI, ex_bl]
  by_cases c4 : ¬ ws.length = 4
  · rw [if_pos (by simp; omega)]
    simp only [if_true, w_ret, w_tup, w_cons, w_nil, w_c]
    rw [rb (by unfold prHead; rw [if_neg (fun g => c4 g.1)])]
    exact ⟨rfl, k2⟩
  have c4' := Decidable.not_not.mp c4
  obtain ⟨wa, wb, wc, wd, rfl⟩ : ∃ a b c d, ws = [a, b, c, d] := by
    match ws, c4' with
    | [a, b, c, d], _ => exact ⟨a, b, c, d, rfl⟩
  rw [head4] at rb rrb rp
  have ix0 : ∀ (S : Sto) (P : D → Sto → Prop), S[wr]? = some (.lst ([wa, wb, wc, wd].map .str)) → wp (gIx (.ref wr) (.int 0) S) P = P (.str wa) S := fun S P g => by rw [v_ixL, lstOf_lst g, on_some, at0]; simp only [List.map_cons, List.getElem?_cons_zero, on_some]
  have ix1 : ∀ (S : Sto) (P : D → Sto → Prop), S[wr]? = some (.lst ([wa, wb, wc, wd].map .str)) → wp (gIx (.ref wr) (.int 1) S) P = P (.str wb) S := fun S P g => by rw [v_ixL, lstOf_lst g, on_some, at_lit 1 1 rfl]; simp only [List.map_cons, List.getElem?_cons_zero, List.getElem?_cons_succ, on_some]
  have ix2 : ∀ (S : Sto) (P : D → Sto → Prop), S[wr]? = some (.lst ([wa, wb, wc, wd].map .str)) → wp (gIx (.ref wr) (.int 2) S) P = P (.str wc) S := fun S P g => by rw [v_ixL, lstOf_lst g, on_some, at_lit 2 2 rfl]; simp only [List.map_cons, List.getElem?_cons_zero, List.getElem?_cons_succ, on_some]
  have ix3 : ∀ (S : Sto) (P : D → Sto → Prop), S[wr]? = some (.lst ([wa, wb, wc, wd].map .str)) → wp (gIx (.ref wr) (.int 3) S) P = P (.str wd) S := fun S P g => by rw [v_ixL, lstOf_lst g, on_some, at_lit 3 3 rfl]; simp only [List.map_cons, List.getElem?_cons_zero, List.getElem?_cons_succ, on_some]
  rw [if_neg (by simp)]
  simp only [ix0 _ _ g2, ix2 _ _ g2, w_neS, ex_bl]
  by_cases ca : ¬ wa = z_params
  · rw [if_pos (by simpa using ca)]
    simp only [if_true, w_ret, w_tup, w_cons, w_nil, w_c]
    rw [rb (by rw [if_neg fun g => ca g.1])]
    exact ⟨rfl, k2⟩
  have ca' := Decidable.not_not.mp ca
  rw [if_neg (by simpa using ca')]
  by_cases cc : ¬ wc = z_names
  · rw [if_pos (by simpa using cc)]
    simp only [w_ret, w_tup, w_cons, w_nil, w_c]
    rw [rb (by rw [if_neg fun g => cc g.2])]
    exact ⟨rfl, k2⟩
  have cc' := Decidable.not_not.mp cc
  rw [if_neg (by simpa using cc')]
  rw [if_pos ⟨ca', cc'⟩] at rb rrb rp
  rw [w_next]
  dsimp only
  have bb := wsm wb (by simp)
  have bd := wsm wd (by simp)
  have nb : ∀ S : Sto, wp (f__law_number [.str wb] S) fun d S' => d = onD (numOf wb) ∧ Keep [] S S' := fun S => law_number_res (by omega) (wtx wb (by simp))
  have nd : ∀ S : Sto, wp (f__law_number [.str wd] S) fun d S' => d = onD (numOf wd) ∧ Keep [] S S' := fun S => law_number_res (by omega) (wtx wd (by simp))
  rw [w_seq]
  simp only [w_sif, w_tor, w_te, w_e1, w_e2, w_call, w_cons, w_nil, w_c, v_var, List.getElem?_cons_succ, List.getElem?_cons_zero, on_some, ix1 _ _ g2]
  refine wp_mono (nb _) ?_
  rintro _ S3 ⟨rfl, k3⟩
  have g13 := k3.at g12 (by simp)
  have g23 := k3.at g2 (by simp)
  have k3' := k2.trans k3
  simp only [w_isN, ex_bl]
  cases eb : numOf wb with
  | none =>
    rw [if_pos (by simp [onD])]
    simp only [if_true, w_ret, w_tup, w_cons, w_nil, w_c]
    rw [rb (by rw [eb])]
    exact ⟨rfl, k3'⟩
  | some P =>
  rw [if_neg (by simp [onD])]
  simp only [ix3 _ _ g23]
  refine wp_mono (nd _) ?_
  rintro _ S4 ⟨rfl, k4⟩
  have g14 := k4.at g13 (by simp)
  have g24 := k4.at g23 (by simp)
  have k4' := k3'.trans k4
  cases ed : numOf wd with
  | none =>
    rw [if_pos (by simp [onD])]
    simp only [w_ret, w_tup, w_cons, w_nil, w_c]
    rw [rb (by rw [eb, ed])]
    exact ⟨rfl, k4'⟩
  | some N =>
  rw [if_neg (by simp [onD]), w_next]
  dsimp only
  rw [eb, ed] at rrb rp
  rw [w_seq]
  simp only [w_set, w_comp, v_iseq, w_slice, w_osome, w_onone, v_var, w_c, List.getElem?_cons_succ, List.getElem?_cons_zero, on_some, ex_int, w_gslL (lstOf_lst g14), cut_tail, wipe, List.set_cons_succ, List.set_cons_zero]
  have g5 : (S4 ++ [MO.lst (ls.map D.str)])[S4.length]? = some (.lst (ls.map D.str)) := get_last
  have g25 := get_app (U := [MO.lst (ls.map D.str)]) g24
  have k5' : Keep [] S (S4 ++ [MO.lst (ls.map D.str)]) := k4'.trans .app
  generalize S4.length = sr at *
  generalize S4 ++ [MO.lst (ls.map D.str)] = S5 at *
  simp only [seqOf, chkOf, lstOf_lst g5, on_some]
  refine wp_mono (comp_mapK (it := ⟨[(sr, ls.map D.str)], ls.map D.str⟩) (xs := ls) (φ := .str) (f := fun w => orD (rowOf w)) rfl (fun S' k => by simp [Iter.same, lstOf_lst (k.at g5 (by simp))]) fun x hx S1 k1 => ?_) ?_
  · simp only [List.set_cons_succ, List.set_cons_zero, w_call, w_cons, w_nil, v_var, List.getElem?_cons_succ, List.getElem?_cons_zero, on_some]
    have hx1 := hsm x (List.mem_cons_of_mem _ hx)
    exact law_line_res (by omega) (by omega) (htx x (List.mem_cons_of_mem _ hx))
  rintro _ S6 ⟨rfl, k6⟩
  refine ⟨by rw [List.length_map]; unfold LIM; omega, ?_⟩
  have em : (ls.map fun w => orD (rowOf w)) = (ls.map rowOf).map orD := by rw [List.map_map]; rfl
  rw [em]
  have g7 : (S6 ++ [MO.lst ((ls.map rowOf).map orD)])[S6.length]? = some (.lst ((ls.map rowOf).map orD)) := get_last
  have g27 := get_app (U := [MO.lst ((ls.map rowOf).map orD)]) (k6.at g25 (by simp))
  have k7' : Keep [] S (S6 ++ [MO.lst ((ls.map rowOf).map orD)]) := (k5'.trans k6).trans .app
  generalize S6.length = rr at *
  generalize S6 ++ [MO.lst ((ls.map rowOf).map orD)] = S7 at *
  rw [w_seq]
  simp only [w_sif, w_te, w_e2, w_c, v_var, List.getElem?_cons_succ, List.getElem?_cons_zero, on_some, v_in, inB_orD (lstOf_lst g7), ex_bl]
  have ea : (ls.map rowOf).any (·.isNone) = (allSome rowOf ls).isNone := by rw [List.any_map]; exact allSome_any
  cases es : allSome rowOf ls with
  | none =>
    rw [es] at ea
    have ea : (ls.map rowOf).any (·.isNone) = true := ea
    rw [if_pos ea]
    simp only [w_ret, w_tup, w_cons, w_nil, w_e2, w_c, v_m1, v_var, List.getElem?_cons_succ, List.getElem?_cons_zero, on_some, isL_lst g7, true_and, w_indexN (lstOf_lst g7) ea, w_add]
    rw [rrb rfl es, List.findIdx_map]
    exact ⟨rfl, k7'⟩
  | some rows =>
    rw [es] at ea
    have ea : (ls.map rowOf).any (·.isNone) = false := ea
    rw [ea, if_neg (by decide), w_next]
    dsimp only
    have hrl : rows.length = ls.length := allSome_len es
    have eD : (ls.map rowOf).map orD = rows.map Row.D := by
      have : ∀ {ls : List (List Nat)} {rows : List Row}, allSome rowOf ls = some rows → (ls.map rowOf).map orD = rows.map Row.D := by
        intro ls
        induction ls with
        | nil => intro rows h; simp only [allSome] at h; cases h; rfl
        | cons x xs ih =>
          intro rows h
          simp only [allSome] at h
          split at h
          · cases h
          · rename_i e1
            split at h
            · cases h
            · rename_i e2
              cases h
              rw [List.map_cons, List.map_cons, List.map_cons, ih e2, e1]
              rfl
      exact this es
    rw [eD] at g7
    rw [w_seq]
    simp only [w_set, w_tup, w_call, w_cons, w_nil, w_e2, w_c, v_var, List.getElem?_cons_succ, List.getElem?_cons_zero, on_some, ix1 _ _ g27]
    refine wp_mono (nb _) ?_
    rintro _ S8 ⟨rfl, k8⟩
    have g28 := k8.at g27 (by simp)
    have g78 := k8.at g7 (by simp)
    simp only [ix3 _ _ g28]
    refine wp_mono (nd _) ?_
    rintro _ S9 ⟨rfl, k9⟩
    have g79 := k9.at g78 (by simp)
    have k9' := (k7'.trans k8).trans k9
    simp only [v_tupOf, seqOf, lstOf_lst g79, on_some, eb, ed, onD, List.set_cons_succ, List.set_cons_zero]
    have epd : D.tup [.int P, .int N, .tup (rows.map Row.D)] = progD P N rows := rfl
    rw [epd]
    have rpp := rp rfl es
    have hT9 := hT.keep k9' (by simp) (by simp)
    rw [w_seq]
    rw [w_set]
    refine wy_told hT9.all ?_
    refine wy_call ?_
    simp only [w_cons, w_nil, v_var, List.getElem?_cons_succ, List.getElem?_cons_zero, on_some]
    refine wy_mono (written_res (by omega)) ?_ ?_
    · rintro _ S10 ⟨hn, rfl, k10⟩
      simp only [List.set_cons_succ, List.set_cons_zero, w_ret, w_if, w_te, w_e2, v_var, List.getElem?_cons_succ, List.getElem?_cons_zero, on_some, w_eqS, ex_bl]
      rw [(rt rpp).1, if_pos (by simp), rpp]
      rw [rdD_ok hn]
      exact ⟨rfl, k9'.trans k10⟩
    · rintro e S10 ⟨r, hr, rfl, k10⟩
      rw [tell15]
      simp only [List.set_cons_succ, List.set_cons_zero, w_ret, w_if, w_te, w_e2, v_var, List.getElem?_cons_succ, List.getElem?_cons_zero, on_some]
      rw [v_eq, eq_toldS (by unfold Tx; decide) hc, on_some]
      simp only [ex_bl]
      rw [if_neg (by decide), rpp]
      rw [rdD_err hr]
      exact ⟨rfl, k9'.trans k10⟩
end PG
end
section
set_option linter.all false
set_option autoImplicit false
set_option maxRecDepth 100003
set_option linter.all false
set_option maxHeartbeats 0
namespace PG
open PF
abbrev zEv : List Nat := z_0123456789____abcdefghijklmnopqrstuvwxyz___________________ABCDEFGHIJKLMNOPQRSTUVWXYZ_______
def jl (ys : List (List Nat)) : Nat := (ys.map fun y => y.length + 1).sum
theorem jl_app {a b : List (List Nat)} : jl (a ++ b) = jl a + jl b := by unfold jl; simp
theorem jl_cons {a : List Nat} {b : List (List Nat)} : jl (a :: b) = a.length + 1 + jl b := by unfold jl; simp
theorem jl_nil : jl [] = 0 := rfl
theorem jl_sum : ∀ {ys : List (List Nat)}, (ys.map (·.length)).sum + ys.length * 1 = jl ys
  | [] => rfl
  | y :: ys => by
    have := jl_sum (ys := ys)
    rw [jl_cons]
    simp only [List.map_cons, List.sum_cons, List.length_cons]
    omega
theorem jl_join {c : Nat} {ys : List (List Nat)} : (joinL [c] ys).length ≤ jl ys := by
  have h := joinL_len (a := [c]) ys
  have e := jl_sum (ys := ys)
  simp only [List.length_cons, List.length_nil, Nat.zero_add] at h
  omega
theorem jl_spl {c : Nat} : ∀ {l acc : List Nat}, jl (spl [c] 0 acc l) = acc.length + l.length + 1
  | [], acc => by simp [spl, jl]
  | d :: r, acc => by
    unfold spl
    split
    · have := jl_spl (c := c) (l := r) (acc := [])
      rw [jl_cons]
      simp only [List.length_cons, List.length_nil, Nat.zero_add, Nat.sub_self] at this ⊢
      omega
    · have := jl_spl (c := c) (l := r) (acc := acc ++ [d])
      simp only [List.length_append, List.length_cons, List.length_nil, Nat.zero_add] at this ⊢
      omega
theorem jl_part {ys : List (List Nat)} {k : Nat} {x : List Nat} (h : ys[k]? = some x) : jl (ys.take k) + (x.length + 1) + jl (ys.drop (k + 1)) = jl ys := by
  have e : ys = ys.take k ++ (x :: ys.drop (k + 1)) := by
    have hk := (List.getElem?_eq_some_iff.mp h)
    conv => lhs; rw [← List.take_append_drop k ys, List.drop_eq_getElem_cons hk.1, hk.2]
  conv => rhs; rw [e, jl_app, jl_cons]
  omega
theorem jl_len {ys : List (List Nat)} : ys.length ≤ jl ys := by
  have := jl_sum (ys := ys)
  omega
theorem cut_mem {α : Type} {xs : List α} {lo hi : Option Int} {x : α} (h : x ∈ cut xs lo hi) : x ∈ xs := List.mem_of_mem_drop (List.mem_of_mem_take h)
theorem cut_len {α : Type} {xs : List α} {lo hi : Option Int} : (cut xs lo hi).length ≤ xs.length := by
  unfold cut
  rw [List.length_take, List.length_drop]
  omega
theorem cut_to {α : Type} {xs : List α} {k : Nat} (h : k ≤ xs.length) : cut xs none (some (k : Int)) = xs.take k := by
  unfold cut sIx
  dsimp only
  rw [if_neg (by omega)]
  rw [List.drop_zero, Nat.sub_zero, Int.toNat_natCast]
  congr 1
  omega
theorem cut_from {α : Type} {xs : List α} {k : Nat} (h : k ≤ xs.length) : cut xs (some (k : Int)) none = xs.drop k := by
  unfold cut sIx
  dsimp only
  rw [if_neg (by omega)]
  rw [Int.toNat_natCast]
  rw [show min k xs.length = k by omega]
  exact List.take_of_length_le (by rw [List.length_drop]; omega)
theorem cut_one {α : Type} {xs : List α} {k : Nat} {x : α} (h : xs[k]? = some x) : cut xs (some (k : Int)) (some ((k : Int) + 1)) = [x] := by
  obtain ⟨hk, e⟩ := List.getElem?_eq_some_iff.mp h
  unfold cut sIx
  dsimp only
  rw [if_neg (by omega), if_neg (by omega)]
  have e1 : ((k : Int) + 1).toNat = k + 1 := by omega
  rw [e1, Int.toNat_natCast]
  rw [show min k xs.length = k by omega, show min (k + 1) xs.length = k + 1 by omega, List.drop_eq_getElem_cons hk, e, show k + 1 - k = 1 by omega]
  rfl
theorem cut_two {α : Type} {xs : List α} {k : Int} (h : 0 ≤ k) : (cut xs (some k) (some (k + 2))).length ≤ 2 := by
  unfold cut sIx
  dsimp only
  rw [if_neg (by omega), if_neg (by omega), List.length_take, List.length_drop]
  omega
section
variable {S : Sto} {P : D → Sto → Prop}
theorem w_gslS {s : List Nat} {lo hi : Option Int} (h : s.length ≤ LIM) : wp (gSlice (.str s) lo hi S) P = P (.str (cut s lo hi)) S := by
  unfold gSlice
  simp only [if_pos h, wp_ok]
theorem w_rev {s : List Nat} (h : s.length ≤ 2) : wp (gRev (.str s) S) P = P (.str s.reverse) S := by
  unfold gRev
  simp only [if_pos h, wp_ok]
theorem w_mulL {n : Nat} {ds : List D} {k : Int} (h : S[n]? = some (.lst ds)) (hk : 0 ≤ k ∧ k ≤ 2) (hl : ds.length ≤ 1000) : wp (gMul (.ref n) (.int k) S) P = P (.ref S.length) (S ++ [.lst (rep ds k.toNat)]) := by
  unfold gMul
  have h2 : ds.length * k.toNat ≤ 1000 * 2 := Nat.mul_le_mul hl (by omega)
  simp only [wrOf_lst h]
  rw [if_pos ⟨by omega, by omega, Nat.le_trans h2 (by decide)⟩]
  unfold alloc
  rw [wp_ok]
theorem w_addLL {m n : Nat} {a b : List D} (h : S[m]? = some (.lst a)) (h2 : S[n]? = some (.lst b)) (hl : a.length + b.length ≤ LIM) : wp (gAdd (.ref m) (.ref n) S) P = P (.ref S.length) (S ++ [.lst (a ++ b)]) := by
  rw [w_addL, wrOf_lst h, on_some, wrOf_lst h2, on_some]
  exact propext ⟨fun h => h.2, fun h => ⟨hl, h⟩⟩
end
theorem ev_sign {r m : Int} (h : In0 r m) (hm : m ≤ 92) : ∃ c, at? zEv r = some c ∧ c < 1114112 := by
  unfold In0 at h
  have hl : zEv.length = 92 := rfl
  have all : ∀ c ∈ zEv, c < 1114112 := by decide
  have e : r = ((r.toNat : Nat) : Int) := by omega
  have hr : r.toNat < zEv.length := by omega
  rw [at_lit r.toNat r e, List.getElem?_eq_getElem hr]
  exact ⟨_, rfl, all _ (List.getElem_mem hr)⟩
end PG
end
section
set_option linter.all false
set_option autoImplicit false
set_option maxRecDepth 100003
set_option linter.all false
set_option maxHeartbeats 0
namespace PG
open PF
theorem at_in {α : Type} {xs : List α} {r : Int} (h : In0 r xs.length) : ∃ x, xs[r.toNat]? = some x ∧ at? xs r = some x ∧ r = (r.toNat : Nat) := by
  unfold In0 at h
  have e : r = ((r.toNat : Nat) : Int) := by omega
  have hr : r.toNat < xs.length := by omega
  refine ⟨xs[r.toNat], List.getElem?_eq_getElem hr, ?_, e⟩
  rw [at_lit r.toNat r e, List.getElem?_eq_getElem hr]
def oddW : List (List Nat) := [z_empty, z_0, z_00, z_07, z_9, z_23, z_24, z_999, z_1000, z__1, z_add, z_go, z_end, z_say, z_load, z_copy, z___62, z_box]
theorem odd_ok : ∀ w ∈ oddW, Tx w ∧ w.length ≤ 4 := by unfold Tx; decide
/-- a text is told -/
def Spo (b q : Nat) (S : Sto) (l : List Nat) : D → Sto → Prop := fun d S' => ∃ l', d = .str l' ∧ Tx l' ∧ l'.length ≤ 2 * l.length + 20 ∧ Box b q S' ∧ Keep [b, q] S S'
theorem tx_app {a b : List Nat} (ha : Tx a) (hb : Tx b) : Tx (a ++ b) := fun c hc => (List.mem_append.mp hc).elim (ha c) (hb c)
theorem tx_cut {a : List Nat} {lo hi : Option Int} (ha : Tx a) : Tx (cut a lo hi) := fun c hc => ha c (cut_mem hc)
theorem tx_join {s : List Nat} {ys : List (List Nat)} (hs : Tx s) (h : ∀ y ∈ ys, Tx y) : Tx (joinL s ys) := fun c hc => (mem_joinL hc).elim (hs c) fun ⟨y, hy, hc⟩ => h y hy c hc
/-- signs: put in, left out, another -/
def stSig : St := sRet (e2 gAdd (e2 gAdd (eSlice (eVar 1) (oNone) (oSome (eVar 3))) (e2 gIx (eLst (aCons (eC (.str z_empty)) (aCons (eVar 5) (aCons (eVar 5) (aNil))))) (eVar 2))) (eSlice (eVar 1) (oSome (e2 gAdd (eVar 3) (eCall fInt (aCons (e2 gLt (eVar 2) (eC (.int 2))) (aNil))))) (oNone)))
theorem sig_spec {b q : Nat} {S S0 : Sto} {l : List Nat} {deed place : Int} {c : Nat} {d0 d4 d6 d7 d8 d9 d10 d11 : Option D} (hB : Box b q S) (hK : Keep [b, q] S0 S) (hc : Tx l) (hl : l.length ≤ 1000000) (hd : In0 deed 3) (hp : 0 ≤ place) (hcc : c < 1114112) :
    wp (stSig [d0, some (.str l), some (.int deed), some (.int place), d4, some (.str [c]), d6, d7, d8, d9, d10, d11] S) fun z S' => ∃ d ρ, z = (.rt d, ρ) ∧ Spo b q S0 l d S' := by
  have hlim : l.length ≤ LIM := by unfold LIM; omega
  unfold stSig
  simp only [w_ret, w_e2, w_slice, w_osome, w_onone, w_lst, w_cons, w_nil, w_c, w_call, v_var, List.getElem?_cons_succ, List.getElem?_cons_zero, on_some, ex_int, w_gslS hlim]
  have g : (S ++ [MO.lst [D.str z_empty, D.str [c], D.str [c]]])[S.length]? = some (.lst [D.str z_empty, D.str [c], D.str [c]]) := get_last
  have B1 : Box b q (S ++ [MO.lst [D.str z_empty, D.str [c], D.str [c]]]) := hB.app
  have K1 : Keep [b, q] S0 (S ++ [MO.lst [D.str z_empty, D.str [c], D.str [c]]]) := hK.trans .app
  generalize S.length = n at *
  generalize S ++ [MO.lst [D.str z_empty, D.str [c], D.str [c]]] = S1 at *
  rw [v_ixL, lstOf_lst g, on_some]
  have h3 : on (at? [D.str z_empty, D.str [c], D.str [c]] deed) fun d => ∃ s, d = .str s ∧ Tx s ∧ s.length ≤ 1 := by
    have tc : Tx [c] := fun x hx => by rw [List.mem_singleton.mp hx]; exact hcc
    exact at3 hd (fun _ => ⟨_, rfl, by unfold Tx; decide, by decide⟩) (fun _ => ⟨_, rfl, tc, Nat.le_refl _⟩) (fun _ => ⟨_, rfl, tc, Nat.le_refl _⟩)
  obtain ⟨_, e3, s, rfl, ts, ls⟩ := h3
  have c1 := cut_len (xs := l) (lo := none) (hi := some place)
  have c2 := cut_len (xs := l) (lo := some (place + b2i (decide (deed < 2)))) (hi := none)
  have L2 : 2 * l.length + 20 ≤ LIM := by unfold LIM; omega
  rw [e3, on_some, w_addS (by omega)]
  simp only [w_lt, w_intB, w_add, ex_int, w_gslS hlim]
  rw [w_addS (by rw [List.length_append]; omega)]
  refine ⟨_, _, rfl, _, rfl, tx_app (tx_app (tx_cut hc) ts) (tx_cut hc), ?_, B1, K1⟩
  rw [List.length_append, List.length_append]
  omega
def stTwo : St := sSeq (sSet 6 (e1 gRev (eSlice (eVar 1) (oSome (eVar 3)) (oSome (e2 gAdd (eVar 3) (eC (.int 2)))))))
  (sRet (e2 gAdd (e2 gAdd (eSlice (eVar 1) (oNone) (oSome (eVar 3))) (eVar 6)) (eSlice (eVar 1) (oSome (e2 gAdd (eVar 3) (eC (.int 2)))) (oNone))))
theorem two_spec {b q : Nat} {S S0 : Sto} {l : List Nat} {place : Int} {d0 d2 d4 d5 d6 d7 d8 d9 d10 d11 : Option D} (hB : Box b q S) (hK : Keep [b, q] S0 S) (hc : Tx l) (hl : l.length ≤ 1000000) (hp : 0 ≤ place) :
    wp (stTwo [d0, some (.str l), d2, some (.int place), d4, d5, d6, d7, d8, d9, d10, d11] S) fun z S' => ∃ d ρ, z = (.rt d, ρ) ∧ Spo b q S0 l d S' := by
  have hlim : l.length ≤ LIM := by unfold LIM; omega
  unfold stTwo
  rw [w_seq]
  simp only [w_set, w_e1, w_slice, w_osome, w_e2, w_c, w_add, v_var, List.getElem?_cons_succ, List.getElem?_cons_zero, on_some, ex_int, w_gslS hlim]
  rw [w_rev (cut_two hp)]
  simp only [List.set_cons_succ, List.set_cons_zero, w_ret, w_e2, w_slice, w_osome, w_onone, w_c, w_add, v_var, List.getElem?_cons_succ, List.getElem?_cons_zero, on_some, ex_int, w_gslS hlim]
  have c1 := cut_len (xs := l) (lo := none) (hi := some place)
  have c2 := cut_len (xs := l) (lo := some (place + 2)) (hi := none)
  have c3 := cut_two (xs := l) hp
  have L2 : 2 * l.length + 20 ≤ LIM := by unfold LIM; omega
  rw [w_addS (by rw [List.length_reverse]; omega), w_addS (by rw [List.length_append, List.length_reverse]; omega)]
  refine ⟨_, _, rfl, _, rfl, tx_app (tx_app (tx_cut hc) fun c h => tx_cut hc c (List.mem_reverse.mp h)) (tx_cut hc), ?_, hB, hK⟩
  rw [List.length_append, List.length_append, List.length_reverse]
  omega
def stRow : St := sRet (eS1 mJoin (eC (.str z___38)) (e2 gAdd (e2 gAdd (eSlice (eVar 7) (oNone) (oSome (eVar 8))) (e2 gMul (eSlice (eVar 7) (oSome (eVar 8)) (oSome (e2 gAdd (eVar 8) (eC (.int 1))))) (e2 gIx (eLst (aCons (eC (.int 0)) (aCons (eC (.int 2)) (aNil)))) (e2 gSub (eVar 2) (eC (.int 4)))))) (eSlice (eVar 7) (oSome (e2 gAdd (eVar 8) (eC (.int 1)))) (oNone))))
theorem srow_spec {b q rr : Nat} {S S0 : Sto} {l : List Nat} {ls : List (List Nat)} {deed k : Int} {d0 d1 d3 d4 d5 d6 d9 d10 d11 : Option D} (hB : Box b q S) (hK : Keep [b, q] S0 S) (hl : l.length ≤ 1000000) (g : S[rr]? = some (.lst (ls.map .str))) (ht : ∀ y ∈ ls, Tx y) (hj : jl ls = l.length + 1)
    (hd : 4 ≤ deed ∧ deed < 6) (hk : In0 k ls.length) :
    wp (stRow [d0, d1, some (.int deed), d3, d4, d5, d6, some (.ref rr), some (.int k), d9, d10, d11] S) fun z S' => ∃ d ρ, z = (.rt d, ρ) ∧ Spo b q S0 l d S' := by
  obtain ⟨x, ex, -, ek⟩ := at_in hk
  have hkl : k.toNat < ls.length := by unfold In0 at hk; omega
  have hp := jl_part ex
  have hlen := jl_len (ys := ls)
  unfold stRow
  rw [w_ret, v_s1, w_c]
  refine ⟨rfl, ?_⟩
  have c1 : cut (ls.map D.str) none (some k) = (ls.take k.toNat).map D.str := by rw [ek, Int.toNat_natCast, cut_to (by rw [List.length_map]; omega), List.map_take]
  have c2 : cut (ls.map D.str) (some k) (some (k + 1)) = [.str x] := by rw [ek, cut_one (x := .str x) (by rw [List.getElem?_map, ex]; rfl)]
  have c3 : cut (ls.map D.str) (some (k + 1)) none = (ls.drop (k.toNat + 1)).map D.str := by
    have : k + 1 = ((k.toNat + 1 : Nat) : Int) := by omega
    rw [this, cut_from (by rw [List.length_map]; omega), List.map_drop]
  simp only [w_e2, w_slice, w_osome, w_onone, w_c, w_add, w_sub2, v_var, List.getElem?_cons_succ, List.getElem?_cons_zero, on_some, ex_int, w_gslL (lstOf_lst g), c1]
  have g1 : (S ++ [MO.lst ((ls.take k.toNat).map D.str)])[S.length]? = some (.lst ((ls.take k.toNat).map D.str)) := get_last
  have gr1 := get_app (U := [MO.lst ((ls.take k.toNat).map D.str)]) g
  have B1 : Box b q (S ++ [MO.lst ((ls.take k.toNat).map D.str)]) := hB.app
  have K1 : Keep [b, q] S0 (S ++ [MO.lst ((ls.take k.toNat).map D.str)]) := hK.trans .app
  generalize S.length = n1 at *
  generalize S ++ [MO.lst ((ls.take k.toNat).map D.str)] = S1 at *
  simp only [w_gslL (lstOf_lst gr1), c2]
  have g2 : (S1 ++ [MO.lst [D.str x]])[S1.length]? = some (.lst [D.str x]) := get_last
  have g12 := get_app (U := [MO.lst [D.str x]]) g1
  have gr2 := get_app (U := [MO.lst [D.str x]]) gr1
  have B2 : Box b q (S1 ++ [MO.lst [D.str x]]) := B1.app
  have K2 : Keep [b, q] S0 (S1 ++ [MO.lst [D.str x]]) := K1.trans .app
  generalize S1.length = n2 at *
  generalize S1 ++ [MO.lst [D.str x]] = S2 at *
  rw [w_lst]
  simp only [w_cons, w_nil, w_c]
  have g3 : (S2 ++ [MO.lst [D.int 0, D.int 2]])[S2.length]? = some (.lst [D.int 0, D.int 2]) := get_last
  have g13 := get_app (U := [MO.lst [D.int 0, D.int 2]]) g12
  have g23 := get_app (U := [MO.lst [D.int 0, D.int 2]]) g2
  have gr3 := get_app (U := [MO.lst [D.int 0, D.int 2]]) gr2
  have B3 : Box b q (S2 ++ [MO.lst [D.int 0, D.int 2]]) := B2.app
  have K3 : Keep [b, q] S0 (S2 ++ [MO.lst [D.int 0, D.int 2]]) := K2.trans .app
  generalize S2.length = n3 at *
  generalize S2 ++ [MO.lst [D.int 0, D.int 2]] = S3 at *
  rw [v_ixL, lstOf_lst g3, on_some]
  obtain ⟨_, e3, m, rfl, hm⟩ : on (at? [D.int 0, D.int 2] (deed - 4)) fun d => ∃ m, d = .int m ∧ (m = 0 ∨ m = 2) :=
    at2 (by unfold In0; omega) ⟨_, rfl, .inl rfl⟩ ⟨_, rfl, .inr rfl⟩
  rw [e3, on_some, w_mulL g23 (by omega) (by simp)]
  obtain ⟨ys, er, hy, tys⟩ : ∃ ys : List (List Nat), rep [D.str x] m.toNat = ys.map .str ∧ jl ys ≤ 2 * (x.length + 1) ∧ ∀ y ∈ ys, y = x := by
    rcases hm with rfl | rfl
    · exact ⟨[], rfl, by rw [jl_nil]; omega, fun _ h => nomatch h⟩
    · exact ⟨[x, x], rfl, by rw [jl_cons, jl_cons, jl_nil]; omega, fun y h => by simp at h; exact h⟩
  have hyl := jl_len (ys := ys)
  have htl : (ls.take k.toNat).length ≤ 1000001 := by rw [List.length_take]; omega
  have hdl : (ls.drop (k.toNat + 1)).length ≤ 1000001 := by rw [List.length_drop]; omega
  rw [er]
  have g4 : (S3 ++ [MO.lst (ys.map D.str)])[S3.length]? = some (.lst (ys.map D.str)) := get_last
  have g14 := get_app (U := [MO.lst (ys.map D.str)]) g13
  have gr4 := get_app (U := [MO.lst (ys.map D.str)]) gr3
  have B4 : Box b q (S3 ++ [MO.lst (ys.map D.str)]) := B3.app
  have K4 : Keep [b, q] S0 (S3 ++ [MO.lst (ys.map D.str)]) := K3.trans .app
  generalize S3.length = n4 at *
  generalize S3 ++ [MO.lst (ys.map D.str)] = S4 at *
  rw [w_addLL g14 g4 (by rw [List.length_map, List.length_map]; unfold LIM; omega), ← List.map_append]
  have g5 : (S4 ++ [MO.lst ((ls.take k.toNat ++ ys).map D.str)])[S4.length]? = some (.lst ((ls.take k.toNat ++ ys).map D.str)) := get_last
  have gr5 := get_app (U := [MO.lst ((ls.take k.toNat ++ ys).map D.str)]) gr4
  have B5 : Box b q (S4 ++ [MO.lst ((ls.take k.toNat ++ ys).map D.str)]) := B4.app
  have K5 : Keep [b, q] S0 (S4 ++ [MO.lst ((ls.take k.toNat ++ ys).map D.str)]) := K4.trans .app
  generalize S4.length = n5 at *
  generalize S4 ++ [MO.lst ((ls.take k.toNat ++ ys).map D.str)] = S5 at *
  simp only [w_gslL (lstOf_lst gr5), c3]
  have g6 : (S5 ++ [MO.lst ((ls.drop (k.toNat + 1)).map D.str)])[S5.length]? = some (.lst ((ls.drop (k.toNat + 1)).map D.str)) := get_last
  have g56 := get_app (U := [MO.lst ((ls.drop (k.toNat + 1)).map D.str)]) g5
  have B6 : Box b q (S5 ++ [MO.lst ((ls.drop (k.toNat + 1)).map D.str)]) := B5.app
  have K6 : Keep [b, q] S0 (S5 ++ [MO.lst ((ls.drop (k.toNat + 1)).map D.str)]) := K5.trans .app
  generalize S5.length = n6 at *
  generalize S5 ++ [MO.lst ((ls.drop (k.toNat + 1)).map D.str)] = S6 at *
  rw [w_addLL g56 g6 (by rw [List.length_map, List.length_map, List.length_append]; unfold LIM; omega), ← List.map_append]
  have g7 : (S6 ++ [MO.lst (((ls.take k.toNat ++ ys) ++ ls.drop (k.toNat + 1)).map D.str)])[S6.length]? = some (.lst (((ls.take k.toNat ++ ys) ++ ls.drop (k.toNat + 1)).map D.str)) := get_last
  have B7 : Box b q (S6 ++ [MO.lst (((ls.take k.toNat ++ ys) ++ ls.drop (k.toNat + 1)).map D.str)]) := B6.app
  have K7 : Keep [b, q] S0 (S6 ++ [MO.lst (((ls.take k.toNat ++ ys) ++ ls.drop (k.toNat + 1)).map D.str)]) := K6.trans .app
  have hjn : jl ((ls.take k.toNat ++ ys) ++ ls.drop (k.toNat + 1)) ≤ 2 * l.length + 2 := by rw [jl_app, jl_app]; omega
  have hsj := jl_sum (ys := (ls.take k.toNat ++ ys) ++ ls.drop (k.toNat + 1))
  rw [w_join (ys := (ls.take k.toNat ++ ys) ++ ls.drop (k.toNat + 1)) (show seqOf (.ref _) _ = _ from lstOf_lst g7) (by show _ + _ * 1 ≤ LIM; unfold LIM; omega)]
  refine ⟨_, _, rfl, _, rfl, tx_join (by unfold Tx; decide) ?_, ?_, B7, K7⟩
  · intro y hy
    rcases List.mem_append.mp hy with hy | hy
    · rcases List.mem_append.mp hy with hy | hy
      · exact ht y (List.mem_of_mem_take hy)
      · rw [tys y hy]
        exact ht x (List.mem_of_getElem? ex)
    · exact ht y (List.mem_of_mem_drop hy)
  · exact Nat.le_trans jl_join (by omega)
end PG
end
section
set_option linter.all false
set_option autoImplicit false
set_option maxRecDepth 100003
set_option linter.all false
set_option maxHeartbeats 0
namespace PG
open PF
def stOut : St := sRet (eS1 mJoin (eC (.str z___38)) (e2 gAdd (e2 gAdd (eSlice (eVar 7) (oNone) (oSome (eVar 8))) (eLst (aCons (eS1 mJoin (eC (.str z__)) (eVar 9)) (aNil)))) (eSlice (eVar 7) (oSome (e2 gAdd (eVar 8) (eC (.int 1)))) (oNone))))
theorem out_spec {b q rr n9 : Nat} {S S0 : Sto} {l x : List Nat} {ls ws : List (List Nat)} {k : Int} {d0 d1 d2 d3 d4 d5 d6 d10 d11 : Option D} (hB : Box b q S) (hK : Keep [b, q] S0 S) (hl : l.length ≤ 1000000) (g : S[rr]? = some (.lst (ls.map .str))) (g9 : S[n9]? = some (.lst (ws.map .str))) (ht : ∀ y ∈ ls, Tx y) (ht9 : ∀ y ∈ ws, Tx y) (hj : jl ls = l.length + 1)
    (hk : In0 k ls.length) (ex : ls[k.toNat]? = some x) (hw : jl ws ≤ 2 * x.length + 8) :
    wp (stOut [d0, d1, d2, d3, d4, d5, d6, some (.ref rr), some (.int k), some (.ref n9), d10, d11] S) fun z S' => ∃ d ρ, z = (.rt d, ρ) ∧ Spo b q S0 l d S' := by
  have ek : k = ((k.toNat : Nat) : Int) := by unfold In0 at hk; omega
  have hkl : k.toNat < ls.length := by unfold In0 at hk; omega
  have hp := jl_part ex
  have hlen := jl_len (ys := ls)
  have hwl := jl_len (ys := ws)
  unfold stOut
  rw [w_ret, v_s1, w_c]
  refine ⟨rfl, ?_⟩
  have c1 : cut (ls.map D.str) none (some k) = (ls.take k.toNat).map D.str := by rw [ek, Int.toNat_natCast, cut_to (by rw [List.length_map]; omega), List.map_take]
  have c3 : cut (ls.map D.str) (some (k + 1)) none = (ls.drop (k.toNat + 1)).map D.str := by
    have : k + 1 = ((k.toNat + 1 : Nat) : Int) := by omega
    rw [this, cut_from (by rw [List.length_map]; omega), List.map_drop]
  simp only [w_e2, w_slice, w_osome, w_onone, w_c, w_add, w_sub2, v_var, List.getElem?_cons_succ, List.getElem?_cons_zero, on_some, ex_int, w_gslL (lstOf_lst g), c1]
  have g1 : (S ++ [MO.lst ((ls.take k.toNat).map D.str)])[S.length]? = some (.lst ((ls.take k.toNat).map D.str)) := get_last
  have gr1 := get_app (U := [MO.lst ((ls.take k.toNat).map D.str)]) g
  have g91 := get_app (U := [MO.lst ((ls.take k.toNat).map D.str)]) g9
  have B1 : Box b q (S ++ [MO.lst ((ls.take k.toNat).map D.str)]) := hB.app
  have K1 : Keep [b, q] S0 (S ++ [MO.lst ((ls.take k.toNat).map D.str)]) := hK.trans .app
  generalize S.length = n1 at *
  generalize S ++ [MO.lst ((ls.take k.toNat).map D.str)] = S1 at *
  rw [w_lst, w_cons, v_s1, w_c]
  refine ⟨rfl, ?_⟩
  simp only [v_var, List.getElem?_cons_succ, List.getElem?_cons_zero, on_some]
  have hws := jl_sum (ys := ws)
  have hxl : x.length ≤ l.length := by omega
  rw [w_join (ys := ws) (show seqOf (.ref _) _ = _ from lstOf_lst g91) (by show _ + _ * 1 ≤ LIM; unfold LIM; omega), w_nil]
  have hjw := jl_join (c := 32) (ys := ws)
  have tjw := tx_join (s := [32]) (ys := ws) (by unfold Tx; decide) ht9
  generalize joinL z__ ws = wt at *
  have g3 : (S1 ++ [MO.lst [D.str wt]])[S1.length]? = some (.lst ([wt].map D.str)) := get_last
  have g13 := get_app (U := [MO.lst [D.str wt]]) g1
  have gr4 := get_app (U := [MO.lst [D.str wt]]) gr1
  have B4 : Box b q (S1 ++ [MO.lst [D.str wt]]) := B1.app
  have K4 : Keep [b, q] S0 (S1 ++ [MO.lst [D.str wt]]) := K1.trans .app
  generalize S1.length = n4 at *
  generalize S1 ++ [MO.lst [D.str wt]] = S4 at *
  have htl : (ls.take k.toNat).length ≤ 1000001 := by rw [List.length_take]; omega
  have hdl : (ls.drop (k.toNat + 1)).length ≤ 1000001 := by rw [List.length_drop]; omega
  rw [w_addLL g13 g3 (by rw [List.length_map, List.length_map]; unfold LIM; simp only [List.length_cons, List.length_nil]; omega), ← List.map_append]
  have g5 : (S4 ++ [MO.lst ((ls.take k.toNat ++ [wt]).map D.str)])[S4.length]? = some (.lst ((ls.take k.toNat ++ [wt]).map D.str)) := get_last
  have gr5 := get_app (U := [MO.lst ((ls.take k.toNat ++ [wt]).map D.str)]) gr4
  have B5 : Box b q (S4 ++ [MO.lst ((ls.take k.toNat ++ [wt]).map D.str)]) := B4.app
  have K5 : Keep [b, q] S0 (S4 ++ [MO.lst ((ls.take k.toNat ++ [wt]).map D.str)]) := K4.trans .app
  generalize S4.length = n5 at *
  generalize S4 ++ [MO.lst ((ls.take k.toNat ++ [wt]).map D.str)] = S5 at *
  simp only [w_gslL (lstOf_lst gr5), c3]
  have g6 : (S5 ++ [MO.lst ((ls.drop (k.toNat + 1)).map D.str)])[S5.length]? = some (.lst ((ls.drop (k.toNat + 1)).map D.str)) := get_last
  have g56 := get_app (U := [MO.lst ((ls.drop (k.toNat + 1)).map D.str)]) g5
  have B6 : Box b q (S5 ++ [MO.lst ((ls.drop (k.toNat + 1)).map D.str)]) := B5.app
  have K6 : Keep [b, q] S0 (S5 ++ [MO.lst ((ls.drop (k.toNat + 1)).map D.str)]) := K5.trans .app
  generalize S5.length = n6 at *
  generalize S5 ++ [MO.lst ((ls.drop (k.toNat + 1)).map D.str)] = S6 at *
  rw [w_addLL g56 g6 (by rw [List.length_map, List.length_map, List.length_append]; unfold LIM; simp only [List.length_cons, List.length_nil]; omega), ← List.map_append]
  have g7 : (S6 ++ [MO.lst (((ls.take k.toNat ++ [wt]) ++ ls.drop (k.toNat + 1)).map D.str)])[S6.length]? = some (.lst (((ls.take k.toNat ++ [wt]) ++ ls.drop (k.toNat + 1)).map D.str)) := get_last
  have B7 : Box b q (S6 ++ [MO.lst (((ls.take k.toNat ++ [wt]) ++ ls.drop (k.toNat + 1)).map D.str)]) := B6.app
  have K7 : Keep [b, q] S0 (S6 ++ [MO.lst (((ls.take k.toNat ++ [wt]) ++ ls.drop (k.toNat + 1)).map D.str)]) := K6.trans .app
  have hjn : jl ((ls.take k.toNat ++ [wt]) ++ ls.drop (k.toNat + 1)) ≤ 2 * l.length + 9 := by rw [jl_app, jl_app, jl_cons, jl_nil]; omega
  have hsj := jl_sum (ys := (ls.take k.toNat ++ [wt]) ++ ls.drop (k.toNat + 1))
  rw [w_join (ys := (ls.take k.toNat ++ [wt]) ++ ls.drop (k.toNat + 1)) (show seqOf (.ref _) _ = _ from lstOf_lst g7) (by show _ + _ * 1 ≤ LIM; unfold LIM; omega)]
  refine ⟨_, _, rfl, _, rfl, tx_join (by unfold Tx; decide) ?_, ?_, B7, K7⟩
  · intro y hy
    rcases List.mem_append.mp hy with hy | hy
    · rcases List.mem_append.mp hy with hy | hy
      · exact ht y (List.mem_of_mem_take hy)
      · rw [List.mem_singleton.mp hy]
        exact tjw
    · exact ht y (List.mem_of_mem_drop hy)
  · exact Nat.le_trans jl_join (by omega)
def stNew : St := sSet 9 (e2 gAdd (e2 gAdd (eSlice (eVar 9) (oNone) (oSome (eVar 10))) (e2 gIx (eLst (aCons (eLst (aNil)) (aCons (e2 gMul (eLst (aCons (e2 gIx (eVar 9) (eVar 10)) (aNil))) (eC (.int 2))) (aCons (eLst (aCons (e2 gIx (eVar 11) (eCall f__law_take (aCons (eVar 0) (aCons (eC (.int 18)) (aNil))))) (aNil))) (aNil))))) (e2 gSub (eVar 2) (eC (.int 6))))) (eSlice (eVar 9) (oSome (e2 gAdd (eVar 10) (eC (.int 1)))) (oNone)))
theorem new_spec {b q n9 n11 : Nat} {S S0 : Sto} {ws : List (List Nat)} {deed j : Int} {d1 d3 d4 d5 d6 d7 d8 : Option D} (hB : Box b q S) (hK : Keep [b, q] S0 S) (hl : jl ws ≤ 1000001) (g9 : S[n9]? = some (.lst (ws.map .str))) (g11 : S[n11]? = some (.lst (oddW.map .str))) (ht9 : ∀ y ∈ ws, Tx y) (h9 : n9 ∉ [b, q]) (h11 : n11 ∉ [b, q])
    (hj : In0 j ws.length) (hd : 6 ≤ deed ∧ deed < 9) :
    wp (stNew [some (.ref b), d1, some (.int deed), d3, d4, d5, d6, d7, d8, some (.ref n9), some (.int j), some (.ref n11)] S) fun z S' => ∃ n ws', z = (.nx, [some (.ref b), d1, some (.int deed), d3, d4, d5, d6, d7, d8, some (.ref n), some (.int j), some (.ref n11)]) ∧ S'[n]? = some (.lst (ws'.map .str)) ∧ (∀ y ∈ ws', Tx y) ∧ jl ws' ≤ 2 * jl ws + 5 ∧ Box b q S' ∧ Keep [b, q] S0 S' := by
  obtain ⟨x, ex, eax, ej⟩ := at_in hj
  have hjl : j.toNat < ws.length := by unfold In0 at hj; omega
  have hp := jl_part ex
  have hlen := jl_len (ys := ws)
  have c1 : cut (ws.map D.str) none (some j) = (ws.take j.toNat).map D.str := by rw [ej, Int.toNat_natCast, cut_to (by rw [List.length_map]; omega), List.map_take]
  have c3 : cut (ws.map D.str) (some (j + 1)) none = (ws.drop (j.toNat + 1)).map D.str := by
    have : j + 1 = ((j.toNat + 1 : Nat) : Int) := by omega
    rw [this, cut_from (by rw [List.length_map]; omega), List.map_drop]
  have ixj : ∀ (S : Sto) (P : D → Sto → Prop), S[n9]? = some (.lst (ws.map .str)) → wp (gIx (.ref n9) (.int j) S) P = P (.str x) S := fun S P g => by
    rw [v_ixL, lstOf_lst g, on_some, at_lit j.toNat j ej, List.getElem?_map, ex]
    exact on_some
  unfold stNew
  rw [w_set]
  simp only [w_e2, w_slice, w_osome, w_onone, w_c, w_add, w_sub2, v_var, List.getElem?_cons_succ, List.getElem?_cons_zero, on_some, ex_int, w_gslL (lstOf_lst g9), c1]
  have g1 : (S ++ [MO.lst ((ws.take j.toNat).map D.str)])[S.length]? = some (.lst ((ws.take j.toNat).map D.str)) := get_last
  have h1 : S.length ∉ [b, q] := notBQ hB (Nat.le_refl _)
  have g91 := get_app (U := [MO.lst ((ws.take j.toNat).map D.str)]) g9
  have g111 := get_app (U := [MO.lst ((ws.take j.toNat).map D.str)]) g11
  have B1 : Box b q (S ++ [MO.lst ((ws.take j.toNat).map D.str)]) := hB.app
  have K1 : Keep [b, q] S0 (S ++ [MO.lst ((ws.take j.toNat).map D.str)]) := hK.trans .app
  generalize S.length = n1 at *
  generalize S ++ [MO.lst ((ws.take j.toNat).map D.str)] = S1 at *
  simp only [w_lst, w_cons, w_nil, w_e2, w_c, w_call, v_var, List.getElem?_cons_succ, List.getElem?_cons_zero, on_some]
  -- []
  have g2 : (S1 ++ [MO.lst []])[S1.length]? = some (.lst (([] : List (List Nat)).map D.str)) := get_last
  have h2 : S1.length ∉ [b, q] := notBQ B1 (Nat.le_refl _)
  have g12 := get_app (U := [MO.lst []]) g1
  have g92 := get_app (U := [MO.lst []]) g91
  have g112 := get_app (U := [MO.lst []]) g111
  have B2 : Box b q (S1 ++ [MO.lst []]) := B1.app
  have K2 : Keep [b, q] S0 (S1 ++ [MO.lst []]) := K1.trans .app
  generalize S1.length = n2 at *
  generalize S1 ++ [MO.lst []] = S2 at *
  simp only [ixj _ _ g92]
  have g3 : (S2 ++ [MO.lst [D.str x]])[S2.length]? = some (.lst [D.str x]) := get_last
  have g13 := get_app (U := [MO.lst [D.str x]]) g12
  have g23 := get_app (U := [MO.lst [D.str x]]) g2
  have g93 := get_app (U := [MO.lst [D.str x]]) g92
  have g113 := get_app (U := [MO.lst [D.str x]]) g112
  have B3 : Box b q (S2 ++ [MO.lst [D.str x]]) := B2.app
  have K3 : Keep [b, q] S0 (S2 ++ [MO.lst [D.str x]]) := K2.trans .app
  generalize S2.length = n3 at *
  generalize S2 ++ [MO.lst [D.str x]] = S3 at *
  rw [w_mulL g3 (by decide) (by simp)]
  have er : rep [D.str x] (Int.toNat 2) = [x, x].map D.str := rfl
  rw [er]
  have g4 : (S3 ++ [MO.lst ([x, x].map D.str)])[S3.length]? = some (.lst ([x, x].map D.str)) := get_last
  have h4 : S3.length ∉ [b, q] := notBQ B3 (Nat.le_refl _)
  have g14 := get_app (U := [MO.lst ([x, x].map D.str)]) g13
  have g24 := get_app (U := [MO.lst ([x, x].map D.str)]) g23
  have g94 := get_app (U := [MO.lst ([x, x].map D.str)]) g93
  have g114 := get_app (U := [MO.lst ([x, x].map D.str)]) g113
  have B4 : Box b q (S3 ++ [MO.lst ([x, x].map D.str)]) := B3.app
  have K4 : Keep [b, q] S0 (S3 ++ [MO.lst ([x, x].map D.str)]) := K3.trans .app
  generalize S3.length = n4 at *
  generalize S3 ++ [MO.lst ([x, x].map D.str)] = S4 at *
  refine take_in B4 (by decide) fun o S5 io B5 k5 => ?_
  have g15 := k5.at g14 h1
  have g25 := k5.at g24 h2
  have g45 := k5.at g4 h4
  have g95 := k5.at g94 h9
  have g115 := k5.at g114 h11
  have K5 := K4.trans k5
  obtain ⟨ow, eo, eao, -⟩ := at_in (xs := oddW) io
  have how := odd_ok ow (List.mem_of_getElem? eo)
  have ixo : ∀ P : D → Sto → Prop, wp (gIx (.ref n11) (.int o) S5) P = P (.str ow) S5 := fun P => by
    have eo2 : o = ((o.toNat : Nat) : Int) := by unfold In0 at io; omega
    rw [v_ixL, lstOf_lst g115, on_some, at_lit o.toNat o eo2, List.getElem?_map, eo]
    exact on_some
  simp only [ixo]
  have g6 : (S5 ++ [MO.lst [D.str ow]])[S5.length]? = some (.lst ([ow].map D.str)) := get_last
  have g16 := get_app (U := [MO.lst [D.str ow]]) g15
  have g26 := get_app (U := [MO.lst [D.str ow]]) g25
  have g46 := get_app (U := [MO.lst [D.str ow]]) g45
  have g96 := get_app (U := [MO.lst [D.str ow]]) g95
  have B6 : Box b q (S5 ++ [MO.lst [D.str ow]]) := B5.app
  have K6 : Keep [b, q] S0 (S5 ++ [MO.lst [D.str ow]]) := K5.trans .app
  generalize S5.length = n6 at *
  generalize S5 ++ [MO.lst [D.str ow]] = S6 at *
  have g7 : (S6 ++ [MO.lst [D.ref n2, D.ref n4, D.ref n6]])[S6.length]? = some (.lst [D.ref n2, D.ref n4, D.ref n6]) := get_last
  have g17 := get_app (U := [MO.lst [D.ref n2, D.ref n4, D.ref n6]]) g16
  have g27 := get_app (U := [MO.lst [D.ref n2, D.ref n4, D.ref n6]]) g26
  have g47 := get_app (U := [MO.lst [D.ref n2, D.ref n4, D.ref n6]]) g46
  have g67 := get_app (U := [MO.lst [D.ref n2, D.ref n4, D.ref n6]]) g6
  have g97 := get_app (U := [MO.lst [D.ref n2, D.ref n4, D.ref n6]]) g96
  have B7 : Box b q (S6 ++ [MO.lst [D.ref n2, D.ref n4, D.ref n6]]) := B6.app
  have K7 : Keep [b, q] S0 (S6 ++ [MO.lst [D.ref n2, D.ref n4, D.ref n6]]) := K6.trans .app
  generalize S6.length = n7 at *
  generalize S6 ++ [MO.lst [D.ref n2, D.ref n4, D.ref n6]] = S7 at *
  rw [v_ixL, lstOf_lst g7, on_some]
  have txx : Tx x := ht9 x (List.mem_of_getElem? ex)
  obtain ⟨_, e3, m, ys, rfl, gm, hys, tys⟩ : on (at? [D.ref n2, D.ref n4, D.ref n6] (deed - 6)) fun d => ∃ m, ∃ ys : List (List Nat), d = .ref m ∧ S7[m]? = some (.lst (ys.map .str)) ∧ jl ys ≤ 2 * (x.length + 1) + 5 ∧ ∀ y ∈ ys, Tx y :=
    at3 (by unfold In0; omega) (fun _ => ⟨_, _, rfl, g27, by rw [jl_nil]; omega, fun _ h => nomatch h⟩) (fun _ => ⟨_, _, rfl, g47, by rw [jl_cons, jl_cons, jl_nil]; omega, fun y h => by simp at h; rw [h]; exact txx⟩)
      (fun _ => ⟨_, _, rfl, g67, by rw [jl_cons, jl_nil]; omega, fun y h => by rw [List.mem_singleton.mp h]; exact how.1⟩)
  have hyl := jl_len (ys := ys)
  have htl : (ws.take j.toNat).length ≤ 1000001 := by rw [List.length_take]; omega
  have hdl : (ws.drop (j.toNat + 1)).length ≤ 1000001 := by rw [List.length_drop]; omega
  rw [e3, on_some, w_addLL g17 gm (by rw [List.length_map, List.length_map]; unfold LIM; omega), ← List.map_append]
  have g8 : (S7 ++ [MO.lst ((ws.take j.toNat ++ ys).map D.str)])[S7.length]? = some (.lst ((ws.take j.toNat ++ ys).map D.str)) := get_last
  have g98 := get_app (U := [MO.lst ((ws.take j.toNat ++ ys).map D.str)]) g97
  have B8 : Box b q (S7 ++ [MO.lst ((ws.take j.toNat ++ ys).map D.str)]) := B7.app
  have K8 : Keep [b, q] S0 (S7 ++ [MO.lst ((ws.take j.toNat ++ ys).map D.str)]) := K7.trans .app
  generalize S7.length = n8 at *
  generalize S7 ++ [MO.lst ((ws.take j.toNat ++ ys).map D.str)] = S8 at *
  simp only [w_gslL (lstOf_lst g98), c3]
  have ga : (S8 ++ [MO.lst ((ws.drop (j.toNat + 1)).map D.str)])[S8.length]? = some (.lst ((ws.drop (j.toNat + 1)).map D.str)) := get_last
  have g8a := get_app (U := [MO.lst ((ws.drop (j.toNat + 1)).map D.str)]) g8
  have Ba : Box b q (S8 ++ [MO.lst ((ws.drop (j.toNat + 1)).map D.str)]) := B8.app
  have Ka : Keep [b, q] S0 (S8 ++ [MO.lst ((ws.drop (j.toNat + 1)).map D.str)]) := K8.trans .app
  generalize S8.length = na at *
  generalize S8 ++ [MO.lst ((ws.drop (j.toNat + 1)).map D.str)] = Sa at *
  rw [w_addLL g8a ga (by rw [List.length_map, List.length_map, List.length_append]; unfold LIM; omega), ← List.map_append]
  have gb : (Sa ++ [MO.lst (((ws.take j.toNat ++ ys) ++ ws.drop (j.toNat + 1)).map D.str)])[Sa.length]? = some (.lst (((ws.take j.toNat ++ ys) ++ ws.drop (j.toNat + 1)).map D.str)) := get_last
  simp only [List.set_cons_succ, List.set_cons_zero]
  refine ⟨_, _, rfl, gb, ?_, ?_, Ba.app, Ka.trans .app⟩
  · intro y hy
    rcases List.mem_append.mp hy with hy | hy
    · rcases List.mem_append.mp hy with hy | hy
      · exact ht9 y (List.mem_of_mem_take hy)
      · exact tys y hy
    · exact ht9 y (List.mem_of_mem_drop hy)
  · rw [jl_app, jl_app]; omega
end PG
end
section
set_option linter.all false
set_option autoImplicit false
set_option maxRecDepth 100003
set_option linter.all false
set_option maxHeartbeats 0
namespace PG
open PF
theorem spoilt_spec {b q : Nat} {S : Sto} {l : List Nat} (hB : Box b q S) (hc : Tx l) (hl : l.length ≤ 1000000) : wp (f__law_spoilt [.ref b, .str l] S) (Spo b q S l) := by
  have hlim : l.length ≤ LIM := by unfold LIM; omega
  unfold f__law_spoilt b__law_spoilt
  rw [w_fn]
  refine ⟨by simp, ?_⟩
  simp only [List.map_cons, List.map_nil, List.length_cons, List.length_nil, Nat.zero_add, Nat.reduceAdd, Nat.reduceSub, List.replicate_succ, List.replicate_zero, List.cons_append, List.nil_append]
  rw [w_seq]
  simp only [v_par, w_call, w_cons, w_nil, w_c, v_var, List.getElem?_cons_succ, List.getElem?_cons_zero, on_some]
  refine take_in hB (by decide) fun deed S1 i1 B1 k1 => ?_
  simp only [w_e2, w_call, w_cons, w_nil, w_c, v_var, List.getElem?_cons_succ, List.getElem?_cons_zero, on_some, w_lenS hlim, w_add]
  refine take_in B1 ⟨by omega, by omega⟩ fun place S2 i2 B2 k2 => ?_
  have K2 := k1.trans k2
  simp only [setAll, on_some, List.set_cons_succ, List.set_cons_zero]
  rw [w_seq]
  simp only [w_set, w_c, List.set_cons_succ, List.set_cons_zero]
  rw [w_seq]
  have hev : zEv.length ≤ LIM := by decide
  have hev2 : ((zEv.length : Nat) : Int) = 92 := rfl
  simp only [w_set, w_e2, w_call, w_cons, w_nil, w_c, v_var, w_lst, List.getElem?_cons_succ, List.getElem?_cons_zero, on_some, w_lenS hev, hev2]
  refine take_in B2.app (by decide) fun r3 S3 i3 B3 k3 => ?_
  have K3 := (K2.trans .app).trans k3
  refine ix_new B2 k3 ?_
  obtain ⟨_, e3, m, rfl, hm⟩ : on (at? [D.int 14, D.int 92] r3) fun d => ∃ m, d = .int m ∧ 0 < m ∧ m ≤ 92 := at2 i3 ⟨_, rfl, by decide⟩ ⟨_, rfl, by decide⟩
  rw [e3, on_some]
  refine take_in B3 ⟨by omega, by omega⟩ fun sg S4 i4 B4 k4 => ?_
  have K4 := K3.trans k4
  obtain ⟨c, ec, hcc⟩ := ev_sign i4 hm.2
  rw [v_ixS hev, ec, on_some]
  simp only [List.set_cons_succ, List.set_cons_zero]
  have hp : 0 ≤ place := i2.1
  have hd9 : 0 ≤ deed ∧ deed < 9 := i1
  rw [w_seq]
  simp only [w_sif, w_te, w_e2, w_c, v_var, List.getElem?_cons_succ, List.getElem?_cons_zero, on_some, w_lt, ex_bl]
  by_cases c3 : deed < 3
  · rw [if_pos (by simpa using c3)]
    refine wp_mono (sig_spec B4 K4 hc hl (by unfold In0; omega) hp hcc) ?_
    rintro _ S5 ⟨d, ρ, rfl, h⟩
    exact h
  rw [if_neg (by simpa using c3), w_next]
  dsimp only
  rw [w_seq]
  simp only [w_sif, w_te, w_e2, w_c, v_var, List.getElem?_cons_succ, List.getElem?_cons_zero, on_some, w_eqI, ex_bl]
  by_cases c4 : deed = 3
  · rw [if_pos (by simpa using c4)]
    refine wp_mono (two_spec B4 K4 hc hl hp) ?_
    rintro _ S5 ⟨d, ρ, rfl, h⟩
    exact h
  rw [if_neg (by simpa using c4), w_next]
  dsimp only
  rw [w_seq]
  simp only [w_set, v_s1, w_c, v_var, List.getElem?_cons_succ, List.getElem?_cons_zero, on_some]
  refine ⟨rfl, ?_⟩
  rw [w_split (by decide) (by decide) (by unfold LIM; omega)]
  simp only [List.set_cons_succ, List.set_cons_zero]
  have hj : jl (spl z___38 0 [] l) = l.length + 1 := by
    have := jl_spl (c := 10) (l := l) (acc := [])
    simpa using this
  have ht : ∀ y ∈ spl z___38 0 [] l, Tx y := spl_tx hc
  have hne := spl_ne (s := z___38) 0 [] l
  generalize spl z___38 0 [] l = ls at *
  have hlen := jl_len (ys := ls)
  have hpos : 1 ≤ ls.length := List.length_pos_iff.mpr hne
  have g5 : (S4 ++ [MO.lst (ls.map D.str)])[S4.length]? = some (.lst (ls.map .str)) := get_last
  have hrr : S4.length ∉ [b, q] := notBQ B4 (Nat.le_refl _)
  have B5 : Box b q (S4 ++ [MO.lst (ls.map D.str)]) := B4.app
  have K5 : Keep [b, q] S (S4 ++ [MO.lst (ls.map D.str)]) := K4.trans .app
  generalize S4.length = rr at *
  generalize S4 ++ [MO.lst (ls.map D.str)] = S5 at *
  rw [w_seq]
  simp only [w_set, w_e2, w_call, w_cons, w_nil, w_c, v_var, w_lst, List.getElem?_cons_succ, List.getElem?_cons_zero, on_some, v_lenL, lstOf_lst g5, List.length_map, w_sub2]
  refine take_in B5 ⟨by omega, by omega⟩ fun k0 S6 i6 B6 k6 => ?_
  have g6 := k6.at g5 hrr
  have K6 := K5.trans k6
  refine take_in B6.app (by decide) fun r7 S7 i7 B7 k7 => ?_
  have g7 := k7.at (get_app (U := [MO.lst [D.int ((ls.length : Int) - 1), D.int k0]]) g6) hrr
  have K7 := (K6.trans .app).trans k7
  refine ix_new B6 k7 ?_
  obtain ⟨_, e7, k, rfl, hk⟩ : on (at? [D.int ((ls.length : Int) - 1), D.int k0] r7) fun d => ∃ k, d = .int k ∧ In0 k ls.length := at2 i7 ⟨_, rfl, by unfold In0; omega⟩ ⟨_, rfl, i6⟩
  rw [e7, on_some]
  simp only [List.set_cons_succ, List.set_cons_zero]
  rw [w_seq]
  simp only [w_sif, w_te, w_e2, w_c, v_var, List.getElem?_cons_succ, List.getElem?_cons_zero, on_some, w_lt, ex_bl]
  by_cases c6 : deed < 6
  · rw [if_pos (by simpa using c6)]
    refine wp_mono (srow_spec B7 K7 hl g7 ht hj (by omega) hk) ?_
    rintro _ S8 ⟨d, ρ, rfl, h⟩
    exact h
  rw [if_neg (by simpa using c6), w_next]
  dsimp only
  obtain ⟨x, ex, eax, ek⟩ := at_in hk
  have hpt := jl_part ex
  have txx := ht x (List.mem_of_getElem? ex)
  rw [w_seq]
  simp only [w_set]
  rw [v_s1]
  simp only [w_e2, v_var, List.getElem?_cons_succ, List.getElem?_cons_zero, on_some]
  rw [v_ixL, lstOf_lst g7, on_some, at_lit k.toNat k ek, List.getElem?_map, ex]
  simp only [Option.map_some, on_some, w_c]
  refine ⟨rfl, ?_⟩
  rw [w_split (by decide) (by decide) (by unfold LIM; omega)]
  simp only [List.set_cons_succ, List.set_cons_zero]
  have hjw : jl (spl z__ 0 [] x) = x.length + 1 := by
    have := jl_spl (c := 32) (l := x) (acc := [])
    simpa using this
  have htw : ∀ y ∈ spl z__ 0 [] x, Tx y := spl_tx txx
  have hnw := spl_ne (s := z__) 0 [] x
  generalize spl z__ 0 [] x = ws at *
  have hwl := jl_len (ys := ws)
  have hwp : 1 ≤ ws.length := List.length_pos_iff.mpr hnw
  have g8 : (S7 ++ [MO.lst (ws.map D.str)])[S7.length]? = some (.lst (ws.map .str)) := get_last
  have g78 := get_app (U := [MO.lst (ws.map D.str)]) g7
  have hn9 : S7.length ∉ [b, q] := notBQ B7 (Nat.le_refl _)
  have B8 : Box b q (S7 ++ [MO.lst (ws.map D.str)]) := B7.app
  have K8 : Keep [b, q] S (S7 ++ [MO.lst (ws.map D.str)]) := K7.trans .app
  generalize S7.length = n9 at *
  generalize S7 ++ [MO.lst (ws.map D.str)] = S8 at *
  rw [w_seq]
  simp only [w_set, w_call, w_cons, w_nil, v_var, List.getElem?_cons_succ, List.getElem?_cons_zero, on_some, v_lenL, lstOf_lst g8, List.length_map]
  refine take_in B8 ⟨by omega, by omega⟩ fun j S9 i9 B9 k9 => ?_
  have g79 := k9.at g78 hrr
  have g89 := k9.at g8 hn9
  have K9 := K8.trans k9
  simp only [List.set_cons_succ, List.set_cons_zero]
  rw [w_seq]
  simp only [w_set, w_lst, w_cons, w_nil, w_c, List.set_cons_succ, List.set_cons_zero]
  have eo1 : [D.str z_empty, D.str z_0, D.str z_00, D.str z_07, D.str z_9, D.str z_23, D.str z_24, D.str z_999, D.str z_1000, D.str z__1, D.str z_add, D.str z_go, D.str z_end, D.str z_say, D.str z_load, D.str z_copy] = (oddW.take 16).map D.str := rfl
  rw [eo1]
  have ga : (S9 ++ [MO.lst ((oddW.take 16).map D.str)])[S9.length]? = some (.lst ((oddW.take 16).map D.str)) := get_last
  have g7a := get_app (U := [MO.lst ((oddW.take 16).map D.str)]) g79
  have g8a := get_app (U := [MO.lst ((oddW.take 16).map D.str)]) g89
  have Ba : Box b q (S9 ++ [MO.lst ((oddW.take 16).map D.str)]) := B9.app
  have Ka : Keep [b, q] S (S9 ++ [MO.lst ((oddW.take 16).map D.str)]) := K9.trans .app
  generalize S9.length = na at *
  generalize S9 ++ [MO.lst ((oddW.take 16).map D.str)] = Sa at *
  rw [w_seq]
  simp only [w_set, w_e2, w_lst, w_cons, w_nil, w_c, v_var, List.getElem?_cons_succ, List.getElem?_cons_zero, on_some, List.set_cons_succ, List.set_cons_zero]
  have gb : (Sa ++ [MO.lst [D.str z___62, D.str z_box]])[Sa.length]? = some (.lst [D.str z___62, D.str z_box]) := get_last
  have gab := get_app (U := [MO.lst [D.str z___62, D.str z_box]]) ga
  have g7b := get_app (U := [MO.lst [D.str z___62, D.str z_box]]) g7a
  have g8b := get_app (U := [MO.lst [D.str z___62, D.str z_box]]) g8a
  have Bb : Box b q (Sa ++ [MO.lst [D.str z___62, D.str z_box]]) := Ba.app
  have Kb : Keep [b, q] S (Sa ++ [MO.lst [D.str z___62, D.str z_box]]) := Ka.trans .app
  generalize Sa.length = nb at *
  generalize Sa ++ [MO.lst [D.str z___62, D.str z_box]] = Sb at *
  have eo2 : (oddW.take 16).map D.str ++ [D.str z___62, D.str z_box] = oddW.map D.str := rfl
  rw [w_addLL gab gb (by rw [List.length_map]; decide), eo2]
  have gc : (Sb ++ [MO.lst (oddW.map D.str)])[Sb.length]? = some (.lst (oddW.map D.str)) := get_last
  have hn11 : Sb.length ∉ [b, q] := notBQ Bb (Nat.le_refl _)
  have g7c := get_app (U := [MO.lst (oddW.map D.str)]) g7b
  have g8c := get_app (U := [MO.lst (oddW.map D.str)]) g8b
  have Bc : Box b q (Sb ++ [MO.lst (oddW.map D.str)]) := Bb.app
  have Kc : Keep [b, q] S (Sb ++ [MO.lst (oddW.map D.str)]) := Kb.trans .app
  generalize Sb.length = nc at *
  generalize Sb ++ [MO.lst (oddW.map D.str)] = Sc at *
  rw [w_seq]
  refine wp_mono (new_spec (S0 := Sc) Bc .refl (by omega) g8c gc htw hn9 hn11 i9 (by omega)) ?_
  rintro _ Sd ⟨nd, ws', rfl, gd, hd', hjd, Bd, kd⟩
  dsimp only
  refine wp_mono (out_spec Bd (Kc.trans kd) hl (kd.at g7c hrr) gd ht hd' hj hk ex (by omega)) ?_
  rintro _ Se ⟨d, ρ, rfl, h⟩
  exact h
end PG
end
section
set_option linter.all false
set_option autoImplicit false
set_option maxRecDepth 100003
set_option linter.all false
set_option maxHeartbeats 0
namespace PG
open PF
theorem tx_str {i : Int} (h : 0 ≤ i ∧ i < 1000) : Tx (strI i) := fun c hc => by have := (num_ok h).dig c hc; omega
theorem tx_row {r : Row} (hs : ∀ i ∈ r.nums, 0 ≤ i ∧ i < 1000) : Tx (rowT r) := tx_join (by unfold Tx; decide) fun w hw => by
  unfold words at hw
  rcases List.mem_cons.mp hw with rfl | hw
  · exact fun c hc => by have := w_sign hc; omega
  · obtain ⟨i, hi, rfl⟩ := List.mem_map.mp hw
    exact tx_str (hs i hi)
theorem tx_prog {p n : Int} {rows : List Row} (hP : ProgOk p n rows) : Tx (progT p n rows) := tx_join (by unfold Tx; decide) fun w hw => by
  have h0 := hP.pr
  have h1 := hP.nm
  have h2 := hP.ln
  rcases List.mem_cons.mp hw with rfl | hw
  · refine tx_join (by unfold Tx; decide) fun w hw => ?_
    simp only [List.mem_cons, List.not_mem_nil, or_false] at hw
    rcases hw with rfl | rfl | rfl | rfl
    · unfold Tx; decide
    · exact tx_str (by omega)
    · unfold Tx; decide
    · exact tx_str (by omega)
  · obtain ⟨r, hr, rfl⟩ := List.mem_map.mp hw
    exact tx_row (row_small (hP.ok r hr) h1.2 (by omega))
theorem told_read {S : Sto} {ρ : Env} {i : Nat} {l : List Nat} (hT : TabsAt S) (hl : l.length ≤ 9000) (hc : Tx l) (hi : ρ[i]? = some (some (.str l))) : wp (eTold [(1, 20), (2, 21)] (eCall f_read (aCons (eVar i) (aNil))) ρ S) fun d S' => d = rdD (rdOf l) ∧ Keep [] S S' := by
  refine wy_told hT.all ?_
  refine wy_call ?_
  rw [w_cons, w_var hi, w_nil]
  refine wy_mono (read_res hl hc) ?_ ?_
  · rintro _ S' ⟨⟨p, n, rows, h1, h2, rfl⟩, k⟩
    rw [h1, rdD_ok h2]
    exact ⟨rfl, k⟩
  · rintro e S' ⟨⟨i, h1, rfl⟩ | ⟨p, n, rows, r, h1, h2, rfl⟩, k⟩
    · rw [tell16, h1]
      exact ⟨rfl, k⟩
    · rw [tell15, h1, rdD_err h2]
      exact ⟨rfl, k⟩
theorem alOk_rd (r : Rd) : alOk 12 (rdD r) = true := by
  cases r with
  | text i => exact alOk_le (k := 2) (alOk_tup (by show 2 < 2 ^ 62; decide) fun d hd => by simp at hd; rcases hd with rfl | rfl <;> rfl) (by decide)
  | prog p n rows =>
    cases h : npRes p n rows with
    | none =>
      rw [rdD_ok h]
      exact alOk_le (alOk_prog (by have := (np_ok h).ln; omega)) (by decide)
    | some r =>
      rw [rdD_err h]
      exact alOk_le (k := 2) (alOk_tup (by show 2 < 2 ^ 62; decide) fun d hd => by simp at hd; rcases hd with rfl | rfl <;> rfl) (by decide)
def oddT : List (List Nat) := [z_empty, z__, z___38, z_params_0_names_1, z_params_0_names_1_, z_params_0_names_1_end, z_names_1_params_0_end, z_params_2_names_1_end, z_params_0_names_0_end, z_params_0_names_1_end_, z_params_0_names_1_go_1]
theorem oddT_ok : ∀ w ∈ oddT, Tx w ∧ w.length ≤ 1025 := by unfold Tx; decide
/-- the texts of one turn -/
def stT22 : St := sSeq (sFor (iRange1 (eCall f__law_take (aCons (eVar 1) (aCons (eC (.int 4)) (aNil))))) (PF.gName 5) (sSet 4 (eCall f__law_spoilt (aCons (eVar 1) (aCons (eVar 4) (aNil))))))
  (sSeq (sSet 6 (eCall f__law_read (aCons (eVar 4) (aNil))))
  (sFor (iRange1 (eC (.int 2))) (PF.gName 7) (sIf (PF.tNot (tE (eCall (f__law_alike 12) (aCons (eTold [(1, 20), (2, 21)] (eCall f_read (aCons (eVar 4) (aNil)))) (aCons (eVar 6) (aNil)))))) (sRet (eC (.bl false))) (sNext))))
theorem turn_spec22 {b q : Nat} {S : Sto} {l : List Nat} {d0 d2 d3 d5 d6 d7 : Option D} (hB : Box b q S) (hT : TabsAt S) (n1 : 1 ∉ [b, q]) (n2 : 2 ∉ [b, q]) (hc : Tx l) (hl : l.length ≤ 1025) :
    wp (stT22 [d0, some (.ref b), d2, d3, some (.str l), d5, d6, d7] S) fun z S' => (∃ c4 c5 c6 c7, z = (.nx, [d0, some (.ref b), d2, d3, c4, c5, c6, c7])) ∧ Box b q S' ∧ Keep [b, q] S S' := by
  unfold stT22
  rw [w_seq]
  simp only [w_for, v_range1, w_call, w_cons, w_nil, w_c, v_var, List.getElem?_cons_succ, List.getElem?_cons_zero, on_some]
  refine take_in hB (by decide) fun n S1 i1 B1 k1 => ?_
  refine ⟨n, rfl, by unfold In0 at i1; omega, ?_⟩
  refine wp_for (it := ⟨[], rangeD 0 n⟩) (fun k ρ S' => ∃ l' c5, ρ = [d0, some (.ref b), d2, d3, some (.str l'), c5, d6, d7] ∧ Tx l' ∧ l'.length + 20 ≤ 2 ^ k * 1045 ∧ Box b q S' ∧ Keep [b, q] S S') (fun _ _ _ _ => rfl) ?_ ⟨l, d5, rfl, hc, by omega, B1, k1⟩ ?_
  · rintro k x ρ S2 hx ⟨l', c5, rfl, hc', hl', B2, k2⟩
    have hk : k < 4 := by
      have := (List.getElem?_eq_some_iff.mp hx).1
      simp only [rangeD, List.length_map, List.length_range] at this
      unfold In0 at i1
      omega
    have hp : 2 ^ k ≤ 2 ^ 3 := Nat.pow_le_pow_right (by decide) (by omega)
    refine ⟨_, rfl, ?_⟩
    simp only [List.set_cons_succ, List.set_cons_zero, w_set, w_call, w_cons, w_nil, v_var, List.getElem?_cons_succ, List.getElem?_cons_zero, on_some]
    refine wp_mono (spoilt_spec B2 hc' (by omega)) ?_
    rintro _ S3 ⟨l2, rfl, hc2, hl2, B3, k3⟩
    refine ⟨_, _, rfl, hc2, ?_, B3, k2.trans k3⟩
    rw [Nat.pow_succ]
    omega
  · rintro ρ S2 ⟨l', c5, rfl, hc', hl', B2, k2⟩
    have hn : (Iter.mk [] (rangeD 0 n)).all.length ≤ 3 := by
      show (rangeD 0 n).length ≤ 3
      simp only [rangeD, List.length_map, List.length_range]
      unfold In0 at i1
      omega
    have hp : 2 ^ (Iter.mk [] (rangeD 0 n)).all.length ≤ 2 ^ 3 := Nat.pow_le_pow_right (by decide) hn
    have hl9 : l'.length ≤ 9000 := by omega
    dsimp only
    have T2 := hT.keep k2 n1 n2
    rw [w_seq]
    simp only [w_set, w_call, w_cons, w_nil, v_var, List.getElem?_cons_succ, List.getElem?_cons_zero, on_some]
    refine wp_mono (law_read_res T2 hl9 hc') ?_
    rintro _ S3 ⟨rfl, k3⟩
    have T3 := T2.keep k3 (by simp) (by simp)
    have B3 := B2.keep k3 (by simp) (by simp)
    have K3 : Keep [b, q] S S3 := k2.trans k3.all
    simp only [List.set_cons_succ, List.set_cons_zero]
    simp only [w_for, v_range1, w_c]
    refine ⟨2, rfl, by decide, ?_⟩
    refine wp_for (it := ⟨[], rangeD 0 2⟩) (fun k ρ S' => ∃ c7, ρ = [d0, some (.ref b), d2, d3, some (.str l'), c5, some (rdD (rdOf l')), c7] ∧ TabsAt S' ∧ Box b q S' ∧ Keep [b, q] S S') (fun _ _ _ _ => rfl) ?_ ⟨d7, rfl, T3, B3, K3⟩ ?_
    · rintro k x ρ S4 hx ⟨c7, rfl, T4, B4, k4⟩
      refine ⟨_, rfl, ?_⟩
      simp only [List.set_cons_succ, List.set_cons_zero, w_sif, w_tnot, w_te, w_call, w_cons, w_nil, v_var, List.getElem?_cons_succ, List.getElem?_cons_zero, on_some]
      refine wp_mono (told_read T4 hl9 hc' rfl) ?_
      rintro _ S5 ⟨rfl, k5⟩
      refine wp_mono (al_flat (alOk_rd (rdOf l'))) ?_
      rintro _ S6 ⟨rfl, rfl⟩
      simp only [ex_bl]
      rw [if_neg (by decide), w_next]
      exact ⟨_, rfl, T4.keep k5 (by simp) (by simp), B4.keep k5 (by simp) (by simp), k4.trans k5.all⟩
    · rintro ρ S4 ⟨c7, rfl, T4, B4, k4⟩
      exact ⟨⟨_, _, _, _, rfl⟩, B4, k4⟩
theorem law_wp22 {o : MO} (ns : List Int) (hl : ns.length ≤ 63) (h0 : lstOf 0 [o, .ins 20 [], .ins 21 []] = some (ns.map .int)) : wp (f_law_v19 [.ref 0] [o, .ins 20 [], .ins 21 []]) fun d _ => d = .bl true := by
  have T0 : TabsAt [o, .ins 20 [], .ins 21 []] := ⟨rfl, rfl⟩
  unfold f_law_v19 b_law_v19
  rw [w_fn]
  refine ⟨by simp, ?_⟩
  simp only [List.map_cons, List.map_nil, List.length_cons, List.length_nil, Nat.zero_add, Nat.reduceAdd, Nat.reduceSub, List.replicate_succ, List.replicate_zero, List.cons_append, List.nil_append]
  rw [w_seq]
  simp only [w_set, w_call, w_cons, w_nil, v_var, List.getElem?_cons_succ, List.getElem?_cons_zero, on_some]
  refine wp_mono (begun_spec h0 hl) ?_
  rintro _ S1 ⟨b, q, rfl, B1, k1, lb, lq⟩
  have n1 : 1 ∉ [b, q] := by simp at lb lq ⊢; omega
  have n2 : 2 ∉ [b, q] := by simp at lb lq ⊢; omega
  have T1 := T0.keep k1 (by simp) (by simp)
  simp only [List.set_cons_succ, List.set_cons_zero]
  rw [w_seq]
  simp only [w_set, w_lst, w_cons, w_nil, w_c, List.set_cons_succ, List.set_cons_zero]
  have eo1 : [D.str z_empty, D.str z__, D.str z___38, D.str z_params_0_names_1, D.str z_params_0_names_1_, D.str z_params_0_names_1_end, D.str z_names_1_params_0_end] = (oddT.take 7).map D.str := rfl
  rw [eo1]
  have ga : (S1 ++ [MO.lst ((oddT.take 7).map D.str)])[S1.length]? = some (.lst ((oddT.take 7).map D.str)) := get_last
  have Ba : Box b q (S1 ++ [MO.lst ((oddT.take 7).map D.str)]) := B1.app
  have Ta : TabsAt (S1 ++ [MO.lst ((oddT.take 7).map D.str)]) := T1.keep (W := []) .app (by simp) (by simp)
  generalize S1.length = na at *
  generalize S1 ++ [MO.lst ((oddT.take 7).map D.str)] = Sa at *
  rw [w_seq]
  simp only [w_set, w_e2, w_lst, w_cons, w_nil, w_c, v_var, List.getElem?_cons_succ, List.getElem?_cons_zero, on_some, List.set_cons_succ, List.set_cons_zero]
  have eo3 : [D.str z_params_2_names_1_end, D.str z_params_0_names_0_end, D.str z_params_0_names_1_end_, D.str z_params_0_names_1_go_1] = (oddT.drop 7).map D.str := rfl
  rw [eo3]
  have gb : (Sa ++ [MO.lst ((oddT.drop 7).map D.str)])[Sa.length]? = some (.lst ((oddT.drop 7).map D.str)) := get_last
  have gab := get_app (U := [MO.lst ((oddT.drop 7).map D.str)]) ga
  have Bb : Box b q (Sa ++ [MO.lst ((oddT.drop 7).map D.str)]) := Ba.app
  have Tb : TabsAt (Sa ++ [MO.lst ((oddT.drop 7).map D.str)]) := Ta.keep (W := []) .app (by simp) (by simp)
  generalize Sa.length = nb at *
  generalize Sa ++ [MO.lst ((oddT.drop 7).map D.str)] = Sb at *
  have eo2 : (oddT.take 7).map D.str ++ (oddT.drop 7).map D.str = oddT.map D.str := rfl
  rw [w_addLL gab gb (by decide), eo2]
  have gc : (Sb ++ [MO.lst (oddT.map D.str)])[Sb.length]? = some (.lst (oddT.map D.str)) := get_last
  have hod : Sb.length ∉ [b, q] := notBQ Bb (Nat.le_refl _)
  have Bc : Box b q (Sb ++ [MO.lst (oddT.map D.str)]) := Bb.app
  have Tc : TabsAt (Sb ++ [MO.lst (oddT.map D.str)]) := Tb.keep (W := []) .app (by simp) (by simp)
  generalize Sb.length = od at *
  generalize Sb ++ [MO.lst (oddT.map D.str)] = Sc at *
  rw [w_seq]
  simp only [w_for, v_range1, w_c]
  refine ⟨6, rfl, by decide, ?_⟩
  refine wp_for (it := ⟨[], rangeD 0 6⟩) (fun k ρ S' => (∃ c3 c4 c5 c6 c7, ρ = [some (.ref 0), some (.ref b), some (.ref od), c3, c4, c5, c6, c7]) ∧ Box b q S' ∧ TabsAt S' ∧ S'[od]? = some (.lst (oddT.map D.str))) (fun _ _ _ _ => rfl) ?_ ⟨⟨none, none, none, none, none, rfl⟩, Bc, Tc, gc⟩ ?_
  · rintro k x ρ S2 hx ⟨⟨c3, c4, c5, c6, c7, rfl⟩, B2, T2, g2⟩
    refine ⟨_, rfl, ?_⟩
    simp only [List.set_cons_succ, List.set_cons_zero]
    rw [w_seq]
    simp only [w_set, w_call, w_cons, w_nil, w_c, v_var, List.getElem?_cons_succ, List.getElem?_cons_zero, on_some]
    refine wp_mono (program_spec B2 (by decide)) ?_
    rintro _ S3 ⟨p, n, rows, rfl, hP, -, B3, k3⟩
    refine wp_mono (written_spec hP) ?_
    rintro _ S4 ⟨rfl, k4⟩
    have B4 := B3.keep k4 (by simp) (by simp)
    have K4 : Keep [b, q] S2 S4 := k3.trans k4.all
    have hlen := progT_len hP
    have htx := tx_prog hP
    simp only [List.set_cons_succ, List.set_cons_zero]
    rw [w_seq]
    simp only [w_sif, w_te, w_e2, w_call, w_cons, w_nil, w_c, v_var, List.getElem?_cons_succ, List.getElem?_cons_zero, on_some]
    refine take_in B4 (by decide) fun r S5 i5 B5 k5 => ?_
    have K5 := K4.trans k5
    simp only [w_eqI, ex_bl]
    have fin : ∀ (l : List Nat) (S6 : Sto), Tx l → l.length ≤ 1025 → Box b q S6 → Keep [b, q] S2 S6 → wp (stT22 [some (.ref 0), some (.ref b), some (.ref od), some x, some (.str l), c5, c6, c7] S6) fun r S1 => r.1 = .nx ∧ (∃ c3 c4 c5 c6 c7, r.2 = [some (.ref 0), some (.ref b), some (.ref od), c3, c4, c5, c6, c7]) ∧ Box b q S1 ∧ TabsAt S1 ∧ S1[od]? = some (.lst (oddT.map D.str)) := by
      intro l S6 h1 h2 B6 K6
      refine wp_mono (turn_spec22 B6 (T2.keep K6 n1 n2) n1 n2 h1 h2) ?_
      rintro _ S7 ⟨⟨e4, e5, e6, e7, rfl⟩, B7, k7⟩
      have K7 := K6.trans k7
      exact ⟨rfl, ⟨_, _, _, _, _, rfl⟩, B7, T2.keep K7 n1 n2, K7.at g2 hod⟩
    by_cases c0 : r = 0
    · rw [if_pos (by simpa using c0)]
      simp only [w_set, w_e2, w_call, w_cons, w_nil, w_c, v_var, List.getElem?_cons_succ, List.getElem?_cons_zero, on_some]
      refine take_in B5 (by decide) fun o2 S6 i6 B6 k6 => ?_
      have K6 := K5.trans k6
      obtain ⟨ow, eo, -, e2⟩ := at_in (xs := oddT) i6
      have how := oddT_ok ow (List.mem_of_getElem? eo)
      rw [v_ixL, lstOf_lst (K6.at g2 hod), on_some, at_lit o2.toNat o2 e2, List.getElem?_map, eo]
      simp only [Option.map_some, on_some, List.set_cons_succ, List.set_cons_zero]
      refine wp_mono (fin ow S6 how.1 how.2 B6 K6) ?_
      rintro ⟨f, ρ⟩ S7 ⟨e, h⟩
      cases e
      exact h
    · rw [if_neg (by simpa using c0), w_next]
      dsimp only
      refine wp_mono (fin _ S5 htx (by omega) B5 K5) ?_
      rintro ⟨f, ρ⟩ S7 ⟨e, h⟩
      cases e
      exact h
  · rintro ρ S2 ⟨⟨c3, c4, c5, c6, c7, rfl⟩, B2, -, -⟩
    dsimp only
    rw [w_ret, w_c]
end PG
namespace Gk22
open PF PG
theorem law_holds : ∀ ns : List Int, ns.length ≤ 63 → ∀ o : MO, o = .rol (ns.map D.int) ∨ o = .lst (ns.map D.int) → ∃ S', f_law_v19 [.ref 0] [o, .ins 20 [], .ins 21 []] = .ok (.bl true) S' := fun ns h o ho => by
  have h0 : lstOf 0 [o, .ins 20 [], .ins 21 []] = some (ns.map .int) := by rcases ho with rfl | rfl <;> rfl
  obtain ⟨d, S', e, rfl⟩ := law_wp22 ns h h0
  exact ⟨S', e⟩
end Gk22
end
section
set_option linter.all false
set_option Elab.async false
set_option linter.all false
set_option maxRecDepth 100003
set_option maxHeartbeats 4000003
set_option autoImplicit false
namespace Gk22
open PySem L2 PF PG
abbrev s_BadProgram___init__ : Stmt := (inClass (top 2) 0)
theorem sc_BadProgram___init__ : FnScope ["self", "row"] ["self", "row"] (defScope s_BadProgram___init__) := ⟨rfl, rfl, rfl, by decide +kernel, rfl, by decide +kernel, by decide +kernel⟩
theorem i_BadProgram___init__ {P : Program} {w : World} {K : PySem.W.Frag} {mg : Str → Option Value} {base : Heap} {f C B : Addr} {fd : FuncData} (F : Fun K "__init__" "BadProgram.__init__" s_BadProgram___init__ f fd) (T : OexC K C) (hm : mg "BoxError" = some (.ref B)) (rB : PySem.W.readsIn K B (.type "type") = true) (sB : PySem.W.specialIn K (.ref B) "__getattribute__" = some (some (.builtin "type.__getattribute__"))) (vB : PySem.W.findCls K (.ref B) (.type "type") "__init__" = some (.val (.builtin "ValueError.__init__"))) (hno : PySem.W.findIn K (.ref C) "row" = some none) : FnOk P w K mg base CX0 1 f fd ["self", "row"] (spInit C) :=
  init_ok F sc_BadProgram___init__ T rfl rfl (.inl rfl) (.inl rfl) hm rB sB vB hno (by decide +kernel) (pl := fun n cdv => do return (← importBound (.Name "BoxError" ⟨7, 8, 7, 16⟩) (PyProof.Rows.envOfC "BadProgram.__init__" (defScope s_BadProgram___init__) n f cdv)).getD true) (fun _ _ => rfl)
abbrev s_BadText___init__ : Stmt := (inClass (top 10) 0)
theorem sc_BadText___init__ : FnScope ["self", "row"] ["self", "row"] (defScope s_BadText___init__) := ⟨rfl, rfl, rfl, by decide +kernel, rfl, by decide +kernel, by decide +kernel⟩
theorem i_BadText___init__ {P : Program} {w : World} {K : PySem.W.Frag} {mg : Str → Option Value} {base : Heap} {f C B : Addr} {fd : FuncData} (F : Fun K "__init__" "BadText.__init__" s_BadText___init__ f fd) (T : OexC K C) (hm : mg "BoxError" = some (.ref B)) (rB : PySem.W.readsIn K B (.type "type") = true) (sB : PySem.W.specialIn K (.ref B) "__getattribute__" = some (some (.builtin "type.__getattribute__"))) (vB : PySem.W.findCls K (.ref B) (.type "type") "__init__" = some (.val (.builtin "ValueError.__init__"))) (hno : PySem.W.findIn K (.ref C) "row" = some none) : FnOk P w K mg base CX0 1 f fd ["self", "row"] (spInit C) :=
  init_ok F sc_BadText___init__ T rfl rfl (.inl rfl) (.inl rfl) hm rB sB vB hno (by decide +kernel) (pl := fun n cdv => do return (← importBound (.Name "BoxError" ⟨32, 8, 32, 16⟩) (PyProof.Rows.envOfC "BadText.__init__" (defScope s_BadText___init__) n f cdv)).getD true) (fun _ _ => rfl)
theorem all_mk {l : PySem.W.OpenLaw} {w : World} {K : PySem.W.Frag} {h : Heap} {mg : Str → Option Value} {fa c9_BadChoice c9_BadCount c9_BadFrame c9_BadGiven c9_BadPaper c9_BadProgram c9_BadText c9_NoRoom c9_TooMany c9_BoxError t_at_SHAPES fi_BadProgram fi_BadText gT f___law_begun f__is_number f__is_row f__need_program f__written f___law_take f___law_row f___law_program f___law_spoilt f___law_number f___law_line f___law_read cc__law_read t__law_read f___law_alike f__number_of f__row_of f__read f__law cc_law t_law : Addr} (X : K.In h) (G : h.Ns mainGlobals mg) (hfa : mg "law" = some (.ref fa))
    {v_FIGURES : Tok}
    {v_MOST_FIGURES : Tok}
    {v_MOST_NAMES : Tok}
    {v_MOST_ROWS : Tok}
    {v_NAMES : Tok}
    {v_PARAMS : Tok}
    {v_RING : Tok}
    {es_SHAPES : Array DictEntry} {m_SHAPES : Nat}
    {oc_BadProgram___init__ kV_BadProgram___init__ dc_BadProgram___init__ pm_BadProgram___init__ cd_BadProgram___init__ ct_BadProgram___init__ : Value} {od_BadProgram___init__ an_BadProgram___init__ : Option Addr} {sl_BadProgram___init__ : Array (Option Value)}
    {oc_BadText___init__ kV_BadText___init__ dc_BadText___init__ pm_BadText___init__ cd_BadText___init__ ct_BadText___init__ : Value} {od_BadText___init__ an_BadText___init__ : Option Addr} {sl_BadText___init__ : Array (Option Value)}
    {oc_T kV_T dc_T pm_T cd_T ct_T : Value} {od_T an_T : Option Addr} {sl_T : Array (Option Value)}
    {oc__law_begun kV__law_begun dc__law_begun pm__law_begun cd__law_begun ct__law_begun : Value} {od__law_begun an__law_begun : Option Addr} {sl__law_begun : Array (Option Value)}
    {oc_is_number kV_is_number dc_is_number pm_is_number cd_is_number ct_is_number : Value} {od_is_number an_is_number : Option Addr} {sl_is_number : Array (Option Value)}
    {oc_is_row kV_is_row dc_is_row pm_is_row cd_is_row ct_is_row : Value} {od_is_row an_is_row : Option Addr} {sl_is_row : Array (Option Value)}
    {oc_need_program kV_need_program dc_need_program pm_need_program cd_need_program ct_need_program : Value} {od_need_program an_need_program : Option Addr} {sl_need_program : Array (Option Value)}
    {oc_written kV_written dc_written pm_written cd_written ct_written : Value} {od_written an_written : Option Addr} {sl_written : Array (Option Value)}
    {oc__law_take kV__law_take dc__law_take pm__law_take cd__law_take ct__law_take : Value} {od__law_take an__law_take : Option Addr} {sl__law_take : Array (Option Value)}
    {oc__law_row kV__law_row dc__law_row pm__law_row cd__law_row ct__law_row : Value} {od__law_row an__law_row : Option Addr} {sl__law_row : Array (Option Value)}
    {oc__law_program kV__law_program dc__law_program pm__law_program cd__law_program ct__law_program : Value} {od__law_program an__law_program : Option Addr} {sl__law_program : Array (Option Value)}
    {oc__law_spoilt kV__law_spoilt dc__law_spoilt pm__law_spoilt cd__law_spoilt ct__law_spoilt : Value} {od__law_spoilt an__law_spoilt : Option Addr} {sl__law_spoilt : Array (Option Value)}
    {oc__law_number kV__law_number dc__law_number pm__law_number cd__law_number ct__law_number : Value} {od__law_number an__law_number : Option Addr} {sl__law_number : Array (Option Value)}
    {oc__law_line kV__law_line dc__law_line pm__law_line cd__law_line ct__law_line : Value} {od__law_line an__law_line : Option Addr} {sl__law_line : Array (Option Value)}
    {oc__law_read kV__law_read dc__law_read pm__law_read ct__law_read : Value} {od__law_read an__law_read : Option Addr} {sl__law_read : Array (Option Value)}
    {odc__law_read : Option Addr} {vsc__law_read : Array Value} {slc__law_read : Array (Option Value)}
    {oc__law_alike kV__law_alike dc__law_alike pm__law_alike cd__law_alike ct__law_alike : Value} {od__law_alike an__law_alike : Option Addr} {sl__law_alike : Array (Option Value)}
    {oc_number_of kV_number_of dc_number_of pm_number_of cd_number_of ct_number_of : Value} {od_number_of an_number_of : Option Addr} {sl_number_of : Array (Option Value)}
    {oc_row_of kV_row_of dc_row_of pm_row_of cd_row_of ct_row_of : Value} {od_row_of an_row_of : Option Addr} {sl_row_of : Array (Option Value)}
    {oc_read kV_read dc_read pm_read cd_read ct_read : Value} {od_read an_read : Option Addr} {sl_read : Array (Option Value)}
    {oc_law kV_law dc_law pm_law ct_law : Value} {od_law an_law : Option Addr} {sl_law : Array (Option Value)}
    {odc_law : Option Addr} {vsc_law : Array Value} {slc_law : Array (Option Value)}
    (b_ValueError : PySem.W.nsIn K mainGlobals "ValueError" = some none)
    (b_bool : PySem.W.nsIn K mainGlobals "bool" = some none)
    (b_enumerate : PySem.W.nsIn K mainGlobals "enumerate" = some none)
    (b_int : PySem.W.nsIn K mainGlobals "int" = some none)
    (b_isinstance : PySem.W.nsIn K mainGlobals "isinstance" = some none)
    (b_len : PySem.W.nsIn K mainGlobals "len" = some none)
    (b_list : PySem.W.nsIn K mainGlobals "list" = some none)
    (b_min : PySem.W.nsIn K mainGlobals "min" = some none)
    (b_range : PySem.W.nsIn K mainGlobals "range" = some none)
    (b_str : PySem.W.nsIn K mainGlobals "str" = some none)
    (b_tuple : PySem.W.nsIn K mainGlobals "tuple" = some none)
    (a9_BadChoice : PySem.W.nsIn K mainGlobals "BadChoice" = some (some (.ref c9_BadChoice)))
    (a9_BadCount : PySem.W.nsIn K mainGlobals "BadCount" = some (some (.ref c9_BadCount)))
    (a9_BadFrame : PySem.W.nsIn K mainGlobals "BadFrame" = some (some (.ref c9_BadFrame)))
    (a9_BadGiven : PySem.W.nsIn K mainGlobals "BadGiven" = some (some (.ref c9_BadGiven)))
    (a9_BadPaper : PySem.W.nsIn K mainGlobals "BadPaper" = some (some (.ref c9_BadPaper)))
    (a9_BadProgram : PySem.W.nsIn K mainGlobals "BadProgram" = some (some (.ref c9_BadProgram)))
    (a9_BadText : PySem.W.nsIn K mainGlobals "BadText" = some (some (.ref c9_BadText)))
    (a9_NoRoom : PySem.W.nsIn K mainGlobals "NoRoom" = some (some (.ref c9_NoRoom)))
    (a9_TooMany : PySem.W.nsIn K mainGlobals "TooMany" = some (some (.ref c9_TooMany)))
    (a9_BoxError : PySem.W.nsIn K mainGlobals "BoxError" = some (some (.ref c9_BoxError)))
    (n9 : ninesB K ⟨c9_BadChoice, c9_BadCount, c9_BadFrame, c9_BadGiven, c9_BadPaper, c9_BadProgram, c9_BadText, c9_NoRoom, c9_TooMany⟩ c9_BoxError = true)
    (nl__law_read : PySem.W.nsIn K mainGlobals "_law_read.<locals>.<lambda>" = some none)
    (nl_law : PySem.W.nsIn K mainGlobals "law.<locals>.<lambda>" = some none)
    (c_FIGURES : PySem.W.nsIn K mainGlobals "FIGURES" = some (some (.str "0123456789" v_FIGURES)))
    (c_MOST_FIGURES : PySem.W.nsIn K mainGlobals "MOST_FIGURES" = some (some (.int 3 v_MOST_FIGURES)))
    (c_MOST_NAMES : PySem.W.nsIn K mainGlobals "MOST_NAMES" = some (some (.int 8 v_MOST_NAMES)))
    (c_MOST_ROWS : PySem.W.nsIn K mainGlobals "MOST_ROWS" = some (some (.int 24 v_MOST_ROWS)))
    (c_NAMES : PySem.W.nsIn K mainGlobals "NAMES" = some (some (.str "names" v_NAMES)))
    (c_PARAMS : PySem.W.nsIn K mainGlobals "PARAMS" = some (some (.str "params" v_PARAMS)))
    (c_RING : PySem.W.nsIn K mainGlobals "RING" = some (some (.int 1000 v_RING)))
    (c_SHAPES : PySem.W.nsIn K mainGlobals "SHAPES" = some (some (.ref t_at_SHAPES)))
    (l_SHAPES : K.lookup t_at_SHAPES = some ⟨.type "dict", none, .dict es_SHAPES m_SHAPES, #[]⟩)
    (lo_SHAPES : (t_at_SHAPES == sysModules) = false)
    (kl_SHAPES : PySem.W.KeysLit w.params es_SHAPES.toList)
    (te_SHAPES : TabEs t_SHAPES es_SHAPES.toList)
    (ai_BadProgram : PySem.W.findIn K (.ref c9_BadProgram) "__init__" = some (some (.ref fi_BadProgram)))
    (ti_BadProgram : PySem.W.typeIn K (.ref fi_BadProgram) = some (.type "function"))
    (li_BadProgram : K.lookup fi_BadProgram = some ⟨oc_BadProgram___init__, od_BadProgram___init__, .func (PySem.W.fnOf "__init__" "BadProgram.__init__" (defArgs s_BadProgram___init__) (defBody s_BadProgram___init__) (defScope s_BadProgram___init__) .none kV_BadProgram___init__ dc_BadProgram___init__ pm_BadProgram___init__ an_BadProgram___init__ cd_BadProgram___init__ ct_BadProgram___init__), sl_BadProgram___init__⟩)
    (ci_BadProgram : PySem.W.codeIn K cd_BadProgram___init__ "BadProgram.__init__" = true)
    (ki_BadProgram : PySem.W.keepIn K (.ref fi_BadProgram) = true)
    (ox_BadProgram : OexC K c9_BadProgram)
    (no_BadProgram : PySem.W.findIn K (.ref c9_BadProgram) "row" = some none)
    (ai_BadText : PySem.W.findIn K (.ref c9_BadText) "__init__" = some (some (.ref fi_BadText)))
    (ti_BadText : PySem.W.typeIn K (.ref fi_BadText) = some (.type "function"))
    (li_BadText : K.lookup fi_BadText = some ⟨oc_BadText___init__, od_BadText___init__, .func (PySem.W.fnOf "__init__" "BadText.__init__" (defArgs s_BadText___init__) (defBody s_BadText___init__) (defScope s_BadText___init__) .none kV_BadText___init__ dc_BadText___init__ pm_BadText___init__ an_BadText___init__ cd_BadText___init__ ct_BadText___init__), sl_BadText___init__⟩)
    (ci_BadText : PySem.W.codeIn K cd_BadText___init__ "BadText.__init__" = true)
    (ki_BadText : PySem.W.keepIn K (.ref fi_BadText) = true)
    (ox_BadText : OexC K c9_BadText)
    (no_BadText : PySem.W.findIn K (.ref c9_BadText) "row" = some none)
    (rB : PySem.W.readsIn K c9_BoxError (.type "type") = true)
    (sB : PySem.W.specialIn K (.ref c9_BoxError) "__getattribute__" = some (some (.builtin "type.__getattribute__")))
    (vB : PySem.W.findCls K (.ref c9_BoxError) (.type "type") "__init__" = some (.val (.builtin "ValueError.__init__")))
    (a_T : PySem.W.nsIn K mainGlobals "_law_told" = some (some (.ref gT)))
    (l_T : K.lookup gT = some ⟨oc_T, od_T, .func (PySem.W.fnOf "_law_told" "_law_told" (defArgs s_told) (defBody s_told) (defScope s_told) .none kV_T dc_T pm_T an_T cd_T ct_T), sl_T⟩)
    (c_T : PySem.W.codeIn K cd_T "_law_told" = true)
    (k_T : PySem.W.keepIn K (.ref gT) = true)
    (a__law_begun : PySem.W.nsIn K mainGlobals "_law_begun" = some (some (.ref f___law_begun)))
    (l__law_begun : K.lookup f___law_begun = some ⟨oc__law_begun, od__law_begun, .func (PySem.W.fnOf "_law_begun" "_law_begun" (defArgs s__law_begun) (defBody s__law_begun) (defScope s__law_begun) .none kV__law_begun dc__law_begun pm__law_begun an__law_begun cd__law_begun ct__law_begun), sl__law_begun⟩)
    (c__law_begun : PySem.W.codeIn K cd__law_begun "_law_begun" = true)
    (k__law_begun : PySem.W.keepIn K (.ref f___law_begun) = true)
    (a_is_number : PySem.W.nsIn K mainGlobals "is_number" = some (some (.ref f__is_number)))
    (l_is_number : K.lookup f__is_number = some ⟨oc_is_number, od_is_number, .func (PySem.W.fnOf "is_number" "is_number" (defArgs s_is_number) (defBody s_is_number) (defScope s_is_number) .none kV_is_number dc_is_number pm_is_number an_is_number cd_is_number ct_is_number), sl_is_number⟩)
    (c_is_number : PySem.W.codeIn K cd_is_number "is_number" = true)
    (k_is_number : PySem.W.keepIn K (.ref f__is_number) = true)
    (a_is_row : PySem.W.nsIn K mainGlobals "is_row" = some (some (.ref f__is_row)))
    (l_is_row : K.lookup f__is_row = some ⟨oc_is_row, od_is_row, .func (PySem.W.fnOf "is_row" "is_row" (defArgs s_is_row) (defBody s_is_row) (defScope s_is_row) .none kV_is_row dc_is_row pm_is_row an_is_row cd_is_row ct_is_row), sl_is_row⟩)
    (c_is_row : PySem.W.codeIn K cd_is_row "is_row" = true)
    (k_is_row : PySem.W.keepIn K (.ref f__is_row) = true)
    (a_need_program : PySem.W.nsIn K mainGlobals "need_program" = some (some (.ref f__need_program)))
    (l_need_program : K.lookup f__need_program = some ⟨oc_need_program, od_need_program, .func (PySem.W.fnOf "need_program" "need_program" (defArgs s_need_program) (defBody s_need_program) (defScope s_need_program) .none kV_need_program dc_need_program pm_need_program an_need_program cd_need_program ct_need_program), sl_need_program⟩)
    (c_need_program : PySem.W.codeIn K cd_need_program "need_program" = true)
    (k_need_program : PySem.W.keepIn K (.ref f__need_program) = true)
    (a_written : PySem.W.nsIn K mainGlobals "written" = some (some (.ref f__written)))
    (l_written : K.lookup f__written = some ⟨oc_written, od_written, .func (PySem.W.fnOf "written" "written" (defArgs s_written) (defBody s_written) (defScope s_written) .none kV_written dc_written pm_written an_written cd_written ct_written), sl_written⟩)
    (c_written : PySem.W.codeIn K cd_written "written" = true)
    (k_written : PySem.W.keepIn K (.ref f__written) = true)
    (a__law_take : PySem.W.nsIn K mainGlobals "_law_take" = some (some (.ref f___law_take)))
    (l__law_take : K.lookup f___law_take = some ⟨oc__law_take, od__law_take, .func (PySem.W.fnOf "_law_take" "_law_take" (defArgs s__law_take) (defBody s__law_take) (defScope s__law_take) .none kV__law_take dc__law_take pm__law_take an__law_take cd__law_take ct__law_take), sl__law_take⟩)
    (c__law_take : PySem.W.codeIn K cd__law_take "_law_take" = true)
    (k__law_take : PySem.W.keepIn K (.ref f___law_take) = true)
    (a__law_row : PySem.W.nsIn K mainGlobals "_law_row" = some (some (.ref f___law_row)))
    (l__law_row : K.lookup f___law_row = some ⟨oc__law_row, od__law_row, .func (PySem.W.fnOf "_law_row" "_law_row" (defArgs s__law_row) (defBody s__law_row) (defScope s__law_row) .none kV__law_row dc__law_row pm__law_row an__law_row cd__law_row ct__law_row), sl__law_row⟩)
    (c__law_row : PySem.W.codeIn K cd__law_row "_law_row" = true)
    (k__law_row : PySem.W.keepIn K (.ref f___law_row) = true)
    (a__law_program : PySem.W.nsIn K mainGlobals "_law_program" = some (some (.ref f___law_program)))
    (l__law_program : K.lookup f___law_program = some ⟨oc__law_program, od__law_program, .func (PySem.W.fnOf "_law_program" "_law_program" (defArgs s__law_program) (defBody s__law_program) (defScope s__law_program) .none kV__law_program dc__law_program pm__law_program an__law_program cd__law_program ct__law_program), sl__law_program⟩)
    (c__law_program : PySem.W.codeIn K cd__law_program "_law_program" = true)
    (k__law_program : PySem.W.keepIn K (.ref f___law_program) = true)
    (a__law_spoilt : PySem.W.nsIn K mainGlobals "_law_spoilt" = some (some (.ref f___law_spoilt)))
    (l__law_spoilt : K.lookup f___law_spoilt = some ⟨oc__law_spoilt, od__law_spoilt, .func (PySem.W.fnOf "_law_spoilt" "_law_spoilt" (defArgs s__law_spoilt) (defBody s__law_spoilt) (defScope s__law_spoilt) .none kV__law_spoilt dc__law_spoilt pm__law_spoilt an__law_spoilt cd__law_spoilt ct__law_spoilt), sl__law_spoilt⟩)
    (c__law_spoilt : PySem.W.codeIn K cd__law_spoilt "_law_spoilt" = true)
    (k__law_spoilt : PySem.W.keepIn K (.ref f___law_spoilt) = true)
    (a__law_number : PySem.W.nsIn K mainGlobals "_law_number" = some (some (.ref f___law_number)))
    (l__law_number : K.lookup f___law_number = some ⟨oc__law_number, od__law_number, .func (PySem.W.fnOf "_law_number" "_law_number" (defArgs s__law_number) (defBody s__law_number) (defScope s__law_number) .none kV__law_number dc__law_number pm__law_number an__law_number cd__law_number ct__law_number), sl__law_number⟩)
    (c__law_number : PySem.W.codeIn K cd__law_number "_law_number" = true)
    (k__law_number : PySem.W.keepIn K (.ref f___law_number) = true)
    (a__law_line : PySem.W.nsIn K mainGlobals "_law_line" = some (some (.ref f___law_line)))
    (l__law_line : K.lookup f___law_line = some ⟨oc__law_line, od__law_line, .func (PySem.W.fnOf "_law_line" "_law_line" (defArgs s__law_line) (defBody s__law_line) (defScope s__law_line) .none kV__law_line dc__law_line pm__law_line an__law_line cd__law_line ct__law_line), sl__law_line⟩)
    (c__law_line : PySem.W.codeIn K cd__law_line "_law_line" = true)
    (k__law_line : PySem.W.keepIn K (.ref f___law_line) = true)
    (a__law_read : PySem.W.nsIn K mainGlobals "_law_read" = some (some (.ref f___law_read)))
    (l__law_read : K.lookup f___law_read = some ⟨oc__law_read, od__law_read, .func (PySem.W.fnOf "_law_read" "_law_read" (defArgs s__law_read) (defBody s__law_read) (defScope s__law_read) .none kV__law_read dc__law_read pm__law_read an__law_read (.ref cc__law_read) ct__law_read), sl__law_read⟩)
    (c__law_read : PySem.W.codeIn K (.ref cc__law_read) "_law_read" = true)
    (k__law_read : PySem.W.keepIn K (.ref f___law_read) = true)
    (lc__law_read : K.lookup cc__law_read = some ⟨.type "code", odc__law_read, .fields vsc__law_read, slc__law_read⟩)
    (pc__law_read : vsc__law_read[11]? = some (.ref t__law_read))
    (hd__law_read : PySem.W.codeHdIn K cc__law_read t__law_read = true)
    (nk__law_read : K.lookup t__law_read = none)
    (ht__law_read : h.get? t__law_read = some { cls := .none, data := .fields #[] })
    (a__law_alike : PySem.W.nsIn K mainGlobals "_law_alike" = some (some (.ref f___law_alike)))
    (l__law_alike : K.lookup f___law_alike = some ⟨oc__law_alike, od__law_alike, .func (PySem.W.fnOf "_law_alike" "_law_alike" (defArgs s__law_alike) (defBody s__law_alike) (defScope s__law_alike) .none kV__law_alike dc__law_alike pm__law_alike an__law_alike cd__law_alike ct__law_alike), sl__law_alike⟩)
    (c__law_alike : PySem.W.codeIn K cd__law_alike "_law_alike" = true)
    (k__law_alike : PySem.W.keepIn K (.ref f___law_alike) = true)
    (a_number_of : PySem.W.nsIn K mainGlobals "number_of" = some (some (.ref f__number_of)))
    (l_number_of : K.lookup f__number_of = some ⟨oc_number_of, od_number_of, .func (PySem.W.fnOf "number_of" "number_of" (defArgs s_number_of) (defBody s_number_of) (defScope s_number_of) .none kV_number_of dc_number_of pm_number_of an_number_of cd_number_of ct_number_of), sl_number_of⟩)
    (c_number_of : PySem.W.codeIn K cd_number_of "number_of" = true)
    (k_number_of : PySem.W.keepIn K (.ref f__number_of) = true)
    (a_row_of : PySem.W.nsIn K mainGlobals "row_of" = some (some (.ref f__row_of)))
    (l_row_of : K.lookup f__row_of = some ⟨oc_row_of, od_row_of, .func (PySem.W.fnOf "row_of" "row_of" (defArgs s_row_of) (defBody s_row_of) (defScope s_row_of) .none kV_row_of dc_row_of pm_row_of an_row_of cd_row_of ct_row_of), sl_row_of⟩)
    (c_row_of : PySem.W.codeIn K cd_row_of "row_of" = true)
    (k_row_of : PySem.W.keepIn K (.ref f__row_of) = true)
    (a_read : PySem.W.nsIn K mainGlobals "read" = some (some (.ref f__read)))
    (l_read : K.lookup f__read = some ⟨oc_read, od_read, .func (PySem.W.fnOf "read" "read" (defArgs s_read) (defBody s_read) (defScope s_read) .none kV_read dc_read pm_read an_read cd_read ct_read), sl_read⟩)
    (c_read : PySem.W.codeIn K cd_read "read" = true)
    (k_read : PySem.W.keepIn K (.ref f__read) = true)
    (a_law : PySem.W.nsIn K mainGlobals "law" = some (some (.ref f__law)))
    (l_law : K.lookup f__law = some ⟨oc_law, od_law, .func (PySem.W.fnOf "law" "law" (defArgs s_law) (defBody s_law) (defScope s_law) .none kV_law dc_law pm_law an_law (.ref cc_law) ct_law), sl_law⟩)
    (c_law : PySem.W.codeIn K (.ref cc_law) "law" = true)
    (k_law : PySem.W.keepIn K (.ref f__law) = true)
    (lc_law : K.lookup cc_law = some ⟨.type "code", odc_law, .fields vsc_law, slc_law⟩)
    (pc_law : vsc_law[11]? = some (.ref t_law))
    (hd_law : PySem.W.codeHdIn K cc_law t_law = true)
    (nk_law : K.lookup t_law = none)
    (ht_law : h.get? t_law = some { cls := .none, data := .fields #[] })
    (tne : t__law_read ≠ t_law)
    : ∃ (fd : FuncData) (cA tA cB tB : Addr), tA ≠ tB ∧ h.get? tA = some { cls := .none, data := .fields #[] } ∧ h.get? tB = some { cls := .none, data := .fields #[] } ∧ K.lookup tA = none ∧ K.lookup tB = none ∧ PySem.W.CodeHd h cA tA ∧ PySem.W.CodeHd h cB tB ∧ mg ((nm0 tA tB).cls 20) = none ∧ mg ((nm0 tA tB).cls 21) = none ∧ (∀ (s : Shared) (v : Value), BindsTo s fd ⟨[v], []⟩ [("_law_script", v)]) ∧ ∀ base : Heap, K.In base → base.Ns mainGlobals mg → LamX.TabB base mg cA tA → LamX.TabB base mg cB tB → FnOk l.prog w K mg base CX0 14 fa fd ["_law_script"] (spF (nm0 tA tB) K mg 1 f_law_v19) := by
  have e := hfa.symm.trans (PySem.W.mg_of X G a_law)
  cases e
  obtain ⟨fd__law_begun, F__law_begun, m__law_begun, kp__law_begun, bd__law_begun⟩ := at_mk (st := s__law_begun) (ps := ["_law_script"]) X G a__law_begun l__law_begun c__law_begun k__law_begun (fun _ _ _ _ _ _ us hl => match us, hl with | [_], _ => rfl)
  obtain ⟨fd_is_number, F_is_number, m_is_number, kp_is_number, bd_is_number⟩ := at_mk (st := s_is_number) (ps := ["part", "low", "high"]) X G a_is_number l_is_number c_is_number k_is_number (fun _ _ _ _ _ _ us hl => match us, hl with | [_, _, _], _ => rfl)
  obtain ⟨fd_is_row, F_is_row, m_is_row, kp_is_row, bd_is_row⟩ := at_mk (st := s_is_row) (ps := ["row", "names", "many"]) X G a_is_row l_is_row c_is_row k_is_row (fun _ _ _ _ _ _ us hl => match us, hl with | [_, _, _], _ => rfl)
  obtain ⟨fd_need_program, F_need_program, m_need_program, kp_need_program, bd_need_program⟩ := at_mk (st := s_need_program) (ps := ["program"]) X G a_need_program l_need_program c_need_program k_need_program (fun _ _ _ _ _ _ us hl => match us, hl with | [_], _ => rfl)
  obtain ⟨fd_written, F_written, m_written, kp_written, bd_written⟩ := at_mk (st := s_written) (ps := ["program"]) X G a_written l_written c_written k_written (fun _ _ _ _ _ _ us hl => match us, hl with | [_], _ => rfl)
  obtain ⟨fd__law_take, F__law_take, m__law_take, kp__law_take, bd__law_take⟩ := at_mk (st := s__law_take) (ps := ["_law_box", "_law_many"]) X G a__law_take l__law_take c__law_take k__law_take (fun _ _ _ _ _ _ us hl => match us, hl with | [_, _], _ => rfl)
  obtain ⟨fd__law_row, F__law_row, m__law_row, kp__law_row, bd__law_row⟩ := at_mk (st := s__law_row) (ps := ["_law_box", "_law_names", "_law_many", "_law_at"]) X G a__law_row l__law_row c__law_row k__law_row (fun _ _ _ _ _ _ us hl => match us, hl with | [_, _, _, _], _ => rfl)
  obtain ⟨fd__law_program, F__law_program, m__law_program, kp__law_program, bd__law_program⟩ := at_mk (st := s__law_program) (ps := ["_law_box", "_law_most"]) X G a__law_program l__law_program c__law_program k__law_program (fun _ _ _ _ _ _ us hl => match us, hl with | [_, _], _ => rfl)
  obtain ⟨fd__law_spoilt, F__law_spoilt, m__law_spoilt, kp__law_spoilt, bd__law_spoilt⟩ := at_mk (st := s__law_spoilt) (ps := ["_law_box", "_law_text"]) X G a__law_spoilt l__law_spoilt c__law_spoilt k__law_spoilt (fun _ _ _ _ _ _ us hl => match us, hl with | [_, _], _ => rfl)
  obtain ⟨fd__law_number, F__law_number, m__law_number, kp__law_number, bd__law_number⟩ := at_mk (st := s__law_number) (ps := ["_law_word"]) X G a__law_number l__law_number c__law_number k__law_number (fun _ _ _ _ _ _ us hl => match us, hl with | [_], _ => rfl)
  obtain ⟨fd__law_line, F__law_line, m__law_line, kp__law_line, bd__law_line⟩ := at_mk (st := s__law_line) (ps := ["_law_line_here"]) X G a__law_line l__law_line c__law_line k__law_line (fun _ _ _ _ _ _ us hl => match us, hl with | [_], _ => rfl)
  obtain ⟨fd__law_alike, F__law_alike, m__law_alike, kp__law_alike, bd__law_alike⟩ := at_mk (st := s__law_alike) (ps := ["_law_found", "_law_due"]) X G a__law_alike l__law_alike c__law_alike k__law_alike (fun _ _ _ _ _ _ us hl => match us, hl with | [_, _], _ => rfl)
  obtain ⟨fd_number_of, F_number_of, m_number_of, kp_number_of, bd_number_of⟩ := at_mk (st := s_number_of) (ps := ["word"]) X G a_number_of l_number_of c_number_of k_number_of (fun _ _ _ _ _ _ us hl => match us, hl with | [_], _ => rfl)
  obtain ⟨fd_row_of, F_row_of, m_row_of, kp_row_of, bd_row_of⟩ := at_mk (st := s_row_of) (ps := ["line"]) X G a_row_of l_row_of c_row_of k_row_of (fun _ _ _ _ _ _ us hl => match us, hl with | [_], _ => rfl)
  obtain ⟨fd_read, F_read, m_read, kp_read, bd_read⟩ := at_mk (st := s_read) (ps := ["text"]) X G a_read l_read c_read k_read (fun _ _ _ _ _ _ us hl => match us, hl with | [_], _ => rfl)
  refine ⟨PySem.W.fnOf "law" "law" (defArgs s_law) (defBody s_law) (defScope s_law) .none kV_law dc_law pm_law an_law (.ref cc_law) ct_law, cc__law_read, t__law_read, cc_law, t_law, tne, ht__law_read, ht_law, nk__law_read, nk_law, PySem.W.codeHd_of_K X hd__law_read, PySem.W.codeHd_of_K X hd_law, PySem.W.mg_none_of X G nl__law_read, PySem.W.mg_none_of X G nl_law, fun s v => .of_eq rfl, fun base _ _ TB0 TB1 => ?_⟩
  have cov : ∀ c ∈ (nm0 t__law_read t_law).tabs, ∃ n, (n, c) ∈ [(1, 20), (2, 21)] := fun c hc => by
    rcases List.mem_cons.mp hc with h | h
    · subst h; exact ⟨1, by simp⟩
    · rcases List.mem_cons.mp h with h | h
      · subst h; exact ⟨2, by simp⟩
      · cases h
  have nol : ∀ p ∈ [(1, 20), (2, 21)], mg ((nm0 t__law_read t_law).cls p.2) = none := fun p hp => by
    rcases List.mem_cons.mp hp with h | h
    · subst h; exact PySem.W.mg_none_of X G nl__law_read
    · rcases List.mem_cons.mp h with h | h
      · subst h; exact PySem.W.mg_none_of X G nl_law
      · cases h
  have T : Txt l.prog base w K mg ⟨c9_BadChoice, c9_BadCount, c9_BadFrame, c9_BadGiven, c9_BadPaper, c9_BadProgram, c9_BadText, c9_NoRoom, c9_TooMany⟩ c9_BoxError gT t__law_read t_law cc__law_read cc_law := ⟨PySem.W.mg_none_of X G b_bool, PySem.W.mg_none_of X G b_enumerate, PySem.W.mg_none_of X G b_int, PySem.W.mg_none_of X G b_isinstance, PySem.W.mg_none_of X G b_len, PySem.W.mg_none_of X G b_list, PySem.W.mg_none_of X G b_min, PySem.W.mg_none_of X G b_range, PySem.W.mg_none_of X G b_str, PySem.W.mg_none_of X G b_tuple, glS_mk X G kz_0123456789 c_FIGURES, glI_mk X G c_MOST_FIGURES, glI_mk X G c_MOST_NAMES, glI_mk X G c_MOST_ROWS, glS_mk X G kz_names c_NAMES, glS_mk X G kz_params c_PARAMS, glI_mk X G c_RING, glD_mk X G c_SHAPES l_SHAPES lo_SHAPES kl_SHAPES te_SHAPES, ⟨rfl, c9_BadProgram, fi_BadProgram, _, ox_BadProgram, ai_BadProgram, ti_BadProgram, i_BadProgram___init__ (fun_mk li_BadProgram ci_BadProgram ki_BadProgram) ox_BadProgram (PySem.W.mg_of X G a9_BoxError) rB sB vB no_BadProgram, (fun_mk li_BadProgram ci_BadProgram ki_BadProgram).binds (fun _ _ _ _ _ _ us hl => match us, hl with | [_, _], _ => rfl), PySem.W.mg_of X G a9_BadProgram⟩, ⟨rfl, c9_BadText, fi_BadText, _, ox_BadText, ai_BadText, ti_BadText, i_BadText___init__ (fun_mk li_BadText ci_BadText ki_BadText) ox_BadText (PySem.W.mg_of X G a9_BoxError) rB sB vB no_BadText, (fun_mk li_BadText ci_BadText ki_BadText).binds (fun _ _ _ _ _ _ us hl => match us, hl with | [_, _], _ => rfl), PySem.W.mg_of X G a9_BadText⟩, ⟨cov, nol, PySem.W.mg_none_of X G b_isinstance, PySem.W.mg_none_of X G b_ValueError, PySem.W.mg_of X G a9_BadChoice, PySem.W.mg_of X G a9_BadCount, PySem.W.mg_of X G a9_BadFrame, PySem.W.mg_of X G a9_BadGiven, PySem.W.mg_of X G a9_BadPaper, PySem.W.mg_of X G a9_BadProgram, PySem.W.mg_of X G a9_BadText, PySem.W.mg_of X G a9_NoRoom, PySem.W.mg_of X G a9_TooMany, PySem.W.mg_of X G a9_BoxError, ninesB_ok n9 (PySem.W.mg_of X G a9_BadChoice) (PySem.W.mg_of X G a9_BadCount) (PySem.W.mg_of X G a9_BadFrame) (PySem.W.mg_of X G a9_BadGiven) (PySem.W.mg_of X G a9_BadPaper) (PySem.W.mg_of X G a9_BadProgram) (PySem.W.mg_of X G a9_BadText) (PySem.W.mg_of X G a9_NoRoom) (PySem.W.mg_of X G a9_TooMany), PySem.W.mg_of X G a_T, k_T, ⟨_, _, _, _, _, _, _, _, _, _, l_T, c_T, (fun_mk l_T c_T k_T).binds (fun _ _ _ _ _ _ us hl => match us, hl with | [_], _ => rfl)⟩⟩, TB0, TB1, tne⟩
  have C__law_begun : Cal (nm0 t__law_read t_law) l.prog w K mg base 1 "_law_begun" ["_law_script"] f__law_begun := ⟨_, fd__law_begun, d__law_begun T F__law_begun, m__law_begun, kp__law_begun, bd__law_begun⟩
  have C_is_number : Cal (nm0 t__law_read t_law) l.prog w K mg base 1 "is_number" ["part", "low", "high"] f_is_number := ⟨_, fd_is_number, d_is_number T F_is_number, m_is_number, kp_is_number, bd_is_number⟩
  have C_is_row : Cal (nm0 t__law_read t_law) l.prog w K mg base 2 "is_row" ["row", "names", "many"] f_is_row := ⟨_, fd_is_row, d_is_row T C_is_number F_is_row, m_is_row, kp_is_row, bd_is_row⟩
  have C_need_program : CalX (nm0 t__law_read t_law) l.prog w K mg base 3 "need_program" ["program"] f_need_program := ⟨_, fd_need_program, d_need_program T C_is_number C_is_row F_need_program, m_need_program, kp_need_program, bd_need_program⟩
  have C_written : CalX (nm0 t__law_read t_law) l.prog w K mg base 4 "written" ["program"] f_written := ⟨_, fd_written, d_written T C_need_program F_written, m_written, kp_written, bd_written⟩
  have C__law_take : Cal (nm0 t__law_read t_law) l.prog w K mg base 1 "_law_take" ["_law_box", "_law_many"] f__law_take := ⟨_, fd__law_take, d__law_take T F__law_take, m__law_take, kp__law_take, bd__law_take⟩
  have C__law_row : Cal (nm0 t__law_read t_law) l.prog w K mg base 2 "_law_row" ["_law_box", "_law_names", "_law_many", "_law_at"] f__law_row := ⟨_, fd__law_row, d__law_row T C__law_take F__law_row, m__law_row, kp__law_row, bd__law_row⟩
  have C__law_program : Cal (nm0 t__law_read t_law) l.prog w K mg base 3 "_law_program" ["_law_box", "_law_most"] f__law_program := ⟨_, fd__law_program, d__law_program T C__law_take C__law_row F__law_program, m__law_program, kp__law_program, bd__law_program⟩
  have C__law_spoilt : Cal (nm0 t__law_read t_law) l.prog w K mg base 2 "_law_spoilt" ["_law_box", "_law_text"] f__law_spoilt := ⟨_, fd__law_spoilt, d__law_spoilt T C__law_take F__law_spoilt, m__law_spoilt, kp__law_spoilt, bd__law_spoilt⟩
  have C__law_number : Cal (nm0 t__law_read t_law) l.prog w K mg base 1 "_law_number" ["_law_word"] f__law_number := ⟨_, fd__law_number, d__law_number T F__law_number, m__law_number, kp__law_number, bd__law_number⟩
  have C__law_line : Cal (nm0 t__law_read t_law) l.prog w K mg base 2 "_law_line" ["_law_line_here"] f__law_line := ⟨_, fd__law_line, d__law_line T C__law_number F__law_line, m__law_line, kp__law_line, bd__law_line⟩
  have C__law_read : Cal (nm0 t__law_read t_law) l.prog w K mg base 7 "_law_read" ["_law_text"] f__law_read := ⟨_, _, d__law_read T C__law_number C__law_line C_written l__law_read c__law_read, PySem.W.mg_of X G a__law_read, k__law_read, (fun_mk l__law_read c__law_read k__law_read).binds (fun _ _ _ _ _ _ us hl => match us, hl with | [_], _ => rfl)⟩
  have C__law_alike : ∀ j, Cal (nm0 t__law_read t_law) l.prog w K mg base (1 + j) "_law_alike" ["_law_found", "_law_due"] (f__law_alike j) := fun j => by
    induction j with
    | zero => exact ⟨_, fd__law_alike, fn_bad, m__law_alike, kp__law_alike, bd__law_alike⟩
    | succ j ih =>
      have z := d__law_alike (k := j) T ih F__law_alike
      exact ⟨_, fd__law_alike, (by omega : 2 + j = 1 + (j + 1)) ▸ z, m__law_alike, kp__law_alike, bd__law_alike⟩
  have C__law_alike := C__law_alike 12
  have C_number_of : Cal (nm0 t__law_read t_law) l.prog w K mg base 1 "number_of" ["word"] f_number_of := ⟨_, fd_number_of, d_number_of T F_number_of, m_number_of, kp_number_of, bd_number_of⟩
  have C_row_of : Cal (nm0 t__law_read t_law) l.prog w K mg base 2 "row_of" ["line"] f_row_of := ⟨_, fd_row_of, d_row_of T C_number_of F_row_of, m_row_of, kp_row_of, bd_row_of⟩
  have C_read : CalX (nm0 t__law_read t_law) l.prog w K mg base 4 "read" ["text"] f_read := ⟨_, fd_read, d_read T C_number_of C_row_of C_need_program F_read, m_read, kp_read, bd_read⟩
  exact d_law T C__law_begun C_written C__law_program C__law_take C__law_spoilt C__law_read C__law_alike C_read l_law c_law
end Gk22
open PySem PySem.W PyProof.Rows
set_option maxRecDepth 100003 in
set_option maxHeartbeats 0 in
theorem PySem.Challenge.cw_boxwitness_k22_texts_of_no_programs_holds : PySem.Challenge.rw_boxwitness_k22_texts_of_no_programs.Holds := by
  w_on; o_law; k_head; (case hw => w_witness2)
  k_fill
  refine PF.walk_pfT (l := PySem.Challenge.rw_boxwitness_k22_texts_of_no_programs) (k := 14) (nmT := Gk22.nm0) (f := PG.f_law_v19) (x := "_law_script") (n := 63) rfl (by decide) rfl ⟨rfl, by decide, by decide⟩ (fun _ _ _ => ⟨rfl, rfl, rfl⟩) (fun w h Y => PySem.W.km_in_of Y) (fun w => by kernel_rfl) ?F Gk22.law_holds
  case F =>
    intro w mg fa h Y KX G hmg
    refine' Gk22.all_mk KX G hmg ?b_ValueError ?b_bool ?b_enumerate ?b_int ?b_isinstance ?b_len ?b_list ?b_min ?b_range ?b_str ?b_tuple ?a9_BadChoice ?a9_BadCount ?a9_BadFrame ?a9_BadGiven ?a9_BadPaper ?a9_BadProgram ?a9_BadText ?a9_NoRoom ?a9_TooMany ?a9_BoxError ?n9 ?nl__law_read ?nl_law ?c_FIGURES ?c_MOST_FIGURES ?c_MOST_NAMES ?c_MOST_ROWS ?c_NAMES ?c_PARAMS ?c_RING ?c_SHAPES ?l_SHAPES ?lo_SHAPES ?kl_SHAPES ?te_SHAPES ?ai_BadProgram ?ti_BadProgram ?li_BadProgram ?ci_BadProgram ?ki_BadProgram ?ox_BadProgram ?no_BadProgram ?ai_BadText ?ti_BadText ?li_BadText ?ci_BadText ?ki_BadText ?ox_BadText ?no_BadText ?rB ?sB ?vB ?a_T ?l_T ?c_T ?k_T ?a__law_begun ?l__law_begun ?c__law_begun ?k__law_begun ?a_is_number ?l_is_number ?c_is_number ?k_is_number ?a_is_row ?l_is_row ?c_is_row ?k_is_row ?a_need_program ?l_need_program ?c_need_program ?k_need_program ?a_written ?l_written ?c_written ?k_written ?a__law_take ?l__law_take ?c__law_take ?k__law_take ?a__law_row ?l__law_row ?c__law_row ?k__law_row ?a__law_program ?l__law_program ?c__law_program ?k__law_program ?a__law_spoilt ?l__law_spoilt ?c__law_spoilt ?k__law_spoilt ?a__law_number ?l__law_number ?c__law_number ?k__law_number ?a__law_line ?l__law_line ?c__law_line ?k__law_line ?a__law_read ?l__law_read ?c__law_read ?k__law_read ?lc__law_read ?pc__law_read ?hd__law_read ?nk__law_read ?ht__law_read ?a__law_alike ?l__law_alike ?c__law_alike ?k__law_alike ?a_number_of ?l_number_of ?c_number_of ?k_number_of ?a_row_of ?l_row_of ?c_row_of ?k_row_of ?a_read ?l_read ?c_read ?k_read ?a_law ?l_law ?c_law ?k_law ?lc_law ?pc_law ?hd_law ?nk_law ?ht_law ?tne
    (case b_ValueError => k_is)
    (case b_bool => k_is)
    (case b_enumerate => k_is)
    (case b_int => k_is)
    (case b_isinstance => k_is)
    (case b_len => k_is)
    (case b_list => k_is)
    (case b_min => k_is)
    (case b_range => k_is)
    (case b_str => k_is)
    (case b_tuple => k_is)
    (case a9_BadChoice => k_is)
    (case a9_BadCount => k_is)
    (case a9_BadFrame => k_is)
    (case a9_BadGiven => k_is)
    (case a9_BadPaper => k_is)
    (case a9_BadProgram => k_is)
    (case a9_BadText => k_is)
    (case a9_NoRoom => k_is)
    (case a9_TooMany => k_is)
    (case a9_BoxError => k_is)
    (case n9 => kernel_rfl)
    (case nl__law_read => k_is)
    (case nl_law => k_is)
    (case c_FIGURES => k_is)
    (case c_MOST_FIGURES => k_is)
    (case c_MOST_NAMES => k_is)
    (case c_MOST_ROWS => k_is)
    (case c_NAMES => k_is)
    (case c_PARAMS => k_is)
    (case c_RING => k_is)
    (case c_SHAPES => k_is)
    (case l_SHAPES => k_is)
    (case lo_SHAPES => rfl)
    (case kl_SHAPES => repeat (first | exact trivial | refine ⟨⟨_, _, rfl, rfl⟩, ?_⟩))
    (case te_SHAPES => repeat (first | rfl | refine ⟨_, _, _, _, _, _, rfl, rfl, rfl, rfl, ?_⟩))
    (case ai_BadProgram => k_is)
    (case ti_BadProgram => k_is)
    (case li_BadProgram => k_is)
    (case ci_BadProgram => k_is)
    (case ki_BadProgram => k_is)
    (case ox_BadProgram => refine ⟨⟨_, _, _, _, _, _, _, _, _, _, _, _, _, _, _, rfl, by decide⟩, ?_, ?_, ?_, ?_⟩ <;> k_is)
    (case no_BadProgram => k_is)
    (case ai_BadText => k_is)
    (case ti_BadText => k_is)
    (case li_BadText => k_is)
    (case ci_BadText => k_is)
    (case ki_BadText => k_is)
    (case ox_BadText => refine ⟨⟨_, _, _, _, _, _, _, _, _, _, _, _, _, _, _, rfl, by decide⟩, ?_, ?_, ?_, ?_⟩ <;> k_is)
    (case no_BadText => k_is)
    (case rB => k_is)
    (case sB => k_is)
    (case vB => k_is)
    (case a_T => k_is)
    (case l_T => k_is)
    (case c_T => k_is)
    (case k_T => k_is)
    (case a__law_begun => k_is)
    (case l__law_begun => k_is)
    (case c__law_begun => k_is)
    (case k__law_begun => k_is)
    (case a_is_number => k_is)
    (case l_is_number => k_is)
    (case c_is_number => k_is)
    (case k_is_number => k_is)
    (case a_is_row => k_is)
    (case l_is_row => k_is)
    (case c_is_row => k_is)
    (case k_is_row => k_is)
    (case a_need_program => k_is)
    (case l_need_program => k_is)
    (case c_need_program => k_is)
    (case k_need_program => k_is)
    (case a_written => k_is)
    (case l_written => k_is)
    (case c_written => k_is)
    (case k_written => k_is)
    (case a__law_take => k_is)
    (case l__law_take => k_is)
    (case c__law_take => k_is)
    (case k__law_take => k_is)
    (case a__law_row => k_is)
    (case l__law_row => k_is)
    (case c__law_row => k_is)
    (case k__law_row => k_is)
    (case a__law_program => k_is)
    (case l__law_program => k_is)
    (case c__law_program => k_is)
    (case k__law_program => k_is)
    (case a__law_spoilt => k_is)
    (case l__law_spoilt => k_is)
    (case c__law_spoilt => k_is)
    (case k__law_spoilt => k_is)
    (case a__law_number => k_is)
    (case l__law_number => k_is)
    (case c__law_number => k_is)
    (case k__law_number => k_is)
    (case a__law_line => k_is)
    (case l__law_line => k_is)
    (case c__law_line => k_is)
    (case k__law_line => k_is)
    (case a__law_read => k_is)
    (case l__law_read => k_is)
    (case c__law_read => k_is)
    (case k__law_read => k_is)
    (case lc__law_read => k_is)
    (case pc__law_read => rfl)
    (case hd__law_read => kernel_rfl)
    (case nk__law_read => kernel_rfl)
    (case ht__law_read => exact PySem.W.km_tabs_of Y _ (by decide))
    (case a__law_alike => k_is)
    (case l__law_alike => k_is)
    (case c__law_alike => k_is)
    (case k__law_alike => k_is)
    (case a_number_of => k_is)
    (case l_number_of => k_is)
    (case c_number_of => k_is)
    (case k_number_of => k_is)
    (case a_row_of => k_is)
    (case l_row_of => k_is)
    (case c_row_of => k_is)
    (case k_row_of => k_is)
    (case a_read => k_is)
    (case l_read => k_is)
    (case c_read => k_is)
    (case k_read => k_is)
    (case a_law => k_is)
    (case l_law => k_is)
    (case c_law => k_is)
    (case k_law => k_is)
    (case lc_law => k_is)
    (case pc_law => rfl)
    (case hd_law => kernel_rfl)
    (case nk_law => kernel_rfl)
    (case ht_law => exact PySem.W.km_tabs_of Y _ (by decide))
    (case tne => decide)
end
