import PyProof.Rows.All
import Wide.All
import OpenK.AllK
import Wide.FinOn
import HandS.ForMost
import KE.KDictKeyed
import KE.KDictDisplayH
import HandS.TupAny
import HandS.TupMul
import HandS.Deep
import HandS.IsInst
import HandS.SortInts
import HandS.SortRule
import KE.GoesEnum
import HandS.More
import HandS.Style
import HandS.Conv
import HandS.SetFor
import HandS.Strs
import HandS.TupSets
import HandS.Codes
import KE.IntTextLaws
import KE.DataEq
import HandS.RaiseMore
import HandS.HeadEnd
import PySem.Challenge.RW_boxwitness_k14_whole_made_is_let_by
section
set_option linter.all false
set_option autoImplicit false
namespace PF
/-- values: tuples are trees; what can change is named by its place in the store -/
inductive D where
  | non
  | bl (b : Bool)
  | int (i : Int)
  | str (s : List Nat)
  | tup (ds : List D)
  | ref (n : Nat)
  deriving Inhabited
mutual
def D.decEq : (a b : D) → Decidable (a = b)
  | .non, .non => .isTrue rfl
  | .bl a, .bl b => if h : a = b then .isTrue (h ▸ rfl) else .isFalse (fun e => by cases e; exact h rfl)
  | .int a, .int b => if h : a = b then .isTrue (h ▸ rfl) else .isFalse (fun e => by cases e; exact h rfl)
  | .str a, .str b => if h : a = b then .isTrue (h ▸ rfl) else .isFalse (fun e => by cases e; exact h rfl)
  | .ref a, .ref b => if h : a = b then .isTrue (h ▸ rfl) else .isFalse (fun e => by cases e; exact h rfl)
  | .tup a, .tup b => match D.decEqs a b with
    | .isTrue h => .isTrue (h ▸ rfl)
    | .isFalse h => .isFalse (fun e => by cases e; exact h rfl)
  | .non, .bl _ | .non, .int _ | .non, .str _ | .non, .tup _ | .non, .ref _ => .isFalse (fun e => nomatch e)
  | .bl _, .non | .bl _, .int _ | .bl _, .str _ | .bl _, .tup _ | .bl _, .ref _ => .isFalse (fun e => nomatch e)
  | .int _, .non | .int _, .bl _ | .int _, .str _ | .int _, .tup _ | .int _, .ref _ => .isFalse (fun e => nomatch e)
  | .str _, .non | .str _, .bl _ | .str _, .int _ | .str _, .tup _ | .str _, .ref _ => .isFalse (fun e => nomatch e)
  | .tup _, .non | .tup _, .bl _ | .tup _, .int _ | .tup _, .str _ | .tup _, .ref _ => .isFalse (fun e => nomatch e)
  | .ref _, .non | .ref _, .bl _ | .ref _, .int _ | .ref _, .str _ | .ref _, .tup _ => .isFalse (fun e => nomatch e)
def D.decEqs : (a b : List D) → Decidable (a = b)
  | [], [] => .isTrue rfl
  | [], _ :: _ => .isFalse (fun e => nomatch e)
  | _ :: _, [] => .isFalse (fun e => nomatch e)
  | x :: xs, y :: ys => match D.decEq x y with
    | .isFalse h => .isFalse (fun e => by cases e; exact h rfl)
    | .isTrue h => match D.decEqs xs ys with
      | .isFalse h' => .isFalse (fun e => by cases e; exact h' rfl)
      | .isTrue h' => .isTrue (h ▸ h' ▸ rfl)
end
instance : DecidableEq D := D.decEq
/-- what can change: lists (rol: the script, read alone), dicts (keys numbers and texts; dit: tuples; rod: read alone from here on), instances -/
inductive MO where
  | lst (ds : List D)
  | rol (ds : List D)
  | dic (kvs : List (D × D))
  | dit (kvs : List (D × D))
  | rod (kvs : List (D × D))
  | ins (c : Nat) (fs : List (Nat × D))
  deriving DecidableEq, Inhabited
abbrev Sto := List MO
/-- the largest length of a list, a dict, a text -/
def LIM : Nat := 16777216
/-- an error on its way: its class, its row -/
structure Exc where
  c : Nat
  row : Option D
inductive Out (α : Type) where
  | ok (a : α) (S : Sto)
  | err (e : Exc) (S : Sto)
  | bad
abbrev M (α : Type) := Sto → Out α
def Out.bind {α β : Type} : Out α → (α → M β) → Out β
  | .ok a S, k => k a S
  | .err e S, _ => .err e S
  | .bad, _ => .bad
@[simp] theorem bind_ok {α β : Type} (a : α) (S : Sto) (k : α → M β) : (Out.ok a S).bind k = k a S := rfl
abbrev Env := List (Option D)
abbrev E := Env → M D
abbrev T := Env → M Bool
abbrev A := Env → M (List D)
inductive Fl where
  | nx | bk | ct | rt (d : D)
abbrev St := Env → M (Fl × Env)
abbrev Fn := List D → M D
/-- a new object -/
def alloc (o : MO) : M D := fun S => .ok (.ref S.length) (S ++ [o])
/-- the items of a list -/
def lstOf (n : Nat) (S : Sto) : Option (List D) :=
  match S[n]? with
  | some (.lst ds) => some ds
  | some (.rol ds) => some ds
  | _ => none
/-- the items of a list or a tuple -/
def seqOf (d : D) (S : Sto) : Option (List D) :=
  match d with
  | .tup ds => some ds
  | .ref n => lstOf n S
  | _ => none
def b2i (b : Bool) : Int := if b then 1 else 0
/-- a value as a tree, its lists told -/
inductive J where
  | non | bl (b : Bool) | int (i : Int) | str (s : List Nat) | tup (js : List J) | lst (js : List J)
  deriving Inhabited
def allSome {α β : Type} (f : α → Option β) : List α → Option (List β)
  | [] => some []
  | x :: xs => match f x with
    | none => none
    | some y => match allSome f xs with
      | none => none
      | some ys => some (y :: ys)
def tree (S : Sto) : Nat → D → Option J
  | _, .non => some .non
  | _, .bl b => some (.bl b)
  | _, .int i => some (.int i)
  | _, .str s => if s.all (fun c => decide (c < 1114112)) then some (.str s) else none
  | 0, _ => none
  | n + 1, .tup ds => match allSome (tree S n) ds with
    | some js => some (.tup js)
    | none => none
  | n + 1, .ref i => match lstOf i S with
    | some ds => match allSome (tree S n) ds with
      | some js => some (.lst js)
      | none => none
    | none => none
mutual
def J.eqv : J → J → Bool
  | .non, .non => true
  | .bl x, .bl y => x == y
  | .int x, .int y => x == y
  | .bl x, .int y => b2i x == y
  | .int x, .bl y => x == b2i y
  | .str x, .str y => x == y
  | .tup xs, .tup ys => J.eqvs xs ys
  | .lst xs, .lst ys => J.eqvs xs ys
  | .non, .bl _ | .non, .int _ | .non, .str _ | .non, .tup _ | .non, .lst _ => false
  | .bl _, .non | .bl _, .str _ | .bl _, .tup _ | .bl _, .lst _ => false
  | .int _, .non | .int _, .str _ | .int _, .tup _ | .int _, .lst _ => false
  | .str _, .non | .str _, .bl _ | .str _, .int _ | .str _, .tup _ | .str _, .lst _ => false
  | .tup _, .non | .tup _, .bl _ | .tup _, .int _ | .tup _, .str _ | .tup _, .lst _ => false
  | .lst _, .non | .lst _, .bl _ | .lst _, .int _ | .lst _, .str _ | .lst _, .tup _ => false
def J.eqvs : List J → List J → Bool
  | [], [] => true
  | [], _ :: _ => false
  | _ :: _, [] => false
  | x :: xs, y :: ys => J.eqv x y && J.eqvs xs ys
end
/-- the depth that == goes to -/
def EQD : Nat := 40
def eqT (S : Sto) (x y : D) : Option Bool := match tree S EQD x, tree S EQD y with
  | some a, some b => some (J.eqv a b)
  | _, _ => none
def eqF (S : Sto) : D → D → Option Bool
  | .non, .non => some true
  | .bl x, .bl y => some (x == y)
  | .int x, .int y => some (x == y)
  | .str x, .str y => some (x == y)
  | .non, .bl _ | .non, .int _ | .non, .str _ => some false
  | .bl _, .non | .bl _, .str _ => some false
  | .int _, .non | .int _, .str _ => some false
  | .str _, .non | .str _, .bl _ | .str _, .int _ => some false
  | x, y => eqT S x y
mutual
def D.deep : D → Nat
  | .tup ds => D.deeps ds + 1
  | _ => 0
def D.deeps : List D → Nat
  | [] => 0
  | d :: ds => max (D.deep d) (D.deeps ds)
end
mutual
def D.flat : D → Bool
  | .ref _ => false
  | .tup ds => D.flats ds
  | _ => true
def D.flats : List D → Bool
  | [] => true
  | d :: ds => D.flat d && D.flats ds
end
mutual
def D.plain : D → Bool
  | .ref _ => false
  | .bl _ => false
  | .tup ds => D.plains ds
  | _ => true
def D.plains : List D → Bool
  | [] => true
  | d :: ds => D.plain d && D.plains ds
end
def eVar (i : Nat) : E := fun ρ S => match ρ[i]? with
  | some (some d) => .ok d S
  | _ => .bad
def eC (d : D) : E := fun _ S => .ok d S
def e1 (g : D → M D) (a : E) : E := fun ρ S => (a ρ S).bind g
def e2 (g : D → D → M D) (a b : E) : E := fun ρ S => (a ρ S).bind fun x S => (b ρ S).bind fun y S => g x y S
def aNil : A := fun _ S => .ok [] S
def aCons (a : E) (r : A) : A := fun ρ S => (a ρ S).bind fun x S => (r ρ S).bind fun xs S => .ok (x :: xs) S
/-- (a, b, ..) -/
def eTup (a : A) : E := fun ρ S => (a ρ S).bind fun xs S => .ok (.tup xs) S
/-- [a, b, ..] -/
def eLst (a : A) : E := fun ρ S => (a ρ S).bind fun xs S => alloc (.lst xs) S
/-- a def's call, a built-in's -/
def eCall (f : Fn) (a : A) : E := fun ρ S => (a ρ S).bind fun xs S => f xs S
/-- a if t else b -/
def eIf (t : T) (a b : E) : E := fun ρ S => (t ρ S).bind fun c S => if c then a ρ S else b ρ S
/-- a test as a value, a truth as a test -/
def tE (a : E) : T := fun ρ S => (a ρ S).bind fun x S => match x with
  | .bl b => .ok b S
  | _ => .bad
def eAnd (a b : E) : E := fun ρ S => (a ρ S).bind fun x S => match x with
  | .bl true => b ρ S
  | .bl false => .ok (.bl false) S
  | _ => .bad
def eOr (a b : E) : E := fun ρ S => (a ρ S).bind fun x S => match x with
  | .bl true => .ok (.bl true) S
  | .bl false => b ρ S
  | _ => .bad
def eNot (a : E) : E := fun ρ S => (a ρ S).bind fun x S => match x with
  | .bl b => .ok (.bl (!b)) S
  | _ => .bad
def tAnd (a b : T) : T := fun ρ S => (a ρ S).bind fun c S => if c then b ρ S else .ok false S
def tOr (a b : T) : T := fun ρ S => (a ρ S).bind fun c S => if c then .ok true S else b ρ S
def tNot (a : T) : T := fun ρ S => (a ρ S).bind fun c S => .ok (!c) S
/-- a op b op' c -/
def eChain (g g' : D → D → M D) (a b c : E) : E := fun ρ S => (a ρ S).bind fun x S => (b ρ S).bind fun y S => (g x y S).bind fun z S => match z with
  | .bl true => (c ρ S).bind fun w S => g' y w S
  | .bl false => .ok (.bl false) S
  | _ => .bad
/-- a list that can be changed -/
def wrOf (n : Nat) (S : Sto) : Option (List D) := match S[n]? with
  | some (.lst ds) => some ds
  | _ => none
def gAdd (x y : D) : M D := fun S => match x, y with
  | .int i, .int j => .ok (.int (i + j)) S
  | .str a, .str b => if a.length + b.length ≤ LIM then .ok (.str (a ++ b)) S else .bad
  | .tup a, .tup b => if a.length + b.length ≤ LIM then .ok (.tup (a ++ b)) S else .bad
  | .ref m, .ref n => match wrOf m S, wrOf n S with
    | some a, some b => if a.length + b.length ≤ LIM then alloc (.lst (a ++ b)) S else .bad
    | _, _ => .bad
  | _, _ => .bad
def gSub (x y : D) : M D := fun S => match x, y with
  | .int i, .int j => .ok (.int (i - j)) S
  | _, _ => .bad
/-- so many times -/
def rep {α : Type} (xs : List α) (k : Nat) : List α := (List.replicate k xs).flatten
def gMul (x y : D) : M D := fun S => match x, y with
  | .int i, .int j => if (-(2 ^ 64) < i ∧ i < 2 ^ 64) ∨ (-(2 ^ 64) < j ∧ j < 2 ^ 64) then .ok (.int (i * j)) S else .bad
  | .ref m, .int k => match wrOf m S with
    | some a => if -(2 ^ 62) < k ∧ k < 2 ^ 62 ∧ a.length * k.toNat ≤ LIM then alloc (.lst (rep a k.toNat)) S else .bad
    | none => .bad
  | .tup a, .int k => if a ≠ [] ∧ 2 ≤ k ∧ k ≤ 1000 ∧ a.length ≤ 1000 then .ok (.tup (rep a k.toNat)) S else .bad
  | _, _ => .bad
def gFdiv (x y : D) : M D := fun S => match x, y with
  | .int i, .int j => if 0 < j ∧ j < 1073741824 then .ok (.int (i / j)) S else .bad
  | _, _ => .bad
def gMod (x y : D) : M D := fun S => match x, y with
  | .int i, .int j => if 0 < j then .ok (.int (i % j)) S else .bad
  | _, _ => .bad
def gNeg (x : D) : M D := fun S => match x with
  | .int i => .ok (.int (-i)) S
  | _ => .bad
def gEq (x y : D) : M D := fun S => match eqF S x y with
  | some b => .ok (.bl b) S
  | none => .bad
def gNe (x y : D) : M D := fun S => match eqF S x y with
  | some b => .ok (.bl (!b)) S
  | none => .bad
def gCmp (p : Int → Int → Bool) (x y : D) : M D := fun S => match x, y with
  | .int i, .int j => .ok (.bl (p i j)) S
  | _, _ => .bad
def gLt : D → D → M D := gCmp fun i j => decide (i < j)
def gLe : D → D → M D := gCmp fun i j => decide (i ≤ j)
def gGt : D → D → M D := gCmp fun i j => decide (j < i)
def gGe : D → D → M D := gCmp fun i j => decide (j ≤ i)
/-- is None, is True -/
def gIsN (x : D) : M D := fun S => .ok (.bl (decide (x = .non))) S
def gNotN (x : D) : M D := fun S => .ok (.bl (!decide (x = .non))) S
def keyOk : D → Bool
  | .int _ => true
  | .str _ => true
  | _ => false
def dget (kvs : List (D × D)) (k : D) : Option D := (kvs.find? fun p => decide (p.1 = k)).map (·.2)
/-- in its place, or at the end -/
def dput (kvs : List (D × D)) (k v : D) : List (D × D) :=
  if (kvs.any fun p => decide (p.1 = k)) = true then kvs.map (fun p => if p.1 = k then (p.1, v) else p) else kvs ++ [(k, v)]
/-- numbers, texts, truths, None -/
def D.scal : D → Bool
  | .tup _ => false
  | .ref _ => false
  | _ => true
def inTree (S : Sto) (x : D) (ds : List D) : Option Bool := match tree S EQD x, allSome (tree S EQD) ds with
  | some j, some js => some (js.any fun z => J.eqv z j)
  | _, _ => none
def inB (x y : D) (S : Sto) : Option Bool := match y with
  | .tup ds => if x.scal && ds.all D.scal then inTree S x ds else none
  | .str s => match x with
    | .str [c] => some (s.contains c)
    | _ => none
  | .ref n => match lstOf n S with
    | some ds => inTree S x ds
    | none => none
  | _ => none
def gIn (x y : D) : M D := fun S => match inB x y S with
  | some b => .ok (.bl b) S
  | none => .bad
def gNotIn (x y : D) : M D := fun S => match inB x y S with
  | some b => .ok (.bl (!b)) S
  | none => .bad
/-- a dict's -/
def dicOf (n : Nat) (S : Sto) : Option (List (D × D)) := match S[n]? with
  | some (.dic kvs) => some kvs
  | _ => none
/-- the place of an index, from the end where it is negative -/
def ixN (n : Nat) (i : Int) : Option Nat := if 0 ≤ i then (if i < n then some i.toNat else none) else if -(n : Int) ≤ i then some (i + n).toNat else none
def at? {α : Type} (xs : List α) (i : Int) : Option α := (ixN xs.length i).bind fun j => xs[j]?
def gIx (x y : D) : M D := fun S => match x, y with
  | .tup ds, .int i => match at? ds i with
    | some d => .ok d S
    | none => .bad
  | .str s, .int i => if s.length ≤ LIM then match at? s i with
    | some c => .ok (.str [c]) S
    | none => .bad
    else .bad
  | .ref n, .int i => match lstOf n S with
    | some ds => match at? ds i with
      | some d => .ok d S
      | none => .bad
    | none => .bad
  | _, _ => .bad
/-- d[k] -/
def gDx (x k : D) : M D := fun S => match x with
  | .ref n => match dicOf n S with
    | some kvs => if keyOk k then match dget kvs k with
        | some d => .ok d S
        | none => .bad
      else .bad
    | none => .bad
  | _ => .bad
/-- where a slice's end lies, within -/
def sIx (n d : Nat) : Option Int → Nat
  | none => d
  | some i => if i < 0 then (i + (n : Int)).toNat else min i.toNat n
def cut {α : Type} (xs : List α) (lo hi : Option Int) : List α := (xs.drop (sIx xs.length 0 lo)).take (sIx xs.length xs.length hi - sIx xs.length 0 lo)
abbrev O := Env → M (Option Int)
def oNone : O := fun _ S => .ok none S
def oSome (a : E) : O := fun ρ S => (a ρ S).bind fun x S => match x with
  | .int i => .ok (some i) S
  | _ => .bad
def gSlice (x : D) (lo hi : Option Int) : M D := fun S => match x with
  | .tup ds => .ok (.tup (cut ds lo hi)) S
  | .str s => if s.length ≤ LIM then .ok (.str (cut s lo hi)) S else .bad
  | .ref n => match lstOf n S with
    | some ds => alloc (.lst (cut ds lo hi)) S
    | none => .bad
  | _ => .bad
def eSlice (a : E) (lo hi : O) : E := fun ρ S => (a ρ S).bind fun x S => (lo ρ S).bind fun i S => (hi ρ S).bind fun j S => gSlice x i j S
def fLen : Fn := fun xs S => match xs with
  | [.tup ds] => .ok (.int ds.length) S
  | [.str s] => if s.length ≤ LIM then .ok (.int s.length) S else .bad
  | [.ref n] => match lstOf n S with
    | some ds => .ok (.int ds.length) S
    | none => .bad
  | _ => .bad
def fInt : Fn := fun xs S => match xs with
  | [.int i] => .ok (.int i) S
  | [.bl b] => .ok (.int (b2i b)) S
  | _ => .bad
def fMin : Fn := fun xs S => match xs with
  | [.int i, .int j] => .ok (.int (if j < i then j else i)) S
  | _ => .bad
def fMax : Fn := fun xs S => match xs with
  | [.int i, .int j] => .ok (.int (if j > i then j else i)) S
  | _ => .bad
def fList : Fn := fun xs S => match xs with
  | [d] => match seqOf d S with
    | some ds => alloc (.lst ds) S
    | none => .bad
  | _ => .bad
def fTuple : Fn := fun xs S => match xs with
  | [d] => match seqOf d S with
    | some ds => .ok (.tup ds) S
    | none => .bad
  | _ => .bad
inductive Kind where
  | tup | int | bool | str | lst
  deriving DecidableEq
def isK (k : Kind) (x : D) (S : Sto) : Option Bool := match x with
  | .non => some false
  | .bl _ => some (k == .bool || k == .int)
  | .int _ => some (k == .int)
  | .str _ => some (k == .str)
  | .tup _ => some (k == .tup)
  | .ref n => match lstOf n S with
    | some _ => some (k == .lst)
    | none => none
def gIs (k : Kind) (x : D) : M D := fun S => match isK k x S with
  | some b => .ok (.bl b) S
  | none => .bad
def intsOf : List D → Option (List Int)
  | [] => some []
  | .int i :: r => (intsOf r).map (i :: ·)
  | _ => none
/-- sorted by a strict order (the first of equal ones first) -/
def ins {α : Type} (lt : α → α → Bool) (x : α) : List α → List α
  | [] => [x]
  | y :: ys => if lt y x then y :: ins lt x ys else x :: y :: ys
def sortBy {α : Type} (lt : α → α → Bool) : List α → List α
  | [] => []
  | x :: xs => ins lt x (sortBy lt xs)
def sortI : List Int → List Int := sortBy fun a b => decide (a < b)
/-- sorted(x), x a list of numbers -/
def fSortedI : Fn := fun xs S => match xs with
  | [.ref n] => match lstOf n S with
    | some ds => match intsOf ds with
      | some is => alloc (.lst ((sortI is).map .int)) S
      | none => .bad
    | none => .bad
  | _ => .bad
/-- each once -/
def dedup {α : Type} [DecidableEq α] : List α → List α
  | [] => []
  | x :: xs => x :: (dedup xs).filter fun y => decide (y ≠ x)
/-- sorted(set(x)) of numbers; len(set(x)) -/
def fSortedSet : Fn := fun xs S => match xs with
  | [.tup ds] => match intsOf ds with
    | some is => if is.length < 64 then alloc (.lst ((sortI (dedup is)).map .int)) S else .bad
    | none => .bad
  | _ => .bad
def tupK (d : D) : Bool := (match d with
  | .tup _ => true
  | _ => false) && d.plain && decide (d.deep ≤ 8)
mutual
def D.dry : D → Bool
  | .str _ => false
  | .tup ds => D.drys ds
  | _ => true
def D.drys : List D → Bool
  | [] => true
  | d :: ds => D.dry d && D.drys ds
end
/-- a tuple of numbers and such tuples -/
def keyT (d : D) : Bool := tupK d && d.dry
def fLenSet : Fn := fun xs S => match xs with
  | [.tup ds] => if ds.length < 64 ∧ ds.all tupK = true then .ok (.int (dedup ds).length) S else .bad
  | _ => .bad
/-- the items, and the lists in which they stand, where these may change -/
structure Iter where
  chk : List (Nat × List D)
  all : List D
abbrev I := Env → M Iter
/-- the lists are as they were -/
def Iter.same (it : Iter) (S : Sto) : Bool := it.chk.all fun p => decide (lstOf p.1 S = some p.2)
/-- where a thing to be walked stands -/
def chkOf (d : D) (S : Sto) : List (Nat × List D) := match d with
  | .ref n => match lstOf n S with
    | some ds => [(n, ds)]
    | none => []
  | _ => []
/-- a list, a tuple -/
def iSeq (a : E) : I := fun ρ S => (a ρ S).bind fun x S => match seqOf x S with
  | some ds => .ok ⟨chkOf x S, ds⟩ S
  | none => .bad
def rangeD (lo hi : Int) : List D := (List.range (hi - lo).toNat).map fun (k : Nat) => .int (lo + (k : Int))
def iRange1 (a : E) : I := fun ρ S => (a ρ S).bind fun x S => match x with
  | .int j => if -(2 ^ 62) ≤ j ∧ j < 2 ^ 62 then .ok ⟨[], rangeD 0 j⟩ S else .bad
  | _ => .bad
def iRange2 (a b : E) : I := fun ρ S => (a ρ S).bind fun x S => (b ρ S).bind fun y S => match x, y with
  | .int i, .int j => if -(2 ^ 62) ≤ i ∧ i < 2 ^ 62 ∧ -(2 ^ 62) ≤ j ∧ j < 2 ^ 62 then .ok ⟨[], rangeD i j⟩ S else .bad
  | _, _ => .bad
def enumD (k : Nat) : List D → List D
  | [] => []
  | d :: ds => .tup [.int (k : Int), d] :: enumD (k + 1) ds
def charsD (s : List Nat) : List D := s.map fun c => .str [c]
/-- a list, a tuple, a text -/
def seqZ (d : D) (S : Sto) : Option (List D) := match d with
  | .str s => some (charsD s)
  | _ => seqOf d S
def iEnum (a : E) : I := fun ρ S => (a ρ S).bind fun x S => match seqZ x S with
  | some ds => .ok ⟨chkOf x S, enumD 0 ds⟩ S
  | none => .bad
def zipD : List D → List D → List D
  | x :: xs, y :: ys => .tup [x, y] :: zipD xs ys
  | _, _ => []
def iZip (a b : E) : I := fun ρ S => (a ρ S).bind fun x S => (b ρ S).bind fun y S => match seqZ x S, seqZ y S with
  | some xs, some ys => .ok ⟨chkOf x S ++ chkOf y S, zipD xs ys⟩ S
  | _, _ => .bad
def eTRg (i : I) : E := fun ρ S => (i ρ S).bind fun it S => if it.all.length ≤ LIM then .ok (.tup it.all) S else .bad
abbrev G := D → Env → Option Env
def gName (i : Nat) : G := fun d ρ => some (ρ.set i (some d))
def setAll : List Nat → List D → Env → Option Env
  | [], [], ρ => some ρ
  | i :: is, d :: ds, ρ => setAll is ds (ρ.set i (some d))
  | _, _, _ => none
def gTup (is : List Nat) : G := fun d ρ => match d with
  | .tup ds => setAll is ds ρ
  | _ => none
def wipe (ρ : Env) : List Nat → Env
  | [] => ρ
  | v :: vs => (wipe ρ vs).set v none
def compLoop (it : Iter) (g : G) (t : T) (e : E) (ρ : Env) : List D → M (List D)
  | [] => fun S => if it.same S then .ok [] S else .bad
  | x :: xs => fun S => if it.same S then match g x ρ with
    | none => .bad
    | some ρ1 => (t ρ1 S).bind fun b S => if b then (e ρ1 S).bind fun y S => (compLoop it g t e ρ xs S).bind fun ys S => .ok (y :: ys) S else compLoop it g t e ρ xs S
    else .bad
def eComp (i : I) (vs : List Nat) (g : G) (t : T) (e : E) : E := fun ρ S => (i ρ S).bind fun it S => (compLoop it g t e (wipe ρ vs) it.all S).bind fun ys S =>
  if ys.length ≤ LIM then alloc (.lst ys) S else .bad
def tYes : T := fun _ S => .ok true S
def sNext : St := fun ρ S => .ok (.nx, ρ) S
def sSeq (a b : St) : St := fun ρ S => (a ρ S).bind fun r S => match r.1 with
  | .nx => b r.2 S
  | f => .ok (f, r.2) S
def sSet (i : Nat) (a : E) : St := fun ρ S => (a ρ S).bind fun x S => .ok (.nx, ρ.set i (some x)) S
/-- a target of names = e -/
def sAsg (g : G) (a : E) : St := fun ρ S => (a ρ S).bind fun x S => match g x ρ with
  | some ρ1 => .ok (.nx, ρ1) S
  | none => .bad
/-- a, b = x, y by names -/
def sPar (is : List Nat) (a : A) : St := fun ρ S => (a ρ S).bind fun xs S => match setAll is xs ρ with
  | some ρ1 => .ok (.nx, ρ1) S
  | none => .bad
def sExpr (a : E) : St := fun ρ S => (a ρ S).bind fun _ S => .ok (.nx, ρ) S
def sRet (a : E) : St := fun ρ S => (a ρ S).bind fun x S => .ok (.rt x, ρ) S
def sIf (t : T) (a b : St) : St := fun ρ S => (t ρ S).bind fun c S => if c then a ρ S else b ρ S
def sBreak : St := fun ρ S => .ok (.bk, ρ) S
def sCont : St := fun ρ S => .ok (.ct, ρ) S
def sRaise (c : Nat) (a : A) : St := fun ρ S => (a ρ S).bind fun xs S => .err ⟨c, xs.head?⟩ S
def forLoop (it : Iter) (g : G) (b : St) : List D → St
  | [] => fun ρ S => if it.same S then .ok (.nx, ρ) S else .bad
  | x :: xs => fun ρ S => if it.same S then match g x ρ with
    | none => .bad
    | some ρ1 => (b ρ1 S).bind fun r S => match r.1 with
      | .nx => forLoop it g b xs r.2 S
      | .ct => forLoop it g b xs r.2 S
      | .bk => .ok (.nx, r.2) S
      | .rt d => .ok (.rt d, r.2) S
    else .bad
def sFor (i : I) (g : G) (b : St) : St := fun ρ S => (i ρ S).bind fun it S => forLoop it g b it.all ρ S
def whileLoop (t : T) (b : St) : Nat → St
  | 0 => fun _ _ => .bad
  | n + 1 => fun ρ S => (t ρ S).bind fun c S => if c then (b ρ S).bind fun r S => match r.1 with
      | .nx => whileLoop t b n r.2 S
      | .ct => whileLoop t b n r.2 S
      | .bk => .ok (.nx, r.2) S
      | .rt d => .ok (.rt d, r.2) S
    else .ok (.nx, ρ) S
/-- the most turns of a while -/
def TURNS : Nat := 1000000000
def sWhile (t : T) (b : St) : St := whileLoop t b TURNS
/-- o[i] = v: v first -/
def setItem (o i v : D) : Sto → Option Sto := fun S => match o, i with
  | .ref n, .int k => match wrOf n S with
    | some ds => match ixN ds.length k with
      | some j => some (S.set n (.lst (ds.set j v)))
      | none => none
    | none => none
  | _, _ => none
def sSub (o i v : E) : St := fun ρ S => (v ρ S).bind fun x S => (o ρ S).bind fun a S => (i ρ S).bind fun k S => match setItem a k x S with
  | some S1 => .ok (.nx, ρ) S1
  | none => .bad
/-- o[i], p[j] = a pair -/
def sSub2 (e o i p j : E) : St := fun ρ S => (e ρ S).bind fun x S => match x with
  | .tup [a, b] => (o ρ S).bind fun ov S => (i ρ S).bind fun k S => match setItem ov k a S with
    | some S1 => (p ρ S1).bind fun pv S => (j ρ S).bind fun l S => match setItem pv l b S with
      | some S2 => .ok (.nx, ρ) S2
      | none => .bad
    | none => .bad
  | _ => .bad
/-- d[k] = v -/
def setDct (o k v : D) : Sto → Option Sto := fun S => match o with
  | .ref n => match dicOf n S with
    | some kvs => if keyOk k ∧ kvs.length < LIM then some (S.set n (.dic (dput kvs k v))) else none
    | none => none
  | _ => none
def sDct (o i v : E) : St := fun ρ S => (v ρ S).bind fun x S => (o ρ S).bind fun a S => (i ρ S).bind fun k S => match setDct a k x S with
  | some S1 => .ok (.nx, ρ) S1
  | none => .bad
def fget (fs : List (Nat × D)) (f : Nat) : Option D := (fs.find? fun p => p.1 == f).map (·.2)
def fput : List (Nat × D) → Nat → D → List (Nat × D)
  | [], f, v => [(f, v)]
  | (a, b) :: r, f, v => if a = f then (a, v) :: r else (a, b) :: fput r f v
/-- an instance of the class c -/
def insOf (c n : Nat) (S : Sto) : Option (List (Nat × D)) := match S[n]? with
  | some (.ins c' fs) => if c' = c then some fs else none
  | _ => none
def gFld (c f : Nat) (x : D) : M D := fun S => match x with
  | .ref n => match insOf c n S with
    | some fs => match fget fs f with
      | some d => .ok d S
      | none => .bad
    | none => .bad
  | _ => .bad
def setFld (c f : Nat) (o v : D) : Sto → Option Sto := fun S => match o with
  | .ref n => match insOf c n S with
    | some fs => if fs.length < 100 then some (S.set n (.ins c (fput fs f v))) else none
    | none => none
  | _ => none
def sFld (c f : Nat) (o v : E) : St := fun ρ S => (v ρ S).bind fun x S => (o ρ S).bind fun a S => match setFld c f a x S with
  | some S1 => .ok (.nx, ρ) S1
  | none => .bad
/-- o.m(..), o of the class c -/
def eMeth (c : Nat) (f : Fn) (o : E) (a : A) : E := fun ρ S => (o ρ S).bind fun x S => match x with
  | .ref n => match insOf c n S with
    | some _ => (a ρ S).bind fun xs S => f (x :: xs) S
    | none => .bad
  | _ => .bad
/-- C(..) -/
def eMake (c : Nat) (init : Fn) (a : A) : E := fun ρ S => (a ρ S).bind fun xs S =>
  (init (.ref S.length :: xs) (S ++ [.ins c []])).bind fun r S1 => if r = .non then .ok (.ref S.length) S1 else .bad
/-- o.m(e): what o is is looked at first -/
def isL (x : D) (S : Sto) : Bool := match x with
  | .ref n => (wrOf n S).isSome
  | _ => false
def eM1 (g : D → D → M D) (o a : E) : E := fun ρ S => (o ρ S).bind fun x S => if isL x S then (a ρ S).bind fun y S => g x y S else .bad
def mAppend (x v : D) : M D := fun S => match x with
  | .ref n => match wrOf n S with
    | some ds => if ds.length < LIM then .ok .non (S.set n (.lst (ds ++ [v]))) else .bad
    | none => .bad
  | _ => .bad
/-- pop(i), 0 ≤ i -/
def mPop (x i : D) : M D := fun S => match x, i with
  | .ref n, .int k => match wrOf n S with
    | some ds => if 0 ≤ k ∧ k < 2 ^ 62 then match ds[k.toNat]? with
        | some d => .ok d (S.set n (.lst (ds.eraseIdx k.toNat)))
        | none => .bad
      else .bad
    | none => .bad
  | _, _ => .bad
/-- {k: v, ..}: keys numbers and texts -/
def evPairs : List (E × E) → Env → M (List (D × D))
  | [] => fun _ S => .ok [] S
  | (k, v) :: r => fun ρ S => (k ρ S).bind fun x S => (v ρ S).bind fun y S => if keyOk x then (evPairs r ρ S).bind fun q S => .ok ((x, y) :: q) S else .bad
def putAll (kvs : List (D × D)) : List (D × D) → List (D × D)
  | [] => kvs
  | (k, v) :: r => putAll (dput kvs k v) r
def eDict (ps : List (E × E)) : E := fun ρ S => (evPairs ps ρ S).bind fun q S => alloc (.dic (putAll [] q)) S
/-- d.get(k, v) -/
def eGet (o k v : E) : E := fun ρ S => (o ρ S).bind fun x S => match x with
  | .ref n => match dicOf n S with
    | some _ => (k ρ S).bind fun y S => (v ρ S).bind fun z S => match dicOf n S with
      | some kvs => if keyOk y then .ok ((dget kvs y).getD z) S else .bad
      | none => .bad
    | none => .bad
  | _ => .bad
def mUpdate (x y : D) : M D := fun S => match x, y with
  | .ref n, .ref m => match dicOf n S, dicOf m S with
    | some kvs, some ps => if n ≠ m ∧ kvs.length + ps.length ≤ 1000 then .ok .non (S.set n (.dic (putAll kvs ps))) else .bad
    | _, _ => .bad
  | _, _ => .bad
/-- d.update(e) -/
def eUpd (o a : E) : E := fun ρ S => (o ρ S).bind fun x S => match x with
  | .ref n => match dicOf n S with
    | some _ => (a ρ S).bind fun y S => mUpdate x y S
    | none => .bad
  | _ => .bad
/-- tables of the module: texts to constants -/
def kGet (t : List (D × D)) (k v : D) : M D := fun S => match k with
  | .str _ => .ok ((dget t k).getD v) S
  | _ => .bad
def kIx (t : List (D × D)) (k : D) : M D := fun S => match k with
  | .str _ => match dget t k with
    | some d => .ok d S
    | none => .bad
  | _ => .bad
def kIn (t : List (D × D)) (k : D) : M D := fun S => match k with
  | .str _ => .ok (.bl (dget t k).isSome) S
  | _ => .bad
def kNotIn (t : List (D × D)) (k : D) : M D := fun S => match k with
  | .str _ => .ok (.bl (!(dget t k).isSome)) S
  | _ => .bad
def fn (n : Nat) (b : St) : Fn := fun xs S => if xs.length ≤ n then (b (xs.map some ++ List.replicate (n - xs.length) none) S).bind fun r S => match r.1 with
  | .nx => .ok .non S
  | .rt d => .ok d S
  | _ => .bad
  else .bad
end PF
end
section
set_option linter.all false
set_option autoImplicit false
namespace PF
def ditOf (n : Nat) (S : Sto) : Option (List (D × D)) := match S[n]? with
  | some (.dit kvs) => some kvs
  | _ => none
/-- {k: True} -/
def eDit1 (k v : E) : E := fun ρ S => (k ρ S).bind fun x S => (v ρ S).bind fun y S => if keyT x = true ∧ y = .bl true then alloc (.dit [(x, y)]) S else .bad
def gNotInT (x y : D) : M D := fun S => match y with
  | .ref n => match ditOf n S with
    | some kvs => if keyT x = true then .ok (.bl (!(dget kvs x).isSome)) S else .bad
    | none => .bad
  | _ => .bad
/-- d[k] = True, k not there yet -/
def setDit (o k v : D) : Sto → Option Sto := fun S => match o with
  | .ref n => match ditOf n S with
    | some kvs => if keyT k = true ∧ v = .bl true ∧ kvs.length < LIM ∧ dget kvs k = none then some (S.set n (.dit (kvs ++ [(k, v)]))) else none
    | none => none
  | _ => none
def sDit (o i v : E) : St := fun ρ S => (v ρ S).bind fun x S => (o ρ S).bind fun a S => (i ρ S).bind fun k S => match setDit a k x S with
  | some S1 => .ok (.nx, ρ) S1
  | none => .bad
end PF
end
section
set_option linter.all false
set_option Elab.async false
set_option linter.all false
set_option maxRecDepth 100003
set_option maxHeartbeats 2000003
set_option autoImplicit false
namespace PF
open PySem L2
/-- names of classes, of fields -/
structure Nm where
  cls : Nat → Str
  fld : Nat → Str
  inj : ∀ a b, fld a = fld b → a = b
def strOf (s : List Nat) : Str := ⟨s.toArray⟩
mutual
def RelD (K : PySem.W.Frag) (M : List Addr) (H : Hp) : D → V → Prop
  | .non, v => v = .non
  | .bl b, v => v = .bl b
  | .int i, v => v = .int i
  | .str s, v => v = .str (strOf s)
  | .tup ds, v => ∃ a vs, v = .ref a ∧ SqT K H a vs ∧ RelDs K M H ds vs
  | .ref n, v => ∃ a, v = .ref a ∧ M[n]? = some a
def RelDs (K : PySem.W.Frag) (M : List Addr) (H : Hp) : List D → List V → Prop
  | [], vs => vs = []
  | d :: ds, vs => ∃ v r, vs = v :: r ∧ RelD K M H d v ∧ RelDs K M H ds r
end
mutual
/-- the key that a tree is -/
def keyN : D → NestedKey
  | .non => .none
  | .bl b => .num (b2i b)
  | .int i => .num i
  | .str s => .text (strOf s)
  | .tup ds => .tup (keyNs ds)
  | .ref _ => .none
def keyNs : List D → List NestedKey
  | [] => []
  | d :: ds => keyN d :: keyNs ds
end
/-- a dict whose keys are the tuples at such addresses, whose values are True -/
def DitP (a : Addr) (xs : List (Int × Addr)) (h : Heap) : Prop := ∃ o es ep, h.get? a = some o ∧ o.ExactDict ∧ o.data = .dict es ep ∧ es.toList = xs.map (fun x => (⟨x.1, .ref x.2, .bool true⟩ : DictEntry)) ∧ (a == sysModules) = false ∧ xs.length ≤ sizeLine
def DitO (a : Addr) (xs : List (Int × Addr)) : HO := .ext (DitP a xs)
def RelX (K : PySem.W.Frag) (M : List Addr) (H : Hp) : List (D × D) → List (Int × Addr) → Prop
  | [], xs => xs = []
  | p :: r, xs => ∃ h b q, xs = (h, b) :: q ∧ p.2 = .bl true ∧ keyT p.1 = true ∧ RelD K M H p.1 (.ref b) ∧ (∀ w : World, (keyN p.1).hash w = h) ∧ RelX K M H r q
def keyD : Key → D
  | .inl i => .int i
  | .inr s => .str s.cps.toList
/-- pairs in a row -/
def RelKs (K : PySem.W.Frag) (M : List Addr) (H : Hp) : List (D × D) → List (Key × V) → Prop
  | [], vs => vs = []
  | p :: r, vs => ∃ k v q, vs = (k, v) :: q ∧ p.1 = keyD k ∧ RelD K M H p.2 v ∧ RelKs K M H r q
def RelFs (nm : Nm) (K : PySem.W.Frag) (M : List Addr) (H : Hp) : List (Nat × D) → List (Str × V) → Prop
  | [], vs => vs = []
  | p :: r, vs => ∃ v q, vs = (nm.fld p.1, v) :: q ∧ RelD K M H p.2 v ∧ RelFs nm K M H r q
def RelO (nm : Nm) (K : PySem.W.Frag) (mg : Str → Option Value) (M : List Addr) (H : Hp) (a : Addr) : MO → Prop
  | .lst ds => ∃ vs, H a = some (.lst vs) ∧ RelDs K M H ds vs
  | .rol ds => ∃ o vs, H a = some (.frz o (.lst vs)) ∧ RelDs K M H ds vs
  | .dic kvs => ∃ ps, H a = some (.dK ps) ∧ RelKs K M H kvs ps
  | .dit kvs => ∃ xs, H a = some (DitO a xs) ∧ RelX K M H kvs xs ∧ (kvs.map (·.1)).Nodup
  | .rod kvs => ∃ o ps, H a = some (.frz o (.dK ps)) ∧ RelKs K M H kvs ps
  | .ins c fs => ∃ C dx gs, H a = some (.ins C dx gs) ∧ mg (nm.cls c) = some (.ref C) ∧ RelFs nm K M H fs gs
/-- what M's addresses may hold -/
def mutO : HO → Prop
  | .lst _ => True
  | .frz _ (.lst _) => True
  | .dK _ => True
  | .frz _ (.dK _) => True
  | .ext _ => True
  | .ins _ _ _ => True
  | _ => False
structure RelS (nm : Nm) (K : PySem.W.Frag) (mg : Str → Option Value) (M : List Addr) (S : Sto) (H : Hp) : Prop where
  len : M.length = S.length
  nd : M.Nodup
  obj : ∀ (n : Nat) (a : Addr) (o : MO), M[n]? = some a → S[n]? = some o → RelO nm K mg M H a o
/-- one state behind another: more places, all else as it was -/
structure Ext (M : List Addr) (H : Hp) (M' : List Addr) (H' : Hp) : Prop where
  pre : ∃ T, M' = M ++ T
  new : ∀ a, a ∈ M' → a ∉ M → H a = none
  fr : ∀ a o, H a = some o → a ∉ M → H' a = some o
  frz : ∀ a o ps, H a = some (.frz o (.dK ps)) → H' a = some (.frz o (.dK ps))
structure RelE (K : PySem.W.Frag) (M : List Addr) (H : Hp) (ρ : Env) (σ : L2.St) : Prop where
  len : ρ.length = σ.length
  at_ : ∀ (i : Nat) (d : D), ρ[i]? = some (some d) → ∃ v, σ[i]? = some (some v) ∧ RelD K M H d v
section
variable {nm : Nm} {K : PySem.W.Frag} {mg : Str → Option Value} {M M' M2 : List Addr} {H H' H2 : Hp} {S S' : Sto} {ρ : Env} {σ : L2.St}
theorem Ext.refl : Ext M H M H := ⟨⟨[], by simp⟩, fun a h n => absurd h n, fun _ _ h _ => h, fun _ _ _ h => h⟩
theorem Ext.get (e : Ext M H M' H') {n : Nat} {a : Addr} (h : M[n]? = some a) : M'[n]? = some a := by
  obtain ⟨T, rfl⟩ := e.pre
  rw [List.getElem?_append_left (List.getElem?_eq_some_iff.mp h).1]
  exact h
theorem Ext.mem (e : Ext M H M' H') {a : Addr} (h : a ∈ M) : a ∈ M' := by
  obtain ⟨T, rfl⟩ := e.pre
  exact List.mem_append_left _ h
theorem Ext.trans (a : Ext M H M' H') (b : Ext M' H' M2 H2) : Ext M H M2 H2 where
  pre := by
    obtain ⟨T, rfl⟩ := a.pre
    obtain ⟨U, rfl⟩ := b.pre
    exact ⟨T ++ U, by rw [List.append_assoc]⟩
  new := fun x h n => by
    by_cases hx : x ∈ M'
    · exact a.new x hx n
    · cases q : H x with
      | none => rfl
      | some o =>
        have h1 := b.new x h hx
        rw [a.fr x o q n] at h1
        cases h1
  fr := fun x o h n => b.fr x o (a.fr x o h n) fun hx => by
    have h1 := a.new x hx n
    rw [h] at h1
    cases h1
  frz := fun x o ps h => b.frz x o ps (a.frz x o ps h)
theorem RelS.has (r : RelS nm K mg M S H) {a : Addr} (h : a ∈ M) : ∃ o, H a = some o ∧ mutO o := by
  obtain ⟨n, hn⟩ := List.mem_iff_getElem?.mp h
  have hl : n < S.length := by rw [← r.len]; exact (List.getElem?_eq_some_iff.mp hn).1
  have q := r.obj n a S[n] hn (by simp [hl])
  cases ho : S[n] with
  | lst ds => rw [ho] at q; obtain ⟨vs, q, _⟩ := q; exact ⟨_, q, trivial⟩
  | rol ds => rw [ho] at q; obtain ⟨o, vs, q, _⟩ := q; exact ⟨_, q, trivial⟩
  | dic ds => rw [ho] at q; obtain ⟨ps, q, _⟩ := q; exact ⟨_, q, trivial⟩
  | dit ds => rw [ho] at q; obtain ⟨xs, q, _⟩ := q; exact ⟨_, q, trivial⟩
  | rod ds => rw [ho] at q; obtain ⟨o, ps, q, _⟩ := q; exact ⟨_, q, trivial⟩
  | ins c fs => rw [ho] at q; obtain ⟨C, dx, gs, q, _⟩ := q; exact ⟨_, q, trivial⟩
theorem RelS.apart (r : RelS nm K mg M S H) {a : Addr} {o : HO} (h : H a = some o) (n : ¬ mutO o) : a ∉ M := fun hm => by
  obtain ⟨o', e, m⟩ := r.has hm
  rw [h] at e
  cases e
  exact n m
theorem RelS.fresh (r : RelS nm K mg M S H) {a : Addr} (h : H a = none) : a ∉ M := fun hm => by
  obtain ⟨o', e, m⟩ := r.has hm
  rw [h] at e
  cases e
theorem SqT.ext {a : Addr} {vs : List V} (r : RelS nm K mg M S H) (e : Ext M H M' H') (h : SqT K H a vs) : SqT K H' a vs := by
  rcases h with (h | ⟨o, h⟩) | h
  · exact .inl (.inl (e.fr _ _ h (r.apart h fun q => q)))
  · exact .inl (.inr ⟨o, e.fr _ _ h (r.apart h fun q => q)⟩)
  · exact .inr h
/-- what values lean on: their places, the tuples -/
structure Mo (K : PySem.W.Frag) (M : List Addr) (H : Hp) (M' : List Addr) (H' : Hp) : Prop where
  get : ∀ (n : Nat) (a : Addr), M[n]? = some a → M'[n]? = some a
  tup : ∀ (a : Addr) (vs : List V), SqT K H a vs → SqT K H' a vs
theorem Ext.mo (r : RelS nm K mg M S H) (e : Ext M H M' H') : Mo K M H M' H' := ⟨fun _ _ h => e.get h, fun _ _ h => SqT.ext r e h⟩
mutual
theorem RelD.mo (e : Mo K M H M' H') : ∀ {d : D} {v : V}, RelD K M H d v → RelD K M' H' d v
  | .non, _, h => by unfold RelD at h ⊢; exact h
  | .bl _, _, h => by unfold RelD at h ⊢; exact h
  | .int _, _, h => by unfold RelD at h ⊢; exact h
  | .str _, _, h => by unfold RelD at h ⊢; exact h
  | .tup _, _, h => by
    unfold RelD at h ⊢
    obtain ⟨a, vs, h1, h2, h3⟩ := h
    exact ⟨a, vs, h1, e.tup _ _ h2, RelDs.mo e h3⟩
  | .ref _, _, h => by
    unfold RelD at h ⊢
    obtain ⟨a, h1, h2⟩ := h
    exact ⟨a, h1, e.get _ _ h2⟩
theorem RelDs.mo (e : Mo K M H M' H') : ∀ {ds : List D} {vs : List V}, RelDs K M H ds vs → RelDs K M' H' ds vs
  | [], _, h => by unfold RelDs at h ⊢; exact h
  | _ :: _, _, h => by
    unfold RelDs at h ⊢
    obtain ⟨v, q, h1, h2, h3⟩ := h
    exact ⟨v, q, h1, RelD.mo e h2, RelDs.mo e h3⟩
end
theorem RelKs.mo (e : Mo K M H M' H') : ∀ {ds : List (D × D)} {vs : List (Key × V)}, RelKs K M H ds vs → RelKs K M' H' ds vs
  | [], _, h => h
  | _ :: _, _, h => by
    obtain ⟨k, v, q, h1, h2, h3, h4⟩ := h
    exact ⟨k, v, q, h1, h2, RelD.mo e h3, RelKs.mo e h4⟩
theorem RelX.mo (e : Mo K M H M' H') : ∀ {ds : List (D × D)} {vs : List (Int × Addr)}, RelX K M H ds vs → RelX K M' H' ds vs
  | [], _, h => h
  | _ :: _, _, h => by
    obtain ⟨k, v, q, h1, h2, h3, h4, h5, h6⟩ := h
    exact ⟨k, v, q, h1, h2, h3, RelD.mo e h4, h5, RelX.mo e h6⟩
theorem RelFs.mo (e : Mo K M H M' H') : ∀ {ds : List (Nat × D)} {vs : List (Str × V)}, RelFs nm K M H ds vs → RelFs nm K M' H' ds vs
  | [], _, h => h
  | _ :: _, _, h => by
    obtain ⟨v, q, h1, h2, h3⟩ := h
    exact ⟨v, q, h1, RelD.mo e h2, RelFs.mo e h3⟩
theorem RelE.mo (e : Mo K M H M' H') (h : RelE K M H ρ σ) : RelE K M' H' ρ σ :=
  ⟨h.len, fun i d hi => let ⟨v, h1, h2⟩ := h.at_ i d hi; ⟨v, h1, RelD.mo e h2⟩⟩
theorem RelO.mo {a : Addr} {o : MO} (e : Mo K M H M' H') (k : H' a = H a) (h : RelO nm K mg M H a o) : RelO nm K mg M' H' a o := by
  cases o with
  | lst ds => obtain ⟨vs, h1, h2⟩ := h; exact ⟨vs, by rw [k]; exact h1, RelDs.mo e h2⟩
  | rol ds => obtain ⟨ob, vs, h1, h2⟩ := h; exact ⟨ob, vs, by rw [k]; exact h1, RelDs.mo e h2⟩
  | dic ds => obtain ⟨vs, h1, h2⟩ := h; exact ⟨vs, by rw [k]; exact h1, RelKs.mo e h2⟩
  | dit ds => obtain ⟨xs, h1, h2, h3⟩ := h; exact ⟨xs, by rw [k]; exact h1, RelX.mo e h2, h3⟩
  | rod ds => obtain ⟨ob, vs, h1, h2⟩ := h; exact ⟨ob, vs, by rw [k]; exact h1, RelKs.mo e h2⟩
  | ins c fs => obtain ⟨C, dx, gs, h1, h2, h3⟩ := h; exact ⟨C, dx, gs, by rw [k]; exact h1, h2, RelFs.mo e h3⟩
theorem RelD.ext (r : RelS nm K mg M S H) (e : Ext M H M' H') {d : D} {v : V} (h : RelD K M H d v) : RelD K M' H' d v := h.mo (e.mo r)
theorem RelDs.ext (r : RelS nm K mg M S H) (e : Ext M H M' H') {ds : List D} {vs : List V} (h : RelDs K M H ds vs) : RelDs K M' H' ds vs := h.mo (e.mo r)
theorem RelKs.ext (r : RelS nm K mg M S H) (e : Ext M H M' H') {ds : List (D × D)} {vs : List (Key × V)} (h : RelKs K M H ds vs) : RelKs K M' H' ds vs := h.mo (e.mo r)
theorem RelFs.ext (r : RelS nm K mg M S H) (e : Ext M H M' H') {ds : List (Nat × D)} {vs : List (Str × V)} (h : RelFs nm K M H ds vs) : RelFs nm K M' H' ds vs := h.mo (e.mo r)
theorem RelE.ext (r : RelS nm K mg M S H) (e : Ext M H M' H') (h : RelE K M H ρ σ) : RelE K M' H' ρ σ := h.mo (e.mo r)
theorem RelDs.length : ∀ {ds : List D} {vs : List V}, RelDs K M H ds vs → ds.length = vs.length
  | [], _, h => by unfold RelDs at h; subst h; rfl
  | _ :: _, _, h => by
    unfold RelDs at h
    obtain ⟨v, q, rfl, _, h⟩ := h
    simp [RelDs.length h]
theorem RelDs.nil : RelDs K M H [] [] := by unfold RelDs; rfl
theorem RelDs.cons {d : D} {v : V} {ds : List D} {vs : List V} (h : RelD K M H d v) (t : RelDs K M H ds vs) : RelDs K M H (d :: ds) (v :: vs) := by
  unfold RelDs
  exact ⟨v, vs, rfl, h, t⟩
theorem RelDs.get : ∀ {ds : List D} {vs : List V} {i : Nat} {d : D}, RelDs K M H ds vs → ds[i]? = some d → ∃ v, vs[i]? = some v ∧ RelD K M H d v
  | [], _, _, _, _, e => by simp at e
  | _ :: _, _, 0, _, h, e => by
    unfold RelDs at h
    obtain ⟨v, q, rfl, h1, _⟩ := h
    simp at e
    subst e
    exact ⟨v, rfl, h1⟩
  | _ :: _, _, i + 1, d, h, e => by
    unfold RelDs at h
    obtain ⟨v, q, rfl, _, h⟩ := h
    obtain ⟨u, h1, h2⟩ := RelDs.get (i := i) (d := d) h (by simpa using e)
    exact ⟨u, by simpa using h1, h2⟩
theorem RelDs.append : ∀ {ds es : List D} {vs us : List V}, RelDs K M H ds vs → RelDs K M H es us → RelDs K M H (ds ++ es) (vs ++ us)
  | [], _, _, _, h, t => by unfold RelDs at h; subst h; exact t
  | _ :: _, _, _, _, h, t => by
    unfold RelDs at h
    obtain ⟨v, q, rfl, h1, h⟩ := h
    exact .cons h1 (RelDs.append h t)
theorem RelDs.set : ∀ {ds : List D} {vs : List V} {d : D} {v : V} (i : Nat), RelDs K M H ds vs → RelD K M H d v → RelDs K M H (ds.set i d) (vs.set i v)
  | [], _, _, _, _, h, _ => by unfold RelDs at h; subst h; exact .nil
  | _ :: _, _, _, _, 0, h, r => by
    unfold RelDs at h
    obtain ⟨v, q, rfl, h1, h⟩ := h
    exact .cons r h
  | _ :: _, _, _, _, i + 1, h, r => by
    unfold RelDs at h
    obtain ⟨v, q, rfl, h1, h⟩ := h
    exact .cons h1 (RelDs.set i h r)
theorem RelDs.take : ∀ {ds : List D} {vs : List V} (n : Nat), RelDs K M H ds vs → RelDs K M H (ds.take n) (vs.take n)
  | [], _, n, h => by unfold RelDs at h; subst h; simp [RelDs.nil]
  | _ :: _, _, 0, h => by simp [RelDs.nil]
  | _ :: _, _, n + 1, h => by
    unfold RelDs at h
    obtain ⟨v, q, rfl, h1, h⟩ := h
    exact .cons h1 (RelDs.take n h)
theorem RelDs.drop : ∀ {ds : List D} {vs : List V} (n : Nat), RelDs K M H ds vs → RelDs K M H (ds.drop n) (vs.drop n)
  | [], _, n, h => by unfold RelDs at h; subst h; simp [RelDs.nil]
  | _ :: _, _, 0, h => h
  | _ :: _, _, n + 1, h => by
    unfold RelDs at h
    obtain ⟨v, q, rfl, h1, h⟩ := h
    exact RelDs.drop n h
theorem RelDs.eraseIdx : ∀ {ds : List D} {vs : List V} (n : Nat), RelDs K M H ds vs → RelDs K M H (ds.eraseIdx n) (vs.eraseIdx n)
  | [], _, n, h => by unfold RelDs at h; subst h; simp [RelDs.nil]
  | _ :: _, _, 0, h => by
    unfold RelDs at h
    obtain ⟨v, q, rfl, h1, h⟩ := h
    exact h
  | _ :: _, _, n + 1, h => by
    unfold RelDs at h
    obtain ⟨v, q, rfl, h1, h⟩ := h
    exact .cons h1 (RelDs.eraseIdx n h)
/-- a list is to be read -/
theorem RelS.lst (r : RelS nm K mg M S H) {n : Nat} {a : Addr} {ds : List D} (hn : M[n]? = some a) (h : lstOf n S = some ds) : ∃ vs, SqL K H a vs ∧ RelDs K M H ds vs := by
  unfold lstOf at h
  cases q : S[n]? with
  | none => rw [q] at h; cases h
  | some o =>
    rw [q] at h
    have z := r.obj n a o hn q
    cases o with
    | lst xs => cases h; obtain ⟨vs, h1, h2⟩ := z; exact ⟨vs, .inl (.inl h1), h2⟩
    | rol xs => cases h; obtain ⟨ob, vs, h1, h2⟩ := z; exact ⟨vs, .inl (.inr ⟨ob, h1⟩), h2⟩
    | dic _ => cases h
    | dit _ => cases h
    | rod _ => cases h
    | ins _ _ => cases h
theorem RelS.at_ (r : RelS nm K mg M S H) {n : Nat} {o : MO} (h : S[n]? = some o) : ∃ a, M[n]? = some a := by
  have hl : n < M.length := by rw [r.len]; exact (List.getElem?_eq_some_iff.mp h).1
  exact ⟨M[n], by simp [hl]⟩
theorem Ext.push {a : Addr} {o : HO} (h : H a = none) : Ext M H (M ++ [a]) (upd H a o) where
  pre := ⟨[a], rfl⟩
  new := fun x hx n => by
    rcases List.mem_append.mp hx with z | z
    · exact absurd z n
    · have : x = a := by simpa using z
      rw [this]
      exact h
  fr := fun x o e _ => by
    rw [upd_ne (ne_of_none e h)]
    exact e
  frz := fun x o ps e => by
    rw [upd_ne (ne_of_none e h)]
    exact e
theorem Ext.tup {a : Addr} {o : HO} (h : H a = none) : Ext M H M (upd H a o) where
  pre := ⟨[], by simp⟩
  new := fun x hx n => absurd hx n
  fr := fun x o e _ => by
    rw [upd_ne (ne_of_none e h)]
    exact e
  frz := fun x o ps e => by
    rw [upd_ne (ne_of_none e h)]
    exact e
theorem RelO.ext {a : Addr} {o : MO} (r : RelS nm K mg M S H) (e : Ext M H M' H') (k : H' a = H a) (h : RelO nm K mg M H a o) : RelO nm K mg M' H' a o := h.mo (e.mo r) k
/-- a new tuple, another new thing that is not named -/
theorem RelS.tup {a : Addr} {o : HO} (r : RelS nm K mg M S H) (h : H a = none) : RelS nm K mg M S (upd H a o) :=
  ⟨r.len, r.nd, fun n b ob h1 h2 => (r.obj n b ob h1 h2).ext r (Ext.tup h) (upd_ne fun e => r.fresh h (by rw [← e]; exact List.mem_of_getElem? h1))⟩
theorem RelS.push {a : Addr} {o : HO} {mo : MO} (r : RelS nm K mg M S H) (h : H a = none) (ho : RelO nm K mg (M ++ [a]) (upd H a o) a mo) : RelS nm K mg (M ++ [a]) (S ++ [mo]) (upd H a o) := by
  refine ⟨by simp [r.len], ?_, fun n b ob h1 h2 => ?_⟩
  · refine List.nodup_append.mpr ⟨r.nd, by simp, fun x hx y hy e => ?_⟩
    have : y = a := by simpa using hy
    subst this
    subst e
    exact r.fresh h hx
  · by_cases hn : n < M.length
    · rw [List.getElem?_append_left hn] at h1
      rw [List.getElem?_append_left (by rw [← r.len]; exact hn)] at h2
      exact (r.obj n b ob h1 h2).ext r (Ext.push h) (upd_ne fun e => r.fresh h (by rw [← e]; exact List.mem_of_getElem? h1))
    · have hn1 : n < (M ++ [a]).length := (List.getElem?_eq_some_iff.mp h1).1
      rw [List.length_append, List.length_singleton] at hn1
      have e : n = M.length := by omega
      subst e
      rw [List.getElem?_append_right (Nat.le_refl _), Nat.sub_self] at h1
      rw [r.len, List.getElem?_append_right (Nat.le_refl _), Nat.sub_self] at h2
      cases h1
      cases h2
      exact ho
/-- an object that is there already gets a place, as it then is -/
theorem Mo.adopt {a : Addr} {o o' : HO} (h : H a = some o') (n : ∀ vs, o' ≠ .tup vs) (n2 : ∀ b u, o' ≠ .frz b u) : Mo K M H (M ++ [a]) (upd H a o) := by
  refine ⟨fun m b hb => ?_, fun b vs hb => ?_⟩
  · rw [List.getElem?_append_left (List.getElem?_eq_some_iff.mp hb).1]
    exact hb
  · rcases hb with (hb | ⟨ob, hb⟩) | hb
    · exact .inl (.inl (by rw [upd_ne (ne_of hb h (fun z => n vs z.symm))]; exact hb))
    · exact .inl (.inr ⟨ob, by rw [upd_ne (ne_of hb h (fun z => n2 ob (.tup vs) z.symm))]; exact hb⟩)
    · exact .inr hb
theorem RelS.adopt {a : Addr} {o o' : HO} {mo : MO} (r : RelS nm K mg M S H) (na : a ∉ M) (h : H a = some o') (n : ∀ vs, o' ≠ .tup vs) (n2 : ∀ b u, o' ≠ .frz b u) (ho : RelO nm K mg (M ++ [a]) (upd H a o) a mo) : RelS nm K mg (M ++ [a]) (S ++ [mo]) (upd H a o) := by
  refine ⟨by simp [r.len], ?_, fun m b ob h1 h2 => ?_⟩
  · refine List.nodup_append.mpr ⟨r.nd, by simp, fun x hx y hy e => ?_⟩
    have : y = a := by simpa using hy
    subst this
    subst e
    exact na hx
  · by_cases hn : m < M.length
    · rw [List.getElem?_append_left hn] at h1
      rw [List.getElem?_append_left (by rw [← r.len]; exact hn)] at h2
      exact (r.obj m b ob h1 h2).mo (Mo.adopt h n n2) (upd_ne fun e => na (by rw [← e]; exact List.mem_of_getElem? h1))
    · have hn1 : m < (M ++ [a]).length := (List.getElem?_eq_some_iff.mp h1).1
      rw [List.length_append, List.length_singleton] at hn1
      have e : m = M.length := by omega
      subst e
      rw [List.getElem?_append_right (Nat.le_refl _), Nat.sub_self] at h1
      rw [r.len, List.getElem?_append_right (Nat.le_refl _), Nat.sub_self] at h2
      cases h1
      cases h2
      exact ho
/-- .. seen from where it was new -/
theorem Ext.adopt {M1 : List Addr} {H1 : Hp} {a : Addr} {o o0 : HO} (h0 : H a = none) (e : Ext M (upd H a o0) M1 H1) (na : a ∉ M) : Ext M H (M1 ++ [a]) (upd H1 a o) := by
  have e0 : Ext M H M1 H1 := (Ext.tup h0).trans e
  refine ⟨?_, fun x hx n => ?_, fun x u hx n => ?_, fun x u ps hx => ?_⟩
  · obtain ⟨T, rfl⟩ := e.pre
    exact ⟨T ++ [a], by rw [List.append_assoc]⟩
  · rcases List.mem_append.mp hx with z | z
    · exact e0.new x z n
    · have : x = a := by simpa using z
      rw [this]
      exact h0
  · have nx : x ≠ a := fun z => by rw [z, h0] at hx; cases hx
    rw [upd_ne nx]
    exact e0.fr x u hx n
  · have nx : x ≠ a := fun z => by rw [z, h0] at hx; cases hx
    rw [upd_ne nx]
    exact e0.frz x u ps hx
theorem Ext.kept {M1 : List Addr} {H1 : Hp} {a : Addr} {o0 : HO} (e : Ext M (upd H a o0) M1 H1) (na : a ∉ M) : H1 a = some o0 ∧ a ∉ M1 := ⟨e.fr a _ upd_same na, fun hm => by
  have z := e.new a hm na
  rw [upd_same] at z
  cases z⟩
theorem RelS.last (r : RelS nm K mg M S H) {a : Addr} : (M ++ [a])[S.length]? = some a := by
  rw [← r.len, List.getElem?_append_right (Nat.le_refl _), Nat.sub_self]
  rfl
/-- an object is changed -/
theorem Ext.set {a : Addr} {o o0 : HO} (h : a ∈ M) (h0 : H a = some o0) (hf : ∀ u ps, o0 ≠ .frz u (.dK ps)) : Ext M H M (upd H a o) where
  pre := ⟨[], by simp⟩
  new := fun x hx n => absurd hx n
  fr := fun x o e n => by
    rw [upd_ne (fun z => n (by rw [z]; exact h))]
    exact e
  frz := fun x u ps e => by
    rw [upd_ne (fun z => by rw [z, h0] at e; cases e; exact hf u ps rfl)]
    exact e
theorem RelS.set {n : Nat} {a : Addr} {o o0 : HO} {mo : MO} (r : RelS nm K mg M S H) (hn : M[n]? = some a) (h0 : H a = some o0) (hf : ∀ u ps, o0 ≠ .frz u (.dK ps)) (ho : RelO nm K mg M (upd H a o) a mo) : RelS nm K mg M (S.set n mo) (upd H a o) := by
  refine ⟨by simp [r.len], r.nd, fun m b ob h1 h2 => ?_⟩
  by_cases e : m = n
  · subst e
    rw [hn] at h1
    cases h1
    rw [List.getElem?_set_self (by rw [← r.len]; exact (List.getElem?_eq_some_iff.mp hn).1)] at h2
    cases h2
    exact ho
  · rw [List.getElem?_set_ne (Ne.symm e)] at h2
    refine (r.obj m b ob h1 h2).ext r (Ext.set (List.mem_of_getElem? hn) h0 hf) (upd_ne fun z => e ?_)
    subst z
    exact nd_ix r.nd h1 hn
end
end PF
end
section
set_option linter.all false
set_option Elab.async false
set_option linter.all false
set_option maxRecDepth 100003
set_option maxHeartbeats 2000003
set_option autoImplicit false
namespace PF
open PySem L2
theorem bind_inv {α β : Type} {o : Out α} {k : α → M β} {b : β} {S' : Sto} (h : o.bind k = .ok b S') : ∃ a S1, o = .ok a S1 ∧ k a S1 = .ok b S' := by
  cases o with
  | ok a S => exact ⟨a, S, rfl, h⟩
  | err e S => cases h
  | bad => cases h
section
variable (nm : Nm) (X : Cx)
/-- what follows of a value -/
def KD (M : List Addr) (H : Hp) (S' : Sto) (d : D) (Q : VK) : Prop := ∀ M' H' v, Ext M H M' H' → RelS nm X.K X.mg M' S' H' → RelD X.K M' H' d v → Q v H'
def rE (f : E) : TE := fun σ H Q => ∃ M ρ S d S', RelS nm X.K X.mg M S H ∧ RelE X.K M H ρ σ ∧ f ρ S = .ok d S' ∧ KD nm X M H S' d Q
def rT (f : T) : TT := fun σ H Q => ∃ M ρ S b S', RelS nm X.K X.mg M S H ∧ RelE X.K M H ρ σ ∧ f ρ S = .ok b S' ∧ ∀ M' H', Ext M H M' H' → RelS nm X.K X.mg M' S' H' → Q b H'
def rA (f : A) : TA := fun σ H Q => ∃ M ρ S ds S', RelS nm X.K X.mg M S H ∧ RelE X.K M H ρ σ ∧ f ρ S = .ok ds S' ∧ ∀ M' H' vs, Ext M H M' H' → RelS nm X.K X.mg M' S' H' → RelDs X.K M' H' ds vs → Q vs H'
def rO (f : O) : TO := fun σ H Q => ∃ M ρ S o S', RelS nm X.K X.mg M S H ∧ RelE X.K M H ρ σ ∧ f ρ S = .ok o S' ∧ ∀ M' H', Ext M H M' H' → RelS nm X.K X.mg M' S' H' → Q o H'
/-- what follows a statement -/
def KS (M : List Addr) (H : Hp) (S' : Sto) (r : Fl × Env) (D : Ends) : Prop := ∀ M' H' σ', Ext M H M' H' → RelS nm X.K X.mg M' S' H' → RelE X.K M' H' r.2 σ' →
  match r.1 with
  | .nx => D.nx σ' H'
  | .bk => D.bk σ' H'
  | .ct => D.ct σ' H'
  | .rt d => ∀ v, RelD X.K M' H' d v → D.rt v H'
def rS (f : St) : TS := fun D σ H => ∃ M ρ S r S', RelS nm X.K X.mg M S H ∧ RelE X.K M H ρ σ ∧ f ρ S = .ok r S' ∧ KS nm X M H S' r D
abbrev PX (e : Expr) (f : E) : Prop := PE X e (rE nm X f)
abbrev PXT (e : Expr) (f : T) : Prop := PT X e (rT nm X f)
abbrev PXW (e : Expr) (f : T) : Prop := PW X e (rT nm X f)
abbrev PXA (es : List Expr) (f : A) : Prop := PA X es (rA nm X f)
abbrev PXO (e : Option Expr) (f : O) : Prop := PO X e (rO nm X f)
abbrev PXS (s : Stmt) (f : St) : Prop := PS X s (rS nm X f)
abbrev PXSs (s : List Stmt) (f : St) : Prop := PSs X s (rS nm X f)
/-- a two-place operation on values by the layer's reading r, by PF's g -/
def Op2 (r : R2) (g : D → D → M D) : Prop := ∀ (M : List Addr) (S : Sto) (H : Hp) (x y : D) (vx vy : V) (d : D) (S' : Sto) (Q : VK), RelS nm X.K X.mg M S H → RelD X.K M H x vx → RelD X.K M H y vy → g x y S = .ok d S' → KD nm X M H S' d Q → r vx vy H Q
def OpN (r : List V → Hp → VK → Prop) (g : Fn) : Prop := ∀ (M : List Addr) (S : Sto) (H : Hp) (xs : List D) (vs : List V) (d : D) (S' : Sto) (Q : VK), RelS nm X.K X.mg M S H → RelDs X.K M H xs vs → g xs S = .ok d S' → KD nm X M H S' d Q → r vs H Q
end
theorem PE.imp {X : Cx} {e : Expr} {t u : TE} (h : PE X e t) (i : ∀ σ H Q, u σ H Q → t σ H Q) : PE X e u := ⟨fun pins s σ H Q I q => h.run pins s σ H Q I (i σ H Q q)⟩
theorem PT.imp {X : Cx} {e : Expr} {t u : TT} (h : PT X e t) (i : ∀ σ H Q, u σ H Q → t σ H Q) : PT X e u := ⟨fun pins s σ H Q I q => h.run pins s σ H Q I (i σ H Q q)⟩
theorem PW.imp {X : Cx} {e : Expr} {t u : TT} (h : PW X e t) (i : ∀ σ H Q, u σ H Q → t σ H Q) : PW X e u := ⟨fun wh pins s σ H Q I q => h.run wh pins s σ H Q I (i σ H Q q)⟩
theorem PA.imp {X : Cx} {e : List Expr} {t u : TA} (h : PA X e t) (i : ∀ σ H Q, u σ H Q → t σ H Q) : PA X e u := ⟨fun pos pins s σ H Q I q => h.run pos pins s σ H Q I (i σ H Q q)⟩
theorem PO.imp {X : Cx} {e : Option Expr} {t u : TO} (h : PO X e t) (i : ∀ σ H Q, u σ H Q → t σ H Q) : PO X e u := ⟨fun pins s σ H Q I q => h.run pins s σ H Q I (i σ H Q q)⟩
theorem PS.imp {X : Cx} {e : Stmt} {t u : TS} (h : PS X e t) (i : ∀ σ H D, u D σ H → t D σ H) : PS X e u := ⟨fun pins s σ H D I q => h.run pins s σ H D I (i σ H D q)⟩
theorem PSs.imp {X : Cx} {e : List Stmt} {t u : TS} (h : PSs X e t) (i : ∀ σ H D, u D σ H → t D σ H) : PSs X e u := ⟨fun pins s σ H D I q => h.run pins s σ H D I (i σ H D q)⟩
section
variable {nm : Nm} {X : Cx} {M M' : List Addr} {H H' : Hp} {S S' S1 : Sto} {ρ : Env} {σ : L2.St} {Q : VK} {d : D}
theorem KD.ext (k : KD nm X M H S' d Q) (e : Ext M H M' H') : KD nm X M' H' S' d Q := fun M2 H2 v e2 r q => k M2 H2 v (e.trans e2) r q
theorem KS.ext {r : Fl × Env} {D : Ends} (k : KS nm X M H S' r D) (e : Ext M H M' H') : KS nm X M' H' S' r D := fun M2 H2 v e2 r q => k M2 H2 v (e.trans e2) r q
theorem KD.here (k : KD nm X M H S' d Q) {v : V} (r : RelS nm X.K X.mg M S' H) (q : RelD X.K M H d v) : Q v H := k M H v Ext.refl r q
/-- a part's reading, then the rest -/
theorem rE.go {f : E} {P : VK} (r : RelS nm X.K X.mg M S H) (e : RelE X.K M H ρ σ) (h : f ρ S = .ok d S1)
    (k : ∀ M1 H1 v, Ext M H M1 H1 → RelS nm X.K X.mg M1 S1 H1 → RelD X.K M1 H1 d v → P v H1) : rE nm X f σ H P := ⟨M, ρ, S, d, S1, r, e, h, k⟩
/-- a new list -/
theorem KD.push {a : Addr} {ds : List D} {vs : List V} (k : KD nm X M H (S ++ [.lst ds]) (.ref S.length) Q) (r : RelS nm X.K X.mg M S H) (q : RelDs X.K M H ds vs) (h : H a = none) : Q (.ref a) (upd H a (.lst vs)) := by
  refine k _ _ _ (Ext.push h) (r.push h ⟨vs, upd_same, RelDs.ext r (Ext.push h) q⟩) ?_
  unfold RelD
  exact ⟨a, rfl, r.last⟩
/-- a new tuple -/
theorem KD.tup {a : Addr} {ds : List D} {vs : List V} (k : KD nm X M H S (.tup ds) Q) (r : RelS nm X.K X.mg M S H) (q : RelDs X.K M H ds vs) (h : H a = none) : Q (.ref a) (upd H a (.tup vs)) := by
  refine k _ _ _ (Ext.tup h) (r.tup h) ?_
  unfold RelD
  exact ⟨a, vs, rfl, .inl (.inl upd_same), RelDs.ext r (Ext.tup h) q⟩
theorem px_var {i : Nat} {x : Str} {pos : Pos} (hN : X.N[i]? = some x) (hv : Vis X.env.scope x) (hd : (x == ("__debug__" : Str)) = false) (hcd : (x == ("__classdict__" : Str)) = false) : PX nm X (.Name x pos) (eVar i) := by
  refine PE.imp (pe_var hN hv hd hcd) fun σ H Q ⟨M, ρ, S, d, S', r, e, h, k⟩ => ?_
  unfold eVar at h
  cases q : ρ[i]? with
  | none => rw [q] at h; cases h
  | some o =>
    rw [q] at h
    cases o with
    | none => cases h
    | some d' =>
      cases h
      obtain ⟨v, h1, h2⟩ := e.at_ i _ q
      exact ⟨v, h1, k.here r h2⟩
/-- constants -/
inductive Cst : D → V → Prop
  | non : Cst .non .non
  | bl (b : Bool) : Cst (.bl b) (.bl b)
  | int (i : Int) : Cst (.int i) (.int i)
  | str {s : List Nat} {x : Str} (h : strOf s = x) : Cst (.str s) (.str x)
theorem Cst.rel {K : PySem.W.Frag} {v : V} (c : Cst d v) : RelD K M H d v := by
  cases c <;> unfold RelD <;> first | rfl | (congr; exact Eq.symm ‹_›)
theorem px_c {e : Expr} {v : V} (h : PE X e (tC v)) (c : Cst d v) : PX nm X e (eC d) :=
  PE.imp h fun σ H Q ⟨M, ρ, S, d', S', r, e, h, k⟩ => by
    unfold eC at h
    cases h
    exact k.here r c.rel
theorem px_int {i : Int} {j : Nat} {pos : Pos} : PX nm X (.Constant (.int i) j pos) (eC (.int i)) := px_c pe_int (.int i)
theorem px_bl {b : Bool} {j : Nat} {pos : Pos} : PX nm X (.Constant (.bool b) j pos) (eC (.bl b)) := px_c pe_bl (.bl b)
theorem px_non {j : Nat} {pos : Pos} : PX nm X (.Constant .none j pos) (eC .non) := px_c pe_non .non
theorem px_str {s : List Nat} {x : Str} {j : Nat} {pos : Pos} (h : strOf s = x) : PX nm X (.Constant (.str x) j pos) (eC (.str s)) := px_c pe_str (.str h)
/-- a module's constant -/
theorem px_glob {x : Str} {v : V} {u : Value} {pos : Pos} (hg : Gl X x) (hm : X.mg x = some u) (r : RelV v u) (c : Cst d v) (hd : (x == ("__debug__" : Str)) = false) : PX nm X (.Name x pos) (eC d) := px_c (pe_glob hg hm r hd) c
/-- a module's tuple of constants -/
theorem px_globT {x : Str} {a : Addr} {ds : List D} {vs : List V} {pos : Pos} (hg : Gl X x) (hm : X.mg x = some (.ref a)) (ht : ∀ H, SqT X.K H a vs) (hc : ∀ M H, RelDs X.K M H ds vs) (hd : (x == ("__debug__" : Str)) = false) : PX nm X (.Name x pos) (eC (.tup ds)) :=
  PE.imp (pe_glob (v := .ref a) hg hm rfl hd) fun σ H Q ⟨M, ρ, S, d', S', r, e, h, k⟩ => by
    unfold eC at h
    cases h
    refine k.here r ?_
    unfold RelD
    exact ⟨a, vs, rfl, ht H, hc M H⟩
theorem px_e2 {r : R2} {g : D → D → PF.M D} {a b : Expr} {fa fb : E} {e : Expr} (h : PE X e (tOp r (rE nm X fa) (rE nm X fb))) (hg : Op2 nm X r g) : PX nm X e (e2 g fa fb) :=
  PE.imp h fun σ H Q ⟨M, ρ, S, d, S', rs, re, h, k⟩ => by
    unfold e2 at h
    obtain ⟨x, S1, h1, h⟩ := bind_inv h
    obtain ⟨y, S2, h2, h⟩ := bind_inv h
    refine rE.go rs re h1 fun M1 H1 vx e1 r1 q1 => ?_
    refine rE.go r1 (re.ext rs e1) h2 fun M2 H2 vy e2 r2 q2 => ?_
    exact hg M2 S2 H2 x y vx vy d S' Q r2 (RelD.ext r1 e2 q1) q2 h (k.ext (e1.trans e2))
theorem px_op {op : Operator} {r : R2} {g : D → D → PF.M D} {a b : Expr} {fa fb : E} {pos : Pos} (ho : OpR X (binaryOp op) r) (hg : Op2 nm X r g) (ha : PX nm X a fa) (hb : PX nm X b fb) : PX nm X (.BinOp a op b pos) (e2 g fa fb) := px_e2 (a := a) (b := b) (pe_op ho ha hb) hg
theorem px_cmp {op : CmpOp} {r : R2} {g : D → D → PF.M D} {a b : Expr} {fa fb : E} {pos : Pos} (ho : OpR X (compareOp op) r) (hg : Op2 nm X r g) (ha : PX nm X a fa) (hb : PX nm X b fb) (hm : behindInMarks op b = false) : PX nm X (.Compare a [op] [b] pos) (e2 g fa fb) := px_e2 (a := a) (b := b) (pe_cmpR ho ha hb hm) hg
theorem pxt_of {e : Expr} {f : E} (h : PT X e (tTest (rE nm X f))) : PXT nm X e (tE f) :=
  PT.imp h fun σ H Q ⟨M, ρ, S, b, S', rs, re, h, k⟩ => by
    unfold tE at h
    obtain ⟨x, S1, h1, h⟩ := bind_inv h
    refine rE.go rs re h1 fun M1 H1 v e1 r1 q1 => ?_
    cases x with
    | bl c => cases h; unfold RelD at q1; exact ⟨_, q1, k M1 H1 e1 r1⟩
    | _ => cases h
theorem PT.ofE {e : Expr} {t : TE} (h : PE X e t) (he : ∀ whole, isTrue e X.env whole = (do let v ← whole; standAt e.pos; holding [v] (truthy v))) : PT X e (tTest t) := pt_val h he
/-- a call, a name, .. as a test -/
theorem pxt_val {e : Expr} {f : E} (h : PX nm X e f) (he : ∀ whole, isTrue e X.env whole = (do let v ← whole; standAt e.pos; holding [v] (truthy v))) : PXT nm X e (tE f) := pxt_of (PT.ofE h he)
theorem pxt_cmp {op : CmpOp} {r : R2} {g : D → D → PF.M D} {a b : Expr} {fa fb : E} {pos : Pos} (ho : OpR X (compareOp op) r) (hg : Op2 nm X r g) (ha : PX nm X a fa) (hb : PX nm X b fb) (hm : behindInMarks op b = false) : PXT nm X (.Compare a [op] [b] pos) (tE (e2 g fa fb)) :=
  PT.imp (pt_cmpR ho ha hb hm) fun σ H Q ⟨M, ρ, S, b, S', rs, re, h, k⟩ => by
    unfold tE at h
    obtain ⟨z, S3, h0, h⟩ := bind_inv h
    unfold e2 at h0
    obtain ⟨x, S1, h1, h0⟩ := bind_inv h0
    obtain ⟨y, S2, h2, h0⟩ := bind_inv h0
    refine rE.go rs re h1 fun M1 H1 vx e1 r1 q1 => ?_
    refine rE.go r1 (re.ext rs e1) h2 fun M2 H2 vy e2 r2 q2 => ?_
    refine hg M2 S2 H2 x y vx vy z S3 _ r2 (RelD.ext r1 e2 q1) q2 h0 fun M3 H3 v e3 r3 q3 => ?_
    cases z with
    | bl c => cases h; unfold RelD at q3; exact ⟨_, q3, k M3 H3 ((e1.trans e2).trans e3) r3⟩
    | _ => cases h
/-- is None -/
theorem px_isN {a : Expr} {fa : E} {pos pos' : Pos} {j : Nat} (ha : PX nm X a fa) : PX nm X (.Compare a [.Is] [.Constant .none j pos'] pos) (e1 gIsN fa) :=
  PE.imp (pe_cmp (pc_isN ha) rfl) fun σ H Q ⟨M, ρ, S, d, S', rs, re, h, k⟩ => by
    unfold e1 at h
    obtain ⟨x, S1, h1, h⟩ := bind_inv h
    refine rE.go rs re h1 fun M1 H1 v e1 r1 q1 => ?_
    unfold gIsN at h
    cases h
    refine k _ _ _ e1 r1 ?_
    unfold RelD
    cases x <;> unfold RelD at q1 <;> first
      | (subst q1; rfl)
      | (obtain ⟨a, vs, q1, _⟩ := q1; subst q1; rfl)
      | (obtain ⟨a, q1, _⟩ := q1; subst q1; rfl)
/-- .. as tests -/
theorem pxt_b {e : Expr} {f : E} {t : TE} (h : PT X e (tB t)) (i : ∀ σ H Q, rE nm X f σ H Q → t σ H Q) : PXT nm X e (tE f) := pxt_of (PT.imp h fun σ H Q q => i σ H _ q)
theorem pxt_isN {a : Expr} {fa : E} {pos pos' : Pos} {j : Nat} (ha : PX nm X a fa) : PXT nm X (.Compare a [.Is] [.Constant .none j pos'] pos) (tE (e1 gIsN fa)) :=
  pxt_b (pt_cmp (pc_isN ha) rfl) fun σ H Q ⟨M, ρ, S, d, S', rs, re, h, k⟩ => by
    unfold e1 at h
    obtain ⟨x, S1, h1, h⟩ := bind_inv h
    refine rE.go rs re h1 fun M1 H1 v e1 r1 q1 => ?_
    unfold gIsN at h
    cases h
    refine k _ _ _ e1 r1 ?_
    unfold RelD
    cases x <;> unfold RelD at q1 <;> first
      | (subst q1; rfl)
      | (obtain ⟨a, vs, q1, _⟩ := q1; subst q1; rfl)
      | (obtain ⟨a, q1, _⟩ := q1; subst q1; rfl)
theorem pxt_notN {a : Expr} {fa : E} {pos pos' : Pos} {j : Nat} (ha : PX nm X a fa) : PXT nm X (.Compare a [.IsNot] [.Constant .none j pos'] pos) (tE (e1 gNotN fa)) :=
  pxt_b (pt_cmp (pc_notN ha) rfl) fun σ H Q ⟨M, ρ, S, d, S', rs, re, h, k⟩ => by
    unfold e1 at h
    obtain ⟨x, S1, h1, h⟩ := bind_inv h
    refine rE.go rs re h1 fun M1 H1 v e1 r1 q1 => ?_
    unfold gNotN at h
    cases h
    refine k _ _ _ e1 r1 ?_
    unfold RelD
    cases x <;> unfold RelD at q1 <;> first
      | (subst q1; rfl)
      | (obtain ⟨a, vs, q1, _⟩ := q1; subst q1; rfl)
      | (obtain ⟨a, q1, _⟩ := q1; subst q1; rfl)
theorem pxa_nil : PXA nm X [] aNil := PA.imp pa_nil fun σ H Q ⟨M, ρ, S, d, S', rs, re, h, k⟩ => by
  unfold aNil at h
  cases h
  exact k M H [] Ext.refl rs .nil
theorem pxa_cons {e : Expr} {es : List Expr} {f : E} {r : A} (ha : PX nm X e f) (hr : PXA nm X es r) (hs : starEach (e :: es) X.env = (false, eval e X.env) :: starEach es X.env) : PXA nm X (e :: es) (aCons f r) :=
  PA.imp (pa_cons ha hr hs) fun σ H Q ⟨M, ρ, S, d, S', rs, re, h, k⟩ => by
    unfold aCons at h
    obtain ⟨x, S1, h1, h⟩ := bind_inv h
    obtain ⟨xs, S2, h2, h⟩ := bind_inv h
    cases h
    refine rE.go rs re h1 fun M1 H1 v e1 r1 q1 => ?_
    refine ⟨M1, ρ, S1, xs, _, r1, re.ext rs e1, h2, fun M2 H2 vs e2 r2 q2 => ?_⟩
    exact k M2 H2 (v :: vs) (e1.trans e2) r2 (.cons (RelD.ext r1 e2 q1) q2)
theorem LIM_eq : LIM = sizeLine := by rw [sizeLine_eq]; rfl
theorem px_tup {es : List Expr} {f : A} {j : Nat} {pos : Pos} (h : PXA nm X es f) (hn : es.length ≤ 1000) (hl : ∀ ρ S ds S', f ρ S = .ok ds S' → ds.length = es.length) : PX nm X (.Tuple es j pos) (eTup f) :=
  PE.imp (pe_tup h) fun σ H Q ⟨M, ρ, S, d, S', rs, re, h, k⟩ => by
    unfold eTup at h
    obtain ⟨xs, S1, h1, h⟩ := bind_inv h
    cases h
    refine ⟨M, ρ, S, xs, _, rs, re, h1, fun M1 H1 vs e1 r1 q1 => ⟨?_, fun p hp => ?_⟩⟩
    · rw [← q1.length, hl _ _ _ _ h1, sizeLine_eq]; omega
    · exact (k.ext e1).tup r1 q1 hp
theorem px_lst {es : List Expr} {f : A} {pos : Pos} (h : PXA nm X es f) (hn : es.length ≤ 1000) (hl : ∀ ρ S ds S', f ρ S = .ok ds S' → ds.length = es.length) : PX nm X (.List es pos) (eLst f) :=
  PE.imp (pe_lst h) fun σ H Q ⟨M, ρ, S, d, S', rs, re, h, k⟩ => by
    unfold eLst at h
    obtain ⟨xs, S1, h1, h⟩ := bind_inv h
    cases h
    refine ⟨M, ρ, S, xs, _, rs, re, h1, fun M1 H1 vs e1 r1 q1 => ⟨?_, fun p hp => ?_⟩⟩
    · rw [← q1.length, hl _ _ _ _ h1, sizeLine_eq]; omega
    · exact (k.ext e1).push r1 q1 hp
theorem len_nil (ρ : Env) (S : Sto) (ds : List D) (S' : Sto) (h : aNil ρ S = .ok ds S') : ds.length = 0 := by unfold aNil at h; cases h; rfl
theorem len_cons {f : E} {r : A} {n : Nat} (hl : ∀ ρ S ds S', r ρ S = .ok ds S' → ds.length = n) (ρ : Env) (S : Sto) (ds : List D) (S' : Sto) (h : aCons f r ρ S = .ok ds S') : ds.length = n + 1 := by
  unfold aCons at h
  obtain ⟨x, S1, h1, h⟩ := bind_inv h
  obtain ⟨xs, S2, h2, h⟩ := bind_inv h
  cases h
  simp [hl _ _ _ _ h2]
theorem rT.go {f : T} {P : Bool → Hp → Prop} {b : Bool} (r : RelS nm X.K X.mg M S H) (e : RelE X.K M H ρ σ) (h : f ρ S = .ok b S1)
    (k : ∀ M1 H1, Ext M H M1 H1 → RelS nm X.K X.mg M1 S1 H1 → P b H1) : rT nm X f σ H P := ⟨M, ρ, S, b, S1, r, e, h, k⟩
theorem pxw_and1 {a : Expr} {f : T} {pos : Pos} (ha : PXT nm X a f) : PXW nm X (.BoolOp .And [a] pos) f := pw_and1 ha
theorem pxw_or1 {a : Expr} {f : T} {pos : Pos} (ha : PXT nm X a f) : PXW nm X (.BoolOp .Or [a] pos) f := pw_or1 ha
theorem pxw_and {a b : Expr} {rest : List Expr} {f g : T} {pos : Pos} (ha : PXT nm X a f) (hb : PXW nm X (.BoolOp .And (b :: rest) pos) g) : PXW nm X (.BoolOp .And (a :: b :: rest) pos) (PF.tAnd f g) :=
  PW.imp (pw_and ha hb) fun σ H Q ⟨M, ρ, S, d, S', rs, re, h, k⟩ => by
    unfold PF.tAnd at h
    obtain ⟨c, S1, h1, h⟩ := bind_inv h
    refine rT.go rs re h1 fun M1 H1 e1 r1 => ?_
    cases c with
    | true => exact iteT (rT.go r1 (re.ext rs e1) h fun M2 H2 e2 r2 => k M2 H2 (e1.trans e2) r2)
    | false => cases h; exact iteF (k M1 H1 e1 r1)
theorem pxw_or {a b : Expr} {rest : List Expr} {f g : T} {pos : Pos} (ha : PXT nm X a f) (hb : PXW nm X (.BoolOp .Or (b :: rest) pos) g) : PXW nm X (.BoolOp .Or (a :: b :: rest) pos) (PF.tOr f g) :=
  PW.imp (pw_or ha hb) fun σ H Q ⟨M, ρ, S, d, S', rs, re, h, k⟩ => by
    unfold PF.tOr at h
    obtain ⟨c, S1, h1, h⟩ := bind_inv h
    refine rT.go rs re h1 fun M1 H1 e1 r1 => ?_
    cases c with
    | false => exact iteF (rT.go r1 (re.ext rs e1) h fun M2 H2 e2 r2 => k M2 H2 (e1.trans e2) r2)
    | true => cases h; exact iteT (k M1 H1 e1 r1)
theorem pxt_w {e : Expr} {f : T} (h : PXW nm X e f) : PXT nm X e f := h.pt
theorem pxt_not {a : Expr} {f : T} {pos : Pos} (ha : PXT nm X a f) : PXT nm X (.UnaryOp .Not a pos) (PF.tNot f) :=
  PT.imp (pt_not ha) fun σ H Q ⟨M, ρ, S, d, S', rs, re, h, k⟩ => by
    unfold PF.tNot at h
    obtain ⟨c, S1, h1, h⟩ := bind_inv h
    cases h
    exact rT.go rs re h1 fun M1 H1 e1 r1 => k M1 H1 e1 r1
theorem px_one {op : BoolOp} {a : Expr} {f : E} {pos : Pos} (ha : PX nm X a f) : PX nm X (.BoolOp op [a] pos) f := pe_one ha
theorem px_and {a b : Expr} {rest : List Expr} {f g : E} {pos : Pos} (ha : PX nm X a f) (hb : PX nm X (.BoolOp .And (b :: rest) pos) g) : PX nm X (.BoolOp .And (a :: b :: rest) pos) (eAnd f g) :=
  PE.imp (pe_and ha hb) fun σ H Q ⟨M, ρ, S, d, S', rs, re, h, k⟩ => by
    unfold eAnd at h
    obtain ⟨x, S1, h1, h⟩ := bind_inv h
    refine rE.go rs re h1 fun M1 H1 v e1 r1 q1 => ?_
    cases x with
    | bl c =>
      have q2 := q1
      unfold RelD at q2
      refine ⟨c, q2, ?_⟩
      cases c with
      | true => exact iteT (rE.go r1 (re.ext rs e1) h fun M2 H2 v2 e2 r2 q => k M2 H2 v2 (e1.trans e2) r2 q)
      | false => cases h; exact iteF (k M1 H1 _ e1 r1 (by unfold RelD; rfl))
    | _ => cases h
theorem px_or {a b : Expr} {rest : List Expr} {f g : E} {pos : Pos} (ha : PX nm X a f) (hb : PX nm X (.BoolOp .Or (b :: rest) pos) g) : PX nm X (.BoolOp .Or (a :: b :: rest) pos) (eOr f g) :=
  PE.imp (pe_or ha hb) fun σ H Q ⟨M, ρ, S, d, S', rs, re, h, k⟩ => by
    unfold eOr at h
    obtain ⟨x, S1, h1, h⟩ := bind_inv h
    refine rE.go rs re h1 fun M1 H1 v e1 r1 q1 => ?_
    cases x with
    | bl c =>
      have q2 := q1
      unfold RelD at q2
      refine ⟨c, q2, ?_⟩
      cases c with
      | false => exact iteF (rE.go r1 (re.ext rs e1) h fun M2 H2 v2 e2 r2 q => k M2 H2 v2 (e1.trans e2) r2 q)
      | true => cases h; exact iteT (k M1 H1 _ e1 r1 (by unfold RelD; rfl))
    | _ => cases h
theorem px_not {a : Expr} {f : E} {pos : Pos} (ha : PX nm X a f) : PX nm X (.UnaryOp .Not a pos) (eNot f) :=
  PE.imp (pe_not ha) fun σ H Q ⟨M, ρ, S, d, S', rs, re, h, k⟩ => by
    unfold eNot at h
    obtain ⟨x, S1, h1, h⟩ := bind_inv h
    refine rE.go rs re h1 fun M1 H1 v e1 r1 q1 => ?_
    cases x with
    | bl c => cases h; unfold RelD at q1; exact ⟨c, q1, k M1 H1 _ e1 r1 (by unfold RelD; rfl)⟩
    | _ => cases h
theorem px_if {c a b : Expr} {t : T} {f g : E} {pos : Pos} (hc : PXT nm X c t) (ha : PX nm X a f) (hb : PX nm X b g) : PX nm X (.IfExp c a b pos) (eIf t f g) :=
  PE.imp (pe_ifExp hc ha hb) fun σ H Q ⟨M, ρ, S, d, S', rs, re, h, k⟩ => by
    unfold eIf at h
    obtain ⟨c, S1, h1, h⟩ := bind_inv h
    refine rT.go rs re h1 fun M1 H1 e1 r1 => ?_
    cases c with
    | true => exact iteT (rE.go r1 (re.ext rs e1) h fun M2 H2 v2 e2 r2 q => k M2 H2 v2 (e1.trans e2) r2 q)
    | false => exact iteF (rE.go r1 (re.ext rs e1) h fun M2 H2 v2 e2 r2 q => k M2 H2 v2 (e1.trans e2) r2 q)
end
end PF
end
section
set_option linter.all false
set_option Elab.async false
set_option linter.all false
set_option maxRecDepth 100003
set_option maxHeartbeats 2000003
set_option autoImplicit false
namespace PF
open PySem L2
section
variable {nm : Nm} {X : Cx} {M M' : List Addr} {H H' : Hp} {S S' S1 : Sto} {ρ : Env} {σ : L2.St} {Q : VK} {d : D}
theorem RelD.int {K : PySem.W.Frag} {i : Int} {v : V} (h : RelD K M H (.int i) v) : v = .int i := by unfold RelD at h; exact h
theorem RelD.bl {K : PySem.W.Frag} {i : Bool} {v : V} (h : RelD K M H (.bl i) v) : v = .bl i := by unfold RelD at h; exact h
theorem RelD.str {K : PySem.W.Frag} {i : List Nat} {v : V} (h : RelD K M H (.str i) v) : v = .str (strOf i) := by unfold RelD at h; exact h
theorem RelD.tup {K : PySem.W.Frag} {ds : List D} {v : V} (h : RelD K M H (.tup ds) v) : ∃ a vs, v = .ref a ∧ SqT K H a vs ∧ RelDs K M H ds vs := by unfold RelD at h; exact h
theorem RelD.ref {K : PySem.W.Frag} {n : Nat} {v : V} (h : RelD K M H (.ref n) v) : ∃ a, v = .ref a ∧ M[n]? = some a := by unfold RelD at h; exact h
theorem RelD.mkI {K : PySem.W.Frag} {i : Int} : RelD K M H (.int i) (.int i) := by unfold RelD; rfl
theorem RelD.mkB {K : PySem.W.Frag} {i : Bool} : RelD K M H (.bl i) (.bl i) := by unfold RelD; rfl
theorem RelD.mkN {K : PySem.W.Frag} : RelD K M H .non .non := by unfold RelD; rfl
theorem RelD.mkS {K : PySem.W.Frag} {i : List Nat} : RelD K M H (.str i) (.str (strOf i)) := by unfold RelD; rfl
theorem strOf_len (s : List Nat) : (strOf s).length = s.length := rfl
theorem strOf_app (a b : List Nat) : strOf a ++ strOf b = strOf (a ++ b) := by
  show (⟨a.toArray ++ b.toArray⟩ : Str) = ⟨(a ++ b).toArray⟩
  simp
theorem strOf_inj {a b : List Nat} (h : strOf a = strOf b) : a = b := by
  have h2 : a.toArray = b.toArray := by injection h
  simpa using congrArg Array.toList h2
theorem strOf_toList (a : List Nat) : (strOf a).cps.toList = a := by simp [strOf]
theorem strOf_cps (x : Str) : strOf x.cps.toList = x := by cases x; simp [strOf]
theorem op2_cmp {p : Int → Int → Bool} : Op2 nm X (rI0 fun i j => .bl (p i j)) (gCmp p) := by
  intro M S H x y vx vy d S' Q rs hx hy h k
  unfold gCmp at h
  cases x <;> cases y <;> first
    | (cases h; rw [hx.int, hy.int]; exact ⟨_, _, rfl, rfl, k.here rs .mkB⟩)
    | cases h
theorem op2_sub : Op2 nm X (rI0 fun i j => .int (i - j)) gSub := by
  intro M S H x y vx vy d S' Q rs hx hy h k
  unfold gSub at h
  cases x <;> cases y <;> first
    | (cases h; rw [hx.int, hy.int]; exact ⟨_, _, rfl, rfl, k.here rs .mkI⟩)
    | cases h
theorem op2_fdiv : Op2 nm X (rI CDiv fun i j => .int (i / j)) gFdiv := by
  intro M S H x y vx vy d S' Q rs hx hy h k
  unfold gFdiv at h
  cases x <;> cases y <;> first
    | (dsimp only at h
       split at h
       · rename_i c
         cases h; rw [hx.int, hy.int]; exact ⟨_, _, rfl, rfl, c, k.here rs .mkI⟩
       · cases h)
    | cases h
theorem op2_mod : Op2 nm X (rI (fun _ j => 0 < j) fun i j => .int (i % j)) gMod := by
  intro M S H x y vx vy d S' Q rs hx hy h k
  unfold gMod at h
  cases x <;> cases y <;> first
    | (dsimp only at h
       split at h
       · rename_i c
         cases h; rw [hx.int, hy.int]; exact ⟨_, _, rfl, rfl, c, k.here rs .mkI⟩
       · cases h)
    | cases h
theorem px_neg {a : Expr} {f : E} {pos : Pos} (ha : PX nm X a f) : PX nm X (.UnaryOp .USub a pos) (e1 gNeg f) :=
  PE.imp (pe_un un_neg ha) fun σ H Q ⟨M, ρ, S, d, S', rs, re, h, k⟩ => by
    unfold e1 at h
    obtain ⟨x, S1, h1, h⟩ := bind_inv h
    refine rE.go rs re h1 fun M1 H1 v e1 r1 q1 => ?_
    unfold gNeg at h
    cases x with
    | int i => cases h; rw [q1.int]; exact ⟨_, rfl, k _ _ _ e1 r1 .mkI⟩
    | _ => cases h
/-- two lists of the store, written -/
theorem lst_wr (rs : RelS nm X.K X.mg M S H) {n : Nat} {a : Addr} {ds : List D} (hn : M[n]? = some a) (h : S[n]? = some (.lst ds)) : ∃ vs, H a = some (.lst vs) ∧ RelDs X.K M H ds vs := rs.obj n a _ hn h
def rAddA (K : PySem.W.Frag) : R2 := fun x y H Q => (rI0 (fun i j => .int (i + j)) x y H Q ∨ (∃ i j, x = .str i ∧ y = .str j ∧ i.length + j.length ≤ sizeLine ∧ Q (.str (i ++ j)) H)) ∨ (rCatA K x y H Q ∨ rCat x y H Q)
theorem op_addA : OpR X (binaryOp .Add) (rAddA X.K) := OpR.or (OpR.or op_add op_add_str) (OpR.or op_catA op_cat)
theorem op2_add : Op2 nm X (rAddA X.K) gAdd := by
  intro M S H x y vx vy d S' Q rs hx hy h k
  unfold gAdd at h
  cases x <;> cases y <;> dsimp only at h <;> try cases h
  · rw [hx.int, hy.int]
    exact .inl (.inl ⟨_, _, rfl, rfl, k.here rs .mkI⟩)
  · split at h
    · rename_i c
      cases h
      rw [hx.str, hy.str]
      refine .inl (.inr ⟨_, _, rfl, rfl, by rw [← LIM_eq]; exact c, ?_⟩)
      rw [strOf_app]
      exact k.here rs .mkS
    · cases h
  · split at h
    · rename_i c
      cases h
      obtain ⟨a, vs, rfl, ha, qa⟩ := hx.tup
      obtain ⟨b, us, rfl, hb, qb⟩ := hy.tup
      refine .inr (.inl ⟨a, b, vs, us, rfl, rfl, ha, hb, by rw [← qa.length, ← qb.length, ← LIM_eq]; exact c, fun e => ?_, fun _ e => ?_, fun _ _ p hp => ?_⟩)
      · subst e
        have e2 := qa.length
        refine k.here rs ?_
        rw [List.length_nil, List.length_eq_zero_iff] at e2
        subst e2
        exact hy
      · subst e
        have e2 := qb.length
        refine k.here rs ?_
        rw [List.length_nil, List.length_eq_zero_iff] at e2
        subst e2
        rw [List.append_nil]
        exact hx
      · exact k.tup rs (qa.append qb) hp
    · cases h
  · rename_i m n
    cases h1 : wrOf m S with
    | none => rw [h1] at h; cases h
    | some as =>
      rw [h1] at h
      cases h2 : wrOf n S with
      | none => rw [h2] at h; cases h
      | some bs =>
        rw [h2] at h
        dsimp only at h
        split at h
        · rename_i c
          cases h
          obtain ⟨a, rfl, ha⟩ := hx.ref
          obtain ⟨b, rfl, hb⟩ := hy.ref
          have g1 : S[m]? = some (.lst as) := by unfold wrOf at h1; split at h1 <;> cases h1; assumption
          have g2 : S[n]? = some (.lst bs) := by unfold wrOf at h2; split at h2 <;> cases h2; assumption
          obtain ⟨vs, ka, qa⟩ := lst_wr rs ha g1
          obtain ⟨us, kb, qb⟩ := lst_wr rs hb g2
          refine .inr (.inr ⟨a, b, vs, us, rfl, rfl, ka, kb, by rw [← qa.length, ← qb.length, ← LIM_eq]; exact c, fun p hp => ?_⟩)
          exact k.push rs (qa.append qb) hp
        · cases h
theorem RelDs.rep {K : PySem.W.Frag} {ds : List D} {vs : List V} (h : RelDs K M H ds vs) : ∀ k : Nat, RelDs K M H (rep ds k) (List.replicate k vs).flatten
  | 0 => by simp [PF.rep, RelDs.nil]
  | k + 1 => by
    have ih := RelDs.rep h k
    unfold PF.rep at ih ⊢
    rw [List.replicate_succ, List.replicate_succ, List.flatten_cons, List.flatten_cons]
    exact h.append ih
def rMulA (K : PySem.W.Frag) : R2 := fun x y H Q => rI CMul (fun i j => .int (i * j)) x y H Q ∨ (rRep x y H Q ∨ rRepT K x y H Q)
theorem op_mulA : OpR X (binaryOp .Mult) (rMulA X.K) := OpR.or op_mul (OpR.or op_rep op_repT)
theorem op2_mul : Op2 nm X (rMulA X.K) gMul := by
  intro M S H x y vx vy d S' Q rs hx hy h k
  unfold gMul at h
  cases x <;> cases y <;> dsimp only at h <;> try cases h
  · split at h
    · rename_i c
      cases h
      rw [hx.int, hy.int]
      exact .inl ⟨_, _, rfl, rfl, c, k.here rs .mkI⟩
    · cases h
  · split at h
    · rename_i c
      cases h
      obtain ⟨a, vs, rfl, ha, qa⟩ := hx.tup
      rw [hy.int]
      refine .inr (.inr ⟨a, _, vs, rfl, rfl, ha, ?_, c.2.1, c.2.2.1, ?_, fun p hp => ?_⟩)
      · intro e
        subst e
        have e2 := qa.length
        rw [List.length_nil, List.length_eq_zero_iff] at e2
        exact c.1 e2
      · rw [← qa.length]; exact c.2.2.2
      · exact k.tup rs (qa.rep _) hp
    · cases h
  · rename_i m z
    cases h1 : wrOf m S with
    | none => rw [h1] at h; cases h
    | some as =>
      rw [h1] at h
      dsimp only at h
      split at h
      · rename_i c
        cases h
        obtain ⟨a, rfl, ha⟩ := hx.ref
        rw [hy.int]
        have g1 : S[m]? = some (.lst as) := by unfold wrOf at h1; split at h1 <;> cases h1; assumption
        obtain ⟨vs, ka, qa⟩ := lst_wr rs ha g1
        refine .inr (.inl ⟨a, z, vs, rfl, rfl, ka, by omega, by omega, by rw [← qa.length, ← LIM_eq]; exact c.2.2, fun p hp => ?_⟩)
        exact k.push rs (qa.rep _) hp
      · cases h
end
end PF
end
section
set_option linter.all false
set_option Elab.async false
set_option linter.all false
set_option maxRecDepth 100003
set_option maxHeartbeats 2000003
set_option autoImplicit false
namespace PF
open PySem L2
mutual
def J.py : J → PyData
  | .non => .none
  | .bl b => .bool b
  | .int i => .int i
  | .str s => .str (strOf s)
  | .tup js => .tuple (J.pys js)
  | .lst js => .list (J.pys js)
def J.pys : List J → List PyData
  | [] => []
  | j :: js => J.py j :: J.pys js
end
mutual
theorem J.eqv_py : ∀ a b : J, PyData.eqv a.py b.py = J.eqv a b
  | .non, b => by cases b <;> simp [J.py, PyData.eqv, J.eqv]
  | .bl x, b => by
    cases b <;> simp [J.py, PyData.eqv, J.eqv, b2i]
  | .int x, b => by
    cases b <;> simp [J.py, PyData.eqv, J.eqv, b2i]
  | .str x, b => by
    cases b <;> simp [J.py, PyData.eqv, J.eqv]
    rename_i y
    rw [Bool.eq_iff_iff]
    simp only [beq_iff_eq]
    exact ⟨strOf_inj, fun e => by rw [e]⟩
  | .tup x, b => by
    cases b <;> simp [J.py, PyData.eqv, J.eqv]
    exact J.eqvs_py _ _
  | .lst x, b => by
    cases b <;> simp [J.py, PyData.eqv, J.eqv]
    exact J.eqvs_py _ _
theorem J.eqvs_py : ∀ a b : List J, PyData.eqvAll (J.pys a) (J.pys b) = J.eqvs a b
  | [], [] => by simp [J.pys, PyData.eqvAll, J.eqvs]
  | [], _ :: _ => by simp [J.pys, PyData.eqvAll, J.eqvs]
  | _ :: _, [] => by simp [J.pys, PyData.eqvAll, J.eqvs]
  | x :: xs, y :: ys => by simp [J.pys, PyData.eqvAll, J.eqvs, J.eqv_py x y, J.eqvs_py xs ys]
end
theorem allSome_cons {α β : Type} {f : α → Option β} {x : α} {xs : List α} {r : List β} (h : allSome f (x :: xs) = some r) : ∃ y ys, r = y :: ys ∧ f x = some y ∧ allSome f xs = some ys := by
  unfold allSome at h
  split at h
  · cases h
  · split at h
    · cases h
    · cases h
      exact ⟨_, _, rfl, by assumption, by assumption⟩
section
variable {nm : Nm} {X : Cx} {M M' : List Addr} {H H' : Hp} {S S' S1 : Sto} {ρ : Env} {σ : L2.St} {Q : VK} {d : D}
/-- what a tree tells: the data as it lies, its texts' signs, its depth -/
structure Told (K : PySem.W.Frag) (H : Hp) (n : Nat) (v : V) (j : J) : Prop where
  dp : Dp K H v j.py
  lay : j.py.canLay0 = true
  deep : j.py.depth ≤ n
structure Tolds (K : PySem.W.Frag) (H : Hp) (n : Nat) (vs : List V) (js : List J) : Prop where
  dp : DpAll K H vs (J.pys js)
  lay : PyData.canLayAll0 (J.pys js) = true
  deep : PyData.depthAll (J.pys js) ≤ n
theorem told_all {n : Nat} {f : D → Option J} (hf : ∀ d v j, RelD X.K M H d v → f d = some j → Told X.K H n v j) : ∀ {ds : List D} {vs : List V} {js : List J}, RelDs X.K M H ds vs → allSome f ds = some js → Tolds X.K H n vs js
  | [], _, _, h, e => by
    unfold RelDs at h
    subst h
    unfold allSome at e
    cases e
    exact ⟨.nil, by simp [J.pys, PyData.canLayAll0], by simp [J.pys, PyData.depthAll]⟩
  | d :: ds, _, _, h, e => by
    unfold RelDs at h
    obtain ⟨v, q, rfl, h1, h2⟩ := h
    obtain ⟨y, ys, rfl, e1, e2⟩ := allSome_cons e
    have a := hf d v y h1 e1
    have b := told_all hf h2 e2
    refine ⟨.cons a.dp b.dp, ?_, ?_⟩
    · simp [J.pys, PyData.canLayAll0, a.lay, b.lay]
    · have := a.deep
      have := b.deep
      simp only [J.pys, PyData.depthAll]
      omega
theorem told_of (rs : RelS nm X.K X.mg M S H) : ∀ (n : Nat) (d : D) (v : V) (j : J), RelD X.K M H d v → tree S n d = some j → Told X.K H n v j := by
  intro n
  induction n with
  | zero =>
    intro d v j h e
    cases d with
    | non => unfold tree at e; cases e; unfold RelD at h; subst h; exact ⟨.non, by simp [J.py, PyData.canLay0], by simp [J.py, PyData.depth]⟩
    | bl b => unfold tree at e; cases e; rw [h.bl]; exact ⟨.bl _, by simp [J.py, PyData.canLay0], by simp [J.py, PyData.depth]⟩
    | int b => unfold tree at e; cases e; rw [h.int]; exact ⟨.int _, by simp [J.py, PyData.canLay0], by simp [J.py, PyData.depth]⟩
    | str s =>
      unfold tree at e
      split at e
      · rename_i c
        cases e
        rw [h.str]
        refine ⟨.str _, ?_, by simp [J.py, PyData.depth]⟩
        simp only [J.py, PyData.canLay0, PyData.strOk, strOf]
        simpa using c
      · cases e
    | tup ds => unfold tree at e; cases e
    | ref n => unfold tree at e; cases e
  | succ n ih =>
    intro d v j h e
    cases d with
    | non => unfold tree at e; cases e; unfold RelD at h; subst h; exact ⟨.non, by simp [J.py, PyData.canLay0], by simp [J.py, PyData.depth]⟩
    | bl b => unfold tree at e; cases e; rw [h.bl]; exact ⟨.bl _, by simp [J.py, PyData.canLay0], by simp [J.py, PyData.depth]⟩
    | int b => unfold tree at e; cases e; rw [h.int]; exact ⟨.int _, by simp [J.py, PyData.canLay0], by simp [J.py, PyData.depth]⟩
    | str s =>
      unfold tree at e
      split at e
      · rename_i c
        cases e
        rw [h.str]
        refine ⟨.str _, ?_, by simp [J.py, PyData.depth]⟩
        simp only [J.py, PyData.canLay0, PyData.strOk, strOf]
        simpa using c
      · cases e
    | tup ds =>
      unfold tree at e
      split at e
      · rename_i js ej
        cases e
        obtain ⟨a, vs, rfl, ha, qa⟩ := h.tup
        have t := told_all (n := n) ih qa ej
        refine ⟨.tup ha t.dp, ?_, ?_⟩
        · simp only [J.py, PyData.canLay0]; exact t.lay
        · have := t.deep
          simp only [J.py, PyData.depth]
          omega
      · cases e
    | ref m =>
      unfold tree at e
      split at e
      · rename_i ds el
        split at e
        · rename_i js ej
          cases e
          obtain ⟨a, rfl, ha⟩ := h.ref
          obtain ⟨vs, ka, qa⟩ := rs.lst ha el
          have t := told_all (n := n) ih qa ej
          refine ⟨.lst ka t.dp, ?_, ?_⟩
          · simp only [J.py, PyData.canLay0]; exact t.lay
          · have := t.deep
            simp only [J.py, PyData.depth]
            omega
        · cases e
      · cases e
theorem Told.shaped {K : PySem.W.Frag} {v : V} {j : J} (t : Told K H EQD v j) : SeqAt.shaped j.py = true := by
  unfold SeqAt.shaped
  rw [t.lay, decide_eq_true (Nat.le_trans t.deep (by decide))]
  rfl
theorem Tolds.shaped {K : PySem.W.Frag} {vs : List V} {js : List J} (t : Tolds K H EQD vs js) : SeqAt.shaped (.list (J.pys js)) = true := by
  unfold SeqAt.shaped
  have h1 : (PyData.list (J.pys js)).canLay0 = true := by simp only [PyData.canLay0]; exact t.lay
  have h2 : (PyData.list (J.pys js)).depth ≤ 64 := by
    simp only [PyData.depth]
    exact Nat.le_trans (Nat.succ_le_succ t.deep) (by decide)
  rw [h1, decide_eq_true h2]
  rfl
def rEqA (K : PySem.W.Frag) : R2 := fun x y H Q => rEq x y H Q ∨ rEqD K x y H Q
def rNeA (K : PySem.W.Frag) : R2 := fun x y H Q => rNe x y H Q ∨ rNeD K x y H Q
theorem op_eqA (hu : X.A.units + 64 < cLine) : OpR X (compareOp .Eq) (rEqA X.K) := OpR.or op_eq (op_eqD hu)
theorem op_neA (hu : X.A.units + 64 < cLine) : OpR X (compareOp .NotEq) (rNeA X.K) := OpR.or op_ne (op_neD hu)
/-- an answer of ==, by one of the two readings -/
theorem eqF_ans (rs : RelS nm X.K X.mg M S H) {x y : D} {vx vy : V} {b : Bool} (hx : RelD X.K M H x vx) (hy : RelD X.K M H y vy) (h : eqF S x y = some b) :
    (scal vx vy = true ∧ b = decide (vx = vy)) ∨ ∃ d e, Dp X.K H vx d ∧ Dp X.K H vy e ∧ SeqAt.shaped d = true ∧ SeqAt.shaped e = true ∧ b = PyData.eqv d e := by
  have gen : eqT S x y = some b → ∃ d e, Dp X.K H vx d ∧ Dp X.K H vy e ∧ SeqAt.shaped d = true ∧ SeqAt.shaped e = true ∧ b = PyData.eqv d e := fun h => by
    unfold eqT at h
    split at h
    · rename_i j1 j2 e1 e2
      cases h
      have t1 := told_of rs EQD x vx j1 hx e1
      have t2 := told_of rs EQD y vy j2 hy e2
      exact ⟨_, _, t1.dp, t2.dp, t1.shaped, t2.shaped, (J.eqv_py j1 j2).symm⟩
    · cases h
  cases x with
  | non =>
    have ex : vx = .non := by unfold RelD at hx; exact hx
    cases y with
    | non =>
      have ey : vy = .non := by unfold RelD at hy; exact hy
      unfold eqF at h; cases h; subst ex; subst ey; exact .inl ⟨rfl, by simp⟩
    | bl j => unfold eqF at h; cases h; subst ex; rw [hy.bl]; exact .inl ⟨rfl, by simp⟩
    | int j => unfold eqF at h; cases h; subst ex; rw [hy.int]; exact .inl ⟨rfl, by simp⟩
    | str j => unfold eqF at h; cases h; subst ex; rw [hy.str]; exact .inl ⟨rfl, by simp⟩
    | tup j => exact .inr (gen h)
    | ref j => exact .inr (gen h)
  | bl i =>
    have ex := hx.bl
    cases y with
    | non =>
      have ey : vy = .non := by unfold RelD at hy; exact hy
      unfold eqF at h; cases h; subst ex; subst ey; exact .inl ⟨rfl, by simp⟩
    | bl j => unfold eqF at h; cases h; subst ex; rw [hy.bl]; exact .inl ⟨rfl, by simp [Bool.beq_eq_decide_eq]⟩
    | int j => exact .inr (gen h)
    | str j => unfold eqF at h; cases h; subst ex; rw [hy.str]; exact .inl ⟨rfl, by simp⟩
    | tup j => exact .inr (gen h)
    | ref j => exact .inr (gen h)
  | int i =>
    have ex := hx.int
    cases y with
    | non =>
      have ey : vy = .non := by unfold RelD at hy; exact hy
      unfold eqF at h; cases h; subst ex; subst ey; exact .inl ⟨rfl, by simp⟩
    | bl j => exact .inr (gen h)
    | int j => unfold eqF at h; cases h; subst ex; rw [hy.int]; exact .inl ⟨rfl, by simp [Bool.beq_eq_decide_eq]⟩
    | str j => unfold eqF at h; cases h; subst ex; rw [hy.str]; exact .inl ⟨rfl, by simp⟩
    | tup j => exact .inr (gen h)
    | ref j => exact .inr (gen h)
  | str i =>
    have ex := hx.str
    cases y with
    | non =>
      have ey : vy = .non := by unfold RelD at hy; exact hy
      unfold eqF at h; cases h; subst ex; subst ey; exact .inl ⟨rfl, by simp⟩
    | bl j => unfold eqF at h; cases h; subst ex; rw [hy.bl]; exact .inl ⟨rfl, by simp⟩
    | int j => unfold eqF at h; cases h; subst ex; rw [hy.int]; exact .inl ⟨rfl, by simp⟩
    | str j =>
      unfold eqF at h; cases h; subst ex; rw [hy.str]
      refine .inl ⟨rfl, ?_⟩
      rw [Bool.eq_iff_iff]
      simp only [beq_iff_eq, decide_eq_true_eq]
      exact ⟨fun e => by rw [e], fun e => strOf_inj (by injection e)⟩
    | tup j => exact .inr (gen h)
    | ref j => exact .inr (gen h)
  | tup i => exact .inr (gen (by unfold eqF at h; cases y <;> exact h))
  | ref i => exact .inr (gen (by unfold eqF at h; cases y <;> exact h))
theorem op2_eq : Op2 nm X (rEqA X.K) gEq := by
  intro M S H x y vx vy d S' Q rs hx hy h k
  unfold gEq at h
  split at h
  · rename_i b hb
    cases h
    rcases eqF_ans rs hx hy hb with ⟨h1, e⟩ | ⟨d, e, h1, h2, h3, h4, eb⟩
    · exact .inl ⟨h1, by rw [← e]; exact k.here rs .mkB⟩
    · exact .inr ⟨d, e, h1, h2, h3, h4, by rw [← eb]; exact k.here rs .mkB⟩
  · cases h
theorem op2_ne : Op2 nm X (rNeA X.K) gNe := by
  intro M S H x y vx vy d S' Q rs hx hy h k
  unfold gNe at h
  split at h
  · rename_i b hb
    cases h
    rcases eqF_ans rs hx hy hb with ⟨h1, e⟩ | ⟨d, e, h1, h2, h3, h4, eb⟩
    · exact .inl ⟨h1, by rw [← e]; exact k.here rs .mkB⟩
    · exact .inr ⟨d, e, h1, h2, h3, h4, by rw [← eb]; exact k.here rs .mkB⟩
  · cases h
end
end PF
end
section
set_option linter.all false
set_option Elab.async false
set_option linter.all false
set_option maxRecDepth 100003
set_option maxHeartbeats 2000003
set_option autoImplicit false
namespace PF
open PySem L2
section
variable {nm : Nm} {X : Cx} {M M' : List Addr} {H H' : Hp} {S S' S1 : Sto} {ρ : Env} {σ : L2.St} {Q : VK} {d : D}
theorem wr_lst {n : Nat} {ds : List D} (h : wrOf n S = some ds) : S[n]? = some (.lst ds) := by unfold wrOf at h; split at h <;> cases h; assumption
theorem dic_of {n : Nat} {kvs : List (D × D)} (h : dicOf n S = some kvs) : S[n]? = some (.dic kvs) := by unfold dicOf at h; split at h <;> cases h; assumption
/-- a flat value -/
theorem flat_of {x : D} {v : V} (h : x.scal = true) (r : RelD X.K M H x v) : flatV v = true := by
  cases x with
  | non => unfold RelD at r; subst r; rfl
  | bl b => rw [r.bl]; rfl
  | int b => rw [r.int]; rfl
  | str b => rw [r.str]; rfl
  | tup b => cases h
  | ref b => cases h
theorem flats_of : ∀ {ds : List D} {vs : List V}, ds.all D.scal = true → RelDs X.K M H ds vs → vs.all flatV = true
  | [], _, _, r => by unfold RelDs at r; subst r; rfl
  | d :: ds, _, h, r => by
    unfold RelDs at r
    obtain ⟨v, q, rfl, r1, r2⟩ := r
    rw [List.all_cons, Bool.and_eq_true] at h
    rw [List.all_cons, flat_of h.1 r1, flats_of h.2 r2]
    rfl
/-- == of flat values by trees -/
theorem eqV_of {n m : Nat} {x y : D} {vx vy : V} {a b : J} (hx : x.scal = true) (hy : y.scal = true) (rx : RelD X.K M H x vx) (ry : RelD X.K M H y vy) (ex : tree S n x = some a) (ey : tree S m y = some b) : eqV vy vx = J.eqv b a := by
  have tr : ∀ {k : Nat} {z : D} {vz : V} {c : J}, z.scal = true → RelD X.K M H z vz → tree S k z = some c → (vz = .non ∧ c = .non) ∨ (∃ t, vz = .bl t ∧ c = .bl t) ∨ (∃ t, vz = .int t ∧ c = .int t) ∨ (∃ t, vz = .str (strOf t) ∧ c = .str t) := by
    intro k z vz c hz rz ez
    cases z with
    | non => unfold RelD at rz; unfold tree at ez; cases ez; exact .inl ⟨rz, rfl⟩
    | bl t => unfold tree at ez; cases ez; exact .inr (.inl ⟨t, rz.bl, rfl⟩)
    | int t => unfold tree at ez; cases ez; exact .inr (.inr (.inl ⟨t, rz.int, rfl⟩))
    | str t =>
      unfold tree at ez
      split at ez
      · cases ez; exact .inr (.inr (.inr ⟨t, rz.str, rfl⟩))
      · cases ez
    | tup t => cases hz
    | ref t => cases hz
  rcases tr hx rx ex with ⟨rfl, rfl⟩ | ⟨t, rfl, rfl⟩ | ⟨t, rfl, rfl⟩ | ⟨t, rfl, rfl⟩ <;>
  rcases tr hy ry ey with ⟨rfl, rfl⟩ | ⟨u, rfl, rfl⟩ | ⟨u, rfl, rfl⟩ | ⟨u, rfl, rfl⟩ <;>
  simp [eqV, J.eqv, b2i]
  rw [Bool.eq_iff_iff]
  simp only [beq_iff_eq]
  exact ⟨strOf_inj, fun e => by rw [e]⟩
theorem inV_of {x : D} {vx : V} {a : J} (hx : x.scal = true) (rx : RelD X.K M H x vx) (ex : tree S EQD x = some a) : ∀ {ds : List D} {vs : List V} {js : List J}, ds.all D.scal = true → RelDs X.K M H ds vs → allSome (tree S EQD) ds = some js → inV vx vs = js.any fun z => J.eqv z a
  | [], _, _, _, r, e => by unfold RelDs at r; subst r; unfold allSome at e; cases e; rfl
  | d :: ds, _, _, h, r, e => by
    unfold RelDs at r
    obtain ⟨v, q, rfl, r1, r2⟩ := r
    obtain ⟨y, ys, rfl, e1, e2⟩ := allSome_cons e
    rw [List.all_cons, Bool.and_eq_true] at h
    unfold inV
    rw [List.any_cons, List.any_cons, eqV_of hx h.1 rx r1 ex e1]
    congr 1
    exact inV_of hx rx ex h.2 r2 e2
theorem any_py (a : J) : ∀ js : List J, (J.pys js).any (fun z => PyData.eqv z a.py) = js.any fun z => J.eqv z a
  | [] => rfl
  | j :: js => by
    unfold J.pys
    rw [List.any_cons, List.any_cons, J.eqv_py, any_py a js]
def rInA (K : PySem.W.Frag) : R2 := fun x y H Q => (rIn K false x y H Q ∨ rInD K x y H Q) ∨ (∃ c z, x = .str ⟨#[c]⟩ ∧ y = .str z ∧ Q (.bl (decide (c ∈ z.cps.toList))) H)
def rNotInA (K : PySem.W.Frag) : R2 := fun x y H Q => (rIn K true x y H Q ∨ rNotInD K x y H Q) ∨ (∃ c z, x = .str ⟨#[c]⟩ ∧ y = .str z ∧ Q (.bl (!decide (c ∈ z.cps.toList))) H)
end
end PF
end
section
set_option linter.all false
set_option Elab.async false
set_option linter.all false
set_option maxRecDepth 100003
set_option maxHeartbeats 2000003
set_option autoImplicit false
namespace PF
open PySem L2
section
variable {nm : Nm} {X : Cx} {M M' : List Addr} {H H' : Hp} {S S' S1 : Sto} {ρ : Env} {σ : L2.St} {Q : VK} {d : D}
theorem inB_ans (rs : RelS nm X.K X.mg M S H) {x y : D} {vx vy : V} {b : Bool} (hx : RelD X.K M H x vx) (hy : RelD X.K M H y vy) (h : inB x y S = some b) :
    (∃ p xs, vy = .ref p ∧ SqT X.K H p xs ∧ flatV vx = true ∧ xs.all flatV = true ∧ b = inV vx xs) ∨
    (∃ d ds, Dp X.K H vx d ∧ Dp X.K H vy (.list ds) ∧ SeqAt.shaped d = true ∧ SeqAt.shaped (.list ds) = true ∧ b = ds.any fun z => PyData.eqv z d) ∨
    (∃ c z, vx = .str ⟨#[c]⟩ ∧ vy = .str z ∧ b = decide (c ∈ z.cps.toList)) := by
  unfold inB at h
  cases y with
  | tup ds =>
    dsimp only at h
    split at h
    · rename_i c
      rw [Bool.and_eq_true] at c
      obtain ⟨a, vs, rfl, ha, qa⟩ := hy.tup
      unfold inTree at h
      split at h
      · rename_i j js e1 e2
        cases h
        exact .inl ⟨a, vs, rfl, ha, flat_of c.1 hx, flats_of c.2 qa, (inV_of c.1 hx e1 c.2 qa e2).symm⟩
      · cases h
    · cases h
  | str s =>
    cases x with
    | str t =>
      cases t with
      | nil => cases h
      | cons c r =>
        cases r with
        | nil =>
          cases h
          refine .inr (.inr ⟨c, strOf s, ?_, hy.str, ?_⟩)
          · rw [hx.str]; rfl
          · rw [strOf_toList, Bool.eq_iff_iff]
            simp
        | cons _ _ => cases h
    | _ => cases h
  | ref n =>
    dsimp only at h
    split at h
    · rename_i ds el
      unfold inTree at h
      split at h
      · rename_i j js e1 e2
        cases h
        obtain ⟨a, rfl, ha⟩ := hy.ref
        obtain ⟨vs, ka, qa⟩ := rs.lst ha el
        have t1 := told_of rs EQD x vx j hx e1
        have t2 := told_all (n := EQD) (told_of rs EQD) qa e2
        exact .inr (.inl ⟨_, _, t1.dp, .lst ka t2.dp, t1.shaped, t2.shaped, (any_py j js).symm⟩)
      · cases h
    · cases h
  | _ => cases h
theorem op_inA (hu : X.A.units + 65 < cLine) : OpR X (compareOp .In) (rInA X.K) := OpR.or (OpR.or op_in_seq (op_inD hu)) op_in_sign
theorem op_notInA (hu : X.A.units + 65 < cLine) : OpR X (compareOp .NotIn) (rNotInA X.K) := OpR.or (OpR.or op_notIn_seq (op_notInD hu)) op_notIn_sign
theorem op2_in : Op2 nm X (rInA X.K) gIn := by
  intro M S H x y vx vy d S' Q rs hx hy h k
  unfold gIn at h
  split at h
  · rename_i b hb
    cases h
    rcases inB_ans rs hx hy hb with ⟨p, xs, e1, e2, e3, e4, e⟩ | ⟨d, ds, e1, e2, e3, e4, e⟩ | ⟨c, z, e1, e2, e⟩
    · exact .inl (.inl ⟨p, xs, e1, .inr e2, e3, e4, by rw [if_neg Bool.false_ne_true, ← e]; exact k.here rs .mkB⟩)
    · exact .inl (.inr ⟨d, ds, e1, e2, e3, e4, by rw [← e]; exact k.here rs .mkB⟩)
    · exact .inr ⟨c, z, e1, e2, by rw [← e]; exact k.here rs .mkB⟩
  · cases h
theorem op2_notIn : Op2 nm X (rNotInA X.K) gNotIn := by
  intro M S H x y vx vy d S' Q rs hx hy h k
  unfold gNotIn at h
  split at h
  · rename_i b hb
    cases h
    rcases inB_ans rs hx hy hb with ⟨p, xs, e1, e2, e3, e4, e⟩ | ⟨d, ds, e1, e2, e3, e4, e⟩ | ⟨c, z, e1, e2, e⟩
    · exact .inl (.inl ⟨p, xs, e1, .inr e2, e3, e4, by rw [if_pos rfl, ← e]; exact k.here rs .mkB⟩)
    · exact .inl (.inr ⟨d, ds, e1, e2, e3, e4, by rw [← e]; exact k.here rs .mkB⟩)
    · exact .inr ⟨c, z, e1, e2, by rw [← e]; exact k.here rs .mkB⟩
  · cases h
theorem at_rel {K : PySem.W.Frag} {ds : List D} {vs : List V} {i : Int} (q : RelDs K M H ds vs) (h : at? ds i = some d) : ∃ v, atI vs i = some v ∧ RelD K M H d v := by
  unfold at? at h
  cases e : PF.ixN ds.length i with
  | none => rw [e] at h; cases h
  | some j =>
    rw [e] at h
    obtain ⟨v, h1, h2⟩ := q.get (show ds[j]? = some d from h)
    refine ⟨v, ?_, h2⟩
    unfold atI
    rw [← q.length, show L2.ixN ds.length i = some j from e]
    exact h1
theorem op2_ix : Op2 nm X (rIx X.K) gIx := by
  intro M S H x y vx vy d S' Q rs hx hy h k
  unfold gIx at h
  cases x with
  | tup ds =>
    cases y with
    | int i =>
      dsimp only at h
      split at h
      · rename_i e
        cases h
        obtain ⟨a, vs, rfl, ha, qa⟩ := hx.tup
        obtain ⟨v, h1, h2⟩ := at_rel qa e
        rw [hy.int]
        exact .inr (.inl ⟨a, vs, i, v, rfl, rfl, ha, h1, k.here rs h2⟩)
      · cases h
    | _ => cases h
  | str s =>
    cases y with
    | int i =>
      dsimp only at h
      split at h
      · rename_i c
        split at h
        · rename_i cc e
          cases h
          rw [hx.str, hy.int]
          refine .inr (.inr ⟨strOf s, i, cc, rfl, rfl, by rw [strOf_len, ← LIM_eq]; exact c, ?_, k.here rs .mkS⟩)
          rw [strOf_toList]
          exact e
        · cases h
      · cases h
    | _ => cases h
  | ref n =>
    cases y with
    | int i =>
      dsimp only at h
      split at h
      · rename_i ds el
        split at h
        · rename_i e
          cases h
          obtain ⟨a, rfl, ha⟩ := hx.ref
          obtain ⟨vs, ka, qa⟩ := rs.lst ha el
          obtain ⟨v, h1, h2⟩ := at_rel qa e
          rw [hy.int]
          exact .inl ⟨a, vs, i, v, rfl, rfl, ka, h1, k.here rs h2⟩
        · cases h
      · cases h
    | _ => cases h
  | _ => cases h
theorem px_ix {a b : Expr} {f g : E} {pos : Pos} (ha : PX nm X a f) (hb : PX nm X b g) (hs : PlainIx b) : PX nm X (.Subscript a b pos) (e2 gIx f g) := px_e2 (a := a) (b := b) (pe_ix ix_seq ha hb hs) op2_ix
theorem pxo_none : PXO nm X none oNone := PO.imp po_none fun σ H Q ⟨M, ρ, S, d, S', rs, re, h, k⟩ => by
  unfold oNone at h
  cases h
  exact k M H Ext.refl rs
theorem pxo_some {a : Expr} {f : E} (ha : PX nm X a f) : PXO nm X (some a) (oSome f) := PO.imp (po_some ha) fun σ H Q ⟨M, ρ, S, d, S', rs, re, h, k⟩ => by
  unfold oSome at h
  obtain ⟨x, S1, h1, h⟩ := bind_inv h
  refine rE.go rs re h1 fun M1 H1 v e1 r1 q1 => ?_
  cases x with
  | int i => cases h; exact ⟨i, q1.int, k M1 H1 e1 r1⟩
  | _ => cases h
theorem SlR.or {r r' : V → Option Int → Option Int → Hp → VK → Prop} (h : SlR X r) (h' : SlR X r') : SlR X fun x lo hi H Q => r x lo hi H Q ∨ r' x lo hi H Q := by
  intro pins s σ H x v vl vu lo hi sl Q I rx hs pl pu q
  rcases q with q | q
  · exact h pins s σ H x v vl vu lo hi sl Q I rx hs pl pu q
  · exact h' pins s σ H x v vl vu lo hi sl Q I rx hs pl pu q
theorem sIx_eq (n d : Nat) (o : Option Int) : HT.sIx n d o = PF.sIx n d o := by cases o <;> rfl
theorem cut_rel {K : PySem.W.Frag} {ds : List D} {vs : List V} (q : RelDs K M H ds vs) (lo hi : Option Int) : RelDs K M H (cut ds lo hi) (cutV vs lo hi) := by
  unfold cut cutV
  rw [sIx_eq, sIx_eq, ← q.length]
  exact (q.drop _).take _
theorem cutS_of (z : List Nat) (i j : Option Int) : cutS (strOf z) i j = strOf (cut z i j) := by
  unfold cutS cut strOf
  rw [sIx_eq, sIx_eq]
  simp [Str.length]
theorem px_slice {a : Expr} {lo hi : Option Expr} {f : E} {l u : O} {p2 pos : Pos} (ha : PX nm X a f) (hl : PXO nm X lo l) (hh : PXO nm X hi u) : PX nm X (.Subscript a (.Slice lo hi none p2) pos) (eSlice f l u) :=
  PE.imp (pe_slice (SlR.or (SlR.or sl_list sl_tupA) sl_str) ha hl hh) fun σ H Q ⟨M, ρ, S, d, S', rs, re, h, k⟩ => by
    unfold eSlice at h
    obtain ⟨x, S1, h1, h⟩ := bind_inv h
    obtain ⟨i, S2, h2, h⟩ := bind_inv h
    obtain ⟨j, S3, h3, h⟩ := bind_inv h
    refine rE.go rs re h1 fun M1 H1 v e1 r1 q1 => ?_
    refine ⟨M1, ρ, S1, i, S2, r1, re.ext rs e1, h2, fun M2 H2 e2 r2 => ?_⟩
    refine ⟨M2, ρ, S2, j, S3, r2, (re.ext rs e1).ext r1 e2, h3, fun M3 H3 e3 r3 => ?_⟩
    have q3 := RelD.ext r2 e3 (RelD.ext r1 e2 q1)
    have kk := k.ext ((e1.trans e2).trans e3)
    unfold gSlice at h
    cases x with
    | tup ds =>
      cases h
      obtain ⟨a, vs, rfl, ha, qa⟩ := q3.tup
      refine .inl (.inr ⟨a, vs, rfl, ha, fun w => ?_, fun w p hp => kk.tup r3 (cut_rel qa i j) hp⟩)
      refine kk.here r3 ?_
      have e : cutV vs i j = vs := by
        unfold cutV
        rw [w.1, w.2]
        simp
      have z := cut_rel qa i j
      rw [e] at z
      unfold RelD
      exact ⟨a, vs, rfl, ha, z⟩
    | ref n =>
      dsimp only at h
      split at h
      · rename_i ds el
        cases h
        obtain ⟨a, rfl, ha⟩ := q3.ref
        obtain ⟨vs, ka, qa⟩ := r3.lst ha el
        exact .inl (.inl ⟨a, vs, rfl, ka, fun p hp => kk.push r3 (cut_rel qa i j) hp⟩)
      · cases h
    | str z =>
      dsimp only at h
      split at h
      · rename_i c
        cases h
        rw [q3.str]
        refine .inr ⟨strOf z, rfl, by rw [strOf_len, ← LIM_eq]; exact c, ?_⟩
        rw [cutS_of]
        exact kk.here r3 .mkS
      · cases h
    | _ => cases h
theorem rA.go {f : A} {P : List V → Hp → Prop} {ds : List D} (r : RelS nm X.K X.mg M S H) (e : RelE X.K M H ρ σ) (h : f ρ S = .ok ds S1)
    (k : ∀ M1 H1 vs, Ext M H M1 H1 → RelS nm X.K X.mg M1 S1 H1 → RelDs X.K M1 H1 ds vs → P vs H1) : rA nm X f σ H P := ⟨M, ρ, S, ds, S1, r, e, h, k⟩
theorem px_cb {e : Expr} {r : List V → Hp → VK → Prop} {fa : A} {g : Fn} (h : PE X e (tCB r (rA nm X fa))) (hg : OpN nm X r g) : PX nm X e (eCall g fa) :=
  PE.imp h fun σ H Q ⟨M, ρ, S, d, S', rs, re, h, k⟩ => by
    unfold eCall at h
    obtain ⟨xs, S1, h1, h⟩ := bind_inv h
    exact rA.go rs re h1 fun M1 H1 vs e1 r1 q1 => hg M1 S1 H1 xs vs d S' Q r1 q1 h (k.ext e1)
theorem RelDs.one {K : PySem.W.Frag} {x : D} {vs : List V} (h : RelDs K M H [x] vs) : ∃ v, vs = [v] ∧ RelD K M H x v := by
  unfold RelDs at h
  obtain ⟨v, q, rfl, h1, h2⟩ := h
  unfold RelDs at h2
  subst h2
  exact ⟨v, rfl, h1⟩
theorem RelDs.two {K : PySem.W.Frag} {x y : D} {vs : List V} (h : RelDs K M H [x, y] vs) : ∃ v u, vs = [v, u] ∧ RelD K M H x v ∧ RelD K M H y u := by
  unfold RelDs at h
  obtain ⟨v, q, rfl, h1, h2⟩ := h
  obtain ⟨u, rfl, h3⟩ := h2.one
  exact ⟨v, u, rfl, h1, h3⟩
theorem seq_of (rs : RelS nm X.K X.mg M S H) {x : D} {v : V} {ds : List D} (q : RelD X.K M H x v) (h : seqOf x S = some ds) : ∃ a vs, v = .ref a ∧ (SqL X.K H a vs ∨ SqT X.K H a vs) ∧ RelDs X.K M H ds vs := by
  unfold seqOf at h
  cases x with
  | tup es => cases h; obtain ⟨a, vs, rfl, ha, qa⟩ := q.tup; exact ⟨a, vs, rfl, .inr ha, qa⟩
  | ref n =>
    obtain ⟨a, rfl, ha⟩ := q.ref
    obtain ⟨vs, ka, qa⟩ := rs.lst ha (show lstOf n S = some ds from h)
    exact ⟨a, vs, rfl, .inl ka, qa⟩
  | _ => cases h
theorem CallR.or {f : Value} {r r' : List V → Hp → VK → Prop} (h : CallR X f r) (h' : CallR X f r') : CallR X f fun xs H Q => r xs H Q ∨ r' xs H Q := by
  intro pins s σ H xs us Q I rv q
  rcases q with q | q
  · exact h pins s σ H xs us Q I rv q
  · exact h' pins s σ H xs us Q I rv q
theorem opn_len : OpN nm X (fun xs H Q => ∃ x n, xs = [x] ∧ LenV X.K x H n ∧ Q (.int n) H) fLen := by
  intro M S H xs vs d S' Q rs q h k
  unfold fLen at h
  split at h
  · rename_i ds
    cases h
    obtain ⟨v, rfl, q1⟩ := q.one
    obtain ⟨a, vs, rfl, ha, qa⟩ := q1.tup
    exact ⟨_, ds.length, rfl, .inr ⟨vs, ha, qa.length⟩, k.here rs .mkI⟩
  · rename_i s
    split at h
    · rename_i c
      cases h
      obtain ⟨v, rfl, q1⟩ := q.one
      rw [q1.str]
      exact ⟨_, s.length, rfl, ⟨by rw [strOf_len, ← LIM_eq]; exact c, rfl⟩, k.here rs .mkI⟩
    · cases h
  · rename_i n
    split at h
    · rename_i ds el
      cases h
      obtain ⟨v, rfl, q1⟩ := q.one
      obtain ⟨a, rfl, ha⟩ := q1.ref
      obtain ⟨vs, ka, qa⟩ := rs.lst ha el
      exact ⟨_, ds.length, rfl, .inl ⟨vs, ka, qa.length⟩, k.here rs .mkI⟩
    · cases h
  · cases h
theorem opn_int : OpN nm X (fun xs H Q => (∃ i, xs = [.int i] ∧ Q (.int i) H) ∨ ∃ k, xs = [.bl k] ∧ Q (.int (if k then 1 else 0)) H) fInt := by
  intro M S H xs vs d S' Q rs q h k
  unfold fInt at h
  split at h
  · cases h
    obtain ⟨v, rfl, q1⟩ := q.one
    rw [q1.int]
    exact .inl ⟨_, rfl, k.here rs .mkI⟩
  · cases h
    obtain ⟨v, rfl, q1⟩ := q.one
    rw [q1.bl]
    exact .inr ⟨_, rfl, k.here rs .mkI⟩
  · cases h
theorem opn_min : OpN nm X (fun xs H Q => ∃ i j, xs = [.int i, .int j] ∧ Q (.int (if j < i then j else i)) H) fMin := by
  intro M S H xs vs d S' Q rs q h k
  unfold fMin at h
  split at h
  · cases h
    obtain ⟨v, u, rfl, q1, q2⟩ := q.two
    rw [q1.int, q2.int]
    exact ⟨_, _, rfl, k.here rs .mkI⟩
  · cases h
theorem opn_list : OpN nm X (fun xs H Q => ∃ p ys, xs = [.ref p] ∧ (SqL X.K H p ys ∨ SqT X.K H p ys) ∧ ∀ l, H l = none → Q (.ref l) (upd H l (.lst ys))) fList := by
  intro M S H xs vs d S' Q rs q h k
  unfold fList at h
  split at h
  · split at h
    · rename_i ds es
      cases h
      obtain ⟨v, rfl, q1⟩ := q.one
      obtain ⟨a, vs, rfl, ha, qa⟩ := seq_of rs q1 es
      exact ⟨a, vs, rfl, ha, fun l hl => k.push rs qa hl⟩
    · cases h
  · cases h
theorem opn_tuple : OpN nm X (fun xs H Q => ∃ p ys, xs = [.ref p] ∧ ((SqL X.K H p ys ∧ ∀ l, H l = none → Q (.ref l) (upd H l (.tup ys))) ∨ (SqT X.K H p ys ∧ Q (.ref p) H))) fTuple := by
  intro M S H xs vs d S' Q rs q h k
  unfold fTuple at h
  split at h
  · split at h
    · rename_i ds es
      cases h
      obtain ⟨v, rfl, q1⟩ := q.one
      obtain ⟨a, vs, rfl, ha, qa⟩ := seq_of rs q1 es
      refine ⟨a, vs, rfl, ?_⟩
      rcases ha with ha | ha
      · exact .inl ⟨ha, fun l hl => k.tup rs qa hl⟩
      · refine .inr ⟨ha, k.here rs ?_⟩
        unfold RelD
        exact ⟨a, vs, rfl, ha, qa⟩
    · cases h
  · cases h
theorem ins_perm {α : Type} (lt : α → α → Bool) (x : α) : ∀ l : List α, (ins lt x l).Perm (x :: l)
  | [] => .refl _
  | y :: ys => by
    unfold ins
    split
    · exact ((ins_perm lt x ys).cons y).trans (.swap x y ys)
    · exact .refl _
theorem sortBy_perm {α : Type} (lt : α → α → Bool) : ∀ l : List α, (sortBy lt l).Perm l
  | [] => .refl _
  | x :: xs => (ins_perm lt x _).trans ((sortBy_perm lt xs).cons x)
theorem ins_sorted (x : Int) : ∀ l : List Int, l.Pairwise (· ≤ ·) → (ins (fun a b => decide (a < b)) x l).Pairwise (· ≤ ·)
  | [], _ => by simp [ins]
  | y :: ys, h => by
    unfold ins
    rw [List.pairwise_cons] at h
    split
    · rename_i c
      have c' : y < x := of_decide_eq_true c
      refine List.pairwise_cons.mpr ⟨fun z hz => ?_, ins_sorted x ys h.2⟩
      rcases List.mem_cons.mp ((ins_perm _ x ys).mem_iff.mp hz) with e | e
      · omega
      · exact h.1 z e
    · rename_i c
      have c' : ¬ y < x := fun e => c (decide_eq_true e)
      refine List.pairwise_cons.mpr ⟨fun z hz => ?_, List.pairwise_cons.mpr h⟩
      rcases List.mem_cons.mp hz with e | e
      · omega
      · have := h.1 z e; omega
theorem sortI_sorted : ∀ l : List Int, (sortI l).Pairwise (· ≤ ·)
  | [] => .nil
  | x :: xs => ins_sorted x _ (sortI_sorted xs)
theorem sorted_uniq {l m : List Int} (hl : l.Pairwise (· ≤ ·)) (hm : m.Pairwise (· ≤ ·)) (p : l.Perm m) : l = m := p.eq_of_pairwise (fun a b _ _ h1 h2 => Int.le_antisymm h1 h2) hl hm
theorem ints_rel {K : PySem.W.Frag} : ∀ {ds : List D} {vs : List V} {is : List Int}, RelDs K M H ds vs → intsOf ds = some is → vs = is.map V.int
  | [], _, _, q, h => by unfold RelDs at q; subst q; unfold intsOf at h; cases h; rfl
  | d :: ds, _, _, q, h => by
    unfold RelDs at q
    obtain ⟨v, r, rfl, q1, q2⟩ := q
    unfold intsOf at h
    cases d with
    | int i =>
      dsimp only at h
      cases e : intsOf ds with
      | none => rw [e] at h; cases h
      | some js =>
        rw [e] at h
        cases h
        rw [q1.int, ints_rel q2 e]
        rfl
    | _ => cases h
theorem rel_ints {K : PySem.W.Frag} : ∀ is : List Int, RelDs K M H (is.map D.int) (is.map V.int)
  | [] => .nil
  | i :: is => .cons .mkI (rel_ints is)
/-- sorted(x) of numbers -/
theorem opn_sortedI : OpN nm X (rSortedI X.K) fSortedI := by
  intro M S H xs vs d S' Q rs q h k
  unfold fSortedI at h
  split at h
  · split at h
    · rename_i ds es
      split at h
      · rename_i is ei
        cases h
        obtain ⟨v, rfl, q1⟩ := q.one
        obtain ⟨a, rfl, ha⟩ := q1.ref
        obtain ⟨vs, ka, qa⟩ := rs.lst ha es
        have e := ints_rel qa ei
        subst e
        refine ⟨a, is, rfl, ka, fun ns p hp hs hn => ?_⟩
        have e : ns = sortI is := sorted_uniq hs (sortI_sorted is) (hp.trans (sortBy_perm _ is).symm)
        subst e
        exact k.push rs (rel_ints _) hn
      · cases h
    · cases h
  · cases h
def kName : Kind → String
  | .tup => "tuple" | .int => "int" | .bool => "bool" | .str => "str" | .lst => "list"
theorem sqT_ty {K : PySem.W.Frag} {a : Addr} {vs : List V} (h : SqT K H a vs) : TyX K H (.ref a) (.type "tuple") := by
  rcases h with (h | ⟨o, h⟩) | ⟨o, its, n, h, c, _⟩
  · exact .base (.tup h)
  · exact .fTuple h
  · exact .kTuple h c
theorem sqL_ty {K : PySem.W.Frag} {a : Addr} {vs : List V} (h : SqL K H a vs) : TyX K H (.ref a) (.type "list") := by
  rcases h with (h | ⟨o, h⟩) | ⟨o, its, n, h, c, _⟩
  · exact .base (.lst h)
  · exact .base (.frz h)
  · exact .kList h c
theorem isK_ans (rs : RelS nm X.K X.mg M S H) {x : D} {v : V} {k : Kind} {b : Bool} (q : RelD X.K M H x v) (h : isK k x S = some b) : ∃ t, TyX X.K H v (.type t) ∧ kitB t (kName k) = some b := by
  unfold isK at h
  cases x with
  | non => cases h; unfold RelD at q; subst q; exact ⟨_, .base .non, by cases k <;> decide +kernel⟩
  | bl c => cases h; rw [q.bl]; exact ⟨_, .base (.bl c), by cases k <;> decide +kernel⟩
  | int c => cases h; rw [q.int]; exact ⟨_, .base (.int c), by cases k <;> decide +kernel⟩
  | str c => cases h; rw [q.str]; exact ⟨_, .base (.str _), by cases k <;> decide +kernel⟩
  | tup ds => cases h; obtain ⟨a, vs, rfl, ha, qa⟩ := q.tup; exact ⟨_, sqT_ty ha, by cases k <;> decide +kernel⟩
  | ref n =>
    dsimp only at h
    split at h
    · rename_i ds el
      cases h
      obtain ⟨a, rfl, ha⟩ := q.ref
      obtain ⟨vs, ka, qa⟩ := rs.lst ha el
      exact ⟨_, sqL_ty ka, by cases k <;> decide +kernel⟩
    · cases h
theorem boot_ty (k : Kind) : bootBuiltins (kName k : Str) = some (.type (kName k)) := by cases k <;> decide +kernel
/-- isinstance(x, T) -/
theorem px_isi {a : Expr} {f : E} (k : Kind) {p p2 pos : Pos} {kn : String} (ek : kn = kName k) (ha : PX nm X a f) (hg : Gl X "isinstance") (hm : X.mg "isinstance" = none) (hg2 : Gl X (Str.ofString kn)) (hm2 : X.mg (Str.ofString kn) = none)
    (he : starEach [a, .Name (Str.ofString kn) p2] X.env = (false, eval a X.env) :: starEach [.Name (Str.ofString kn) p2] X.env) (he2 : starEach [.Name (Str.ofString kn) p2] X.env = (false, eval (.Name (Str.ofString kn) p2) X.env) :: starEach [] X.env)
    (hpl : (backTo pos (starEach [.Name (Str.ofString kn) p2] X.env)).any (·.1) = false) :
    PX nm X (.Call (.Name "isinstance" p) [a, .Name (Str.ofString kn) p2] [] pos) (e1 (gIs k) f) := by
  subst ek
  have h2 : PE X (.Name (Str.ofString (kName k)) p2) (tC (.ty (kName k))) := pe_bltn (u := .type (kName k)) hg2 hm2 (boot_ty k) rfl (by cases k <;> decide +kernel) (by cases k <;> decide +kernel)
  refine PE.imp (pe_callB call_isi hg hm (by decide +kernel) (pa_cons ha (pa_cons h2 pa_nil he2) he) (by decide +kernel) (by decide +kernel) he hpl) fun σ H Q ⟨M, ρ, S, d, S', rs, re, h, kk⟩ => ?_
  unfold e1 at h
  obtain ⟨x, S1, h1, h⟩ := bind_inv h
  refine rE.go rs re h1 fun M1 H1 v e1 r1 q1 => ?_
  unfold gIs at h
  split at h
  · rename_i b eb
    cases h
    obtain ⟨t, ty, ek⟩ := isK_ans r1 q1 eb
    exact ⟨v, .ty (kName k), .type t, .type (kName k), b, rfl, .ty _, ty, kit_ty ek, kk _ _ _ e1 r1 .mkB⟩
  · cases h
end
end PF
end
section
set_option linter.all false
set_option Elab.async false
set_option linter.all false
set_option maxRecDepth 100003
set_option maxHeartbeats 2000003
set_option autoImplicit false
namespace PF
open PySem L2
section
variable {nm : Nm} {X : Cx} {M M' : List Addr} {H H' : Hp} {S S' S1 : Sto} {ρ : Env} {σ : L2.St} {Q : VK} {d : D}
/-- a list is another one -/
theorem KD.setL {n : Nat} {a : Addr} {ds : List D} {vs : List V} {r : D} {v : V} (k : KD nm X M H (S.set n (.lst ds)) r Q) (rs : RelS nm X.K X.mg M S H) (hn : M[n]? = some a) {us : List V} (h0 : H a = some (.lst us)) (q : RelDs X.K M H ds vs) (qr : RelD X.K M H r v) : Q v (upd H a (.lst vs)) := by
  have e : Ext M H M (upd H a (.lst vs)) := Ext.set (List.mem_of_getElem? hn) h0 (fun _ _ z => nomatch z)
  exact k _ _ _ e (rs.set hn h0 (fun _ _ z => nomatch z) ⟨vs, upd_same, RelDs.ext rs e q⟩) (RelD.ext rs e qr)
theorem tyV_of (rs : RelS nm X.K X.mg M S H) {x : D} {v : V} (q : RelD X.K M H x v) (h : isL x S = true) : tyV X.K "list" v H := by
  unfold isL at h
  cases x with
  | ref n =>
    obtain ⟨a, rfl, ha⟩ := q.ref
    cases e : wrOf n S with
    | none => simp [e] at h
    | some ds =>
      obtain ⟨vs, ka, qa⟩ := lst_wr rs ha (wr_lst e)
      exact .inl ⟨rfl, vs, .inl (.inl ka)⟩
  | _ => cases h
def OpM1 (nm : Nm) (X : Cx) (r : V → List V → Hp → VK → Prop) (g : D → D → PF.M D) : Prop := ∀ (M : List Addr) (S : Sto) (H : Hp) (x y : D) (vx vy : V) (d : D) (S' : Sto) (Q : VK), RelS nm X.K X.mg M S H → RelD X.K M H x vx → RelD X.K M H y vy → g x y S = .ok d S' → KD nm X M H S' d Q → r vx [vy] H Q
theorem px_m1 {e : Expr} {r : V → List V → Hp → VK → Prop} {g : D → D → PF.M D} {f fa : E} (h : PE X e (tBM X.K "list" r (rE nm X f) (tCons (rE nm X fa) tNil))) (hg : OpM1 nm X r g) : PX nm X e (eM1 g f fa) :=
  PE.imp h fun σ H Q ⟨M, ρ, S, d, S', rs, re, h, k⟩ => by
    unfold eM1 at h
    obtain ⟨x, S1, h1, h⟩ := bind_inv h
    refine rE.go rs re h1 fun M1 H1 v e1 r1 q1 => ?_
    split at h
    · rename_i c
      obtain ⟨y, S2, h2, h⟩ := bind_inv h
      refine ⟨tyV_of r1 q1 c, ?_⟩
      refine rE.go r1 (re.ext rs e1) h2 fun M2 H2 vy e2 r2 q2 => ?_
      exact hg M2 S2 H2 x y v vy d S' Q r2 (RelD.ext r1 e2 q1) q2 h (k.ext (e1.trans e2))
    · cases h
theorem opm_append : OpM1 nm X rAppend mAppend := by
  intro M S H x y vx vy d S' Q rs hx hy h k
  unfold mAppend at h
  cases x with
  | ref n =>
    dsimp only at h
    split at h
    · rename_i ds e
      split at h
      · rename_i c
        cases h
        obtain ⟨a, rfl, ha⟩ := hx.ref
        obtain ⟨vs, ka, qa⟩ := lst_wr rs ha (wr_lst e)
        refine ⟨a, vs, vy, rfl, rfl, ka, by rw [← qa.length, ← LIM_eq]; exact c, ?_⟩
        exact k.setL rs ha ka (qa.append (.cons hy .nil)) .mkN
      · cases h
    · cases h
  | _ => cases h
theorem opm_pop : OpM1 nm X rPopAt mPop := by
  intro M S H x y vx vy d S' Q rs hx hy h k
  unfold mPop at h
  cases x with
  | ref n =>
    cases y with
    | int i =>
      dsimp only at h
      split at h
      · rename_i ds e1
        split at h
        · rename_i c
          split at h
          · rename_i d' e2
            cases h
            obtain ⟨a, rfl, ha⟩ := hx.ref
            obtain ⟨vs, ka, qa⟩ := lst_wr rs ha (wr_lst e1)
            obtain ⟨v, h1, h2⟩ := qa.get e2
            rw [hy.int]
            have hl : i.toNat < vs.length := (List.getElem?_eq_some_iff.mp h1).1
            refine ⟨a, vs, i, i.toNat, v, rfl, rfl, ka, by omega, by omega, ?_, h1, ?_⟩
            · exact PySem.StrLaws.seqIndex_nonneg c.1 (by omega)
            · exact k.setL rs ha ka (qa.eraseIdx _) h2
          · cases h
        · cases h
      · cases h
    | _ => cases h
  | _ => cases h
theorem keyD_inj : ∀ {a b : Key}, keyD a = keyD b → a = b
  | .inl a, .inl b, h => by
    have e : a = b := by injection h
    rw [e]
  | .inl a, .inr b, h => by unfold keyD at h; exact nomatch h
  | .inr a, .inl b, h => by unfold keyD at h; exact nomatch h
  | .inr a, .inr b, h => by
    have e : a.cps.toList = b.cps.toList := by injection h
    congr 1
    rw [← strOf_cps a, ← strOf_cps b, e]
theorem key_of_D {x : D} {v : V} (h : keyOk x = true) (q : RelD X.K M H x v) : ∃ k : Key, x = keyD k ∧ v = kV k := by
  cases x with
  | int i => exact ⟨.inl i, rfl, q.int⟩
  | str s => exact ⟨.inr (strOf s), by show D.str s = D.str (strOf s).cps.toList; rw [strOf_toList], q.str⟩
  | _ => cases h
theorem dget_rel {K : PySem.W.Frag} : ∀ {kvs : List (D × D)} {ps : List (Key × V)} (k : Key), RelKs K M H kvs ps →
    (dget kvs (keyD k) = none ∧ valV ps k = none) ∨ ∃ d v, dget kvs (keyD k) = some d ∧ valV ps k = some v ∧ RelD K M H d v
  | [], _, k, q => by
    have e : _ = [] := q
    subst e
    exact .inl ⟨rfl, rfl⟩
  | p :: r, _, k, q => by
    obtain ⟨k', v, qs, rfl, hk, hv, q⟩ := q
    unfold dget valV
    rw [List.find?_cons, List.find?_cons]
    by_cases e : k' = k
    · subst e
      simp only [hk, decide_true]
      exact .inr ⟨p.2, v, rfl, rfl, hv⟩
    · have e1 : decide (p.1 = keyD k) = false := decide_eq_false (fun z => e (keyD_inj (hk.symm.trans z)))
      have e2 : decide (k' = k) = false := decide_eq_false e
      simp only [e1, e2]
      exact dget_rel k q
theorem RelKs.length {K : PySem.W.Frag} : ∀ {kvs : List (D × D)} {ps : List (Key × V)}, RelKs K M H kvs ps → kvs.length = ps.length
  | [], _, q => by have e : _ = [] := q; subst e; rfl
  | p :: r, _, q => by
    obtain ⟨k', v, qs, rfl, hk, hv, q⟩ := q
    simp [RelKs.length q]
theorem RelKs.any {K : PySem.W.Frag} (k : Key) : ∀ {kvs : List (D × D)} {ps : List (Key × V)}, RelKs K M H kvs ps → (kvs.any fun p => decide (p.1 = keyD k)) = ps.any fun p => decide (p.1 = k)
  | [], _, q => by have e : _ = [] := q; subst e; rfl
  | p :: r, _, q => by
    obtain ⟨k', v, qs, rfl, hk, hv, q⟩ := q
    rw [List.any_cons, List.any_cons, RelKs.any k q, hk]
    congr 1
    exact decide_eq_decide.mpr ⟨fun e => keyD_inj e, fun e => by have e : k' = k := e; rw [e]⟩
theorem RelKs.map {K : PySem.W.Frag} {d : D} {w : V} (k : Key) (r : RelD K M H d w) : ∀ {kvs : List (D × D)} {ps : List (Key × V)}, RelKs K M H kvs ps → RelKs K M H (kvs.map fun p => if p.1 = keyD k then (p.1, d) else p) (ps.map fun p => if p.1 = k then (p.1, w) else p)
  | [], _, q => by have e : _ = [] := q; subst e; exact rfl
  | p :: t, _, q => by
    obtain ⟨k', v, qs, rfl, hk, hv, q⟩ := q
    rw [List.map_cons, List.map_cons]
    by_cases e : k' = k
    · subst e
      rw [if_pos hk, if_pos rfl]
      exact ⟨k', w, _, rfl, hk, r, RelKs.map k' r q⟩
    · rw [if_neg (fun z => e (keyD_inj (hk.symm.trans z))), if_neg e]
      exact ⟨k', v, _, rfl, hk, hv, RelKs.map k r q⟩
theorem RelKs.snoc {K : PySem.W.Frag} {d : D} {w : V} (k : Key) (r : RelD K M H d w) : ∀ {kvs : List (D × D)} {ps : List (Key × V)}, RelKs K M H kvs ps → RelKs K M H (kvs ++ [(keyD k, d)]) (ps ++ [(k, w)])
  | [], _, q => by have e : _ = [] := q; subst e; exact ⟨k, w, [], rfl, rfl, r, rfl⟩
  | p :: t, _, q => by
    obtain ⟨k', v, qs, rfl, hk, hv, q⟩ := q
    exact ⟨k', v, _, rfl, hk, hv, RelKs.snoc k r q⟩
theorem RelKs.put {K : PySem.W.Frag} {kvs : List (D × D)} {ps : List (Key × V)} {d : D} {w : V} (k : Key) (q : RelKs K M H kvs ps) (r : RelD K M H d w) : RelKs K M H (dput kvs (keyD k) d) (putK ps k w) := by
  unfold dput putK
  rw [q.any k]
  split
  · exact q.map k r
  · exact q.snoc k r
theorem dic_rel (rs : RelS nm X.K X.mg M S H) {n : Nat} {a : Addr} {kvs : List (D × D)} (hn : M[n]? = some a) (h : dicOf n S = some kvs) : ∃ ps, H a = some (.dK ps) ∧ RelKs X.K M H kvs ps := rs.obj n a _ hn (dic_of h)
/-- d[k] -/
theorem px_dx {o i : Expr} {f g : E} {pos : Pos} (hu : X.A.units + 1 < cLine) (ho : PX nm X o f) (hi : PX nm X i g) (hs : NoSl i) : PX nm X (.Subscript o i pos) (e2 gDx f g) :=
  PE.imp (pe_dget hu ho hi hs) fun σ H Q ⟨M, ρ, S, d, S', rs, re, h, k⟩ => by
    unfold e2 at h
    obtain ⟨x, S1, h1, h⟩ := bind_inv h
    obtain ⟨y, S2, h2, h⟩ := bind_inv h
    refine rE.go rs re h1 fun M1 H1 vx e1 r1 q1 => ?_
    refine rE.go r1 (re.ext rs e1) h2 fun M2 H2 vy e2 r2 q2 => ?_
    have q1 := RelD.ext r1 e2 q1
    unfold gDx at h
    cases x with
    | ref n =>
      dsimp only at h
      split at h
      · rename_i kvs ek
        split at h
        · rename_i c
          split at h
          · rename_i d' ed
            cases h
            obtain ⟨a, rfl, ha⟩ := q1.ref
            obtain ⟨ps, ka, qa⟩ := dic_rel r2 ha ek
            obtain ⟨kk, rfl, rfl⟩ := key_of_D c q2
            rcases dget_rel kk qa with ⟨z, _⟩ | ⟨d2, v2, z1, z2, z3⟩
            · rw [z] at ed; cases ed
            · rw [z1] at ed
              cases ed
              refine ⟨a, v2, rfl, ?_, (k.ext (e1.trans e2)).here r2 z3⟩
              rw [← z2]
              exact DGet.k ka
          · cases h
        · cases h
      · cases h
    | _ => cases h
/-- d.get(k, x) -/
theorem px_get {o e g : Expr} {fo fe fg : E} {apos cpos : Pos} (hu : X.A.units + 1 < cLine) (ho : PX nm X o fo) (he : PX nm X e fe) (hg : PX nm X g fg) (m : M2 X o "get" apos e g cpos) : PX nm X (.Call (.Attribute o "get" apos) [e, g] [] cpos) (eGet fo fe fg) :=
  PE.imp (pe_dget2 hu ho he hg m) fun σ H Q ⟨M, ρ, S, d, S', rs, re, h, k⟩ => by
    unfold eGet at h
    obtain ⟨x, S1, h1, h⟩ := bind_inv h
    refine rE.go rs re h1 fun M1 H1 vx e1 r1 q1 => ?_
    cases x with
    | ref n =>
      dsimp only at h
      split at h
      · rename_i kvs0 ek0
        obtain ⟨y, S2, h2, h⟩ := bind_inv h
        obtain ⟨z, S3, h3, h⟩ := bind_inv h
        obtain ⟨a, rfl, ha⟩ := q1.ref
        obtain ⟨ps0, ka0, _⟩ := dic_rel r1 ha ek0
        refine ⟨a, rfl, .inl ⟨ps0, .inl ka0⟩, ?_⟩
        refine rE.go r1 (re.ext rs e1) h2 fun M2 H2 vy e2 r2 q2 => ?_
        refine rE.go r2 ((re.ext rs e1).ext r1 e2) h3 fun M3 H3 vz e3 r3 q3 => ?_
        split at h
        · rename_i kvs ek
          split at h
          · rename_i c
            cases h
            have ha3 := e3.get (e2.get ha)
            obtain ⟨ps, ka, qa⟩ := dic_rel r3 ha3 ek
            obtain ⟨kk, rfl, rfl⟩ := key_of_D c (RelD.ext r2 e3 q2)
            refine ⟨valV ps kk, DGet.k ka, ?_⟩
            have K3 := k.ext ((e1.trans e2).trans e3)
            rcases dget_rel kk qa with ⟨z1, z2⟩ | ⟨d2, v2, z1, z2, z3⟩
            · rw [z1] at K3
              rw [z2]
              exact K3.here r3 q3
            · rw [z1] at K3
              rw [z2]
              exact K3.here r3 z3
          · cases h
        · cases h
      · cases h
    | _ => cases h
/-- {k: v, ..} -/
theorem putAll_rel {K : PySem.W.Frag} : ∀ {kvs more : List (D × D)} {ps qs : List (Key × V)}, RelKs K M H kvs ps → RelKs K M H more qs → RelKs K M H (putAll kvs more) (mergeK ps qs)
  | kvs, [], ps, _, q, r => by have e : _ = [] := r; subst e; exact q
  | kvs, p :: more, ps, _, q, r => by
    obtain ⟨k', v, qs, rfl, hk, hv, r⟩ := r
    obtain ⟨pk, pd⟩ := p
    have hk' : pk = keyD k' := hk
    subst hk'
    have hv : RelD K M H pd v := hv
    exact putAll_rel (kvs := dput kvs (keyD k') pd) (ps := putK ps k' v) (q.put k' hv) r
theorem evPairs_len : ∀ {ps : List (E × E)} {ρ : Env} {S S' : Sto} {q : List (D × D)}, evPairs ps ρ S = .ok q S' → q.length = ps.length
  | [], _, _, _, _, h => by unfold evPairs at h; cases h; rfl
  | (k, v) :: r, _, _, _, _, h => by
    unfold evPairs at h
    obtain ⟨x, S1, h1, h⟩ := bind_inv h
    obtain ⟨y, S2, h2, h⟩ := bind_inv h
    split at h
    · obtain ⟨q, S3, h3, h⟩ := bind_inv h
      cases h
      simp [evPairs_len h3]
    · cases h
theorem pairs_read : ∀ {ps : List (E × E)} {M : List Addr} {H : Hp} {S S' : Sto} {ρ : Env} {σ : L2.St} {q : List (D × D)} {R : List (V × V) → Hp → Prop}, RelS nm X.K X.mg M S H → RelE X.K M H ρ σ → evPairs ps ρ S = .ok q S' →
    (∀ M' H' kvs, Ext M H M' H' → RelS nm X.K X.mg M' S' H' → RelKs X.K M' H' q kvs → R (kvs.map fun kv => (kV kv.1, kv.2)) H') → tPairs (ps.map fun p => (rE nm X p.1, rE nm X p.2)) σ H R
  | [], M, H, _, _, _, _, _, _, rs, re, h, k => by
    unfold evPairs at h
    cases h
    exact k M H [] Ext.refl rs rfl
  | (a, b) :: r, M, H, _, _, _, _, _, _, rs, re, h, k => by
    unfold evPairs at h
    obtain ⟨x, S1, h1, h⟩ := bind_inv h
    obtain ⟨y, S2, h2, h⟩ := bind_inv h
    split at h
    · rename_i c
      obtain ⟨q, S3, h3, h⟩ := bind_inv h
      cases h
      refine rE.go rs re h1 fun M1 H1 vx e1 r1 q1 => ?_
      refine rE.go r1 (re.ext rs e1) h2 fun M2 H2 vy e2 r2 q2 => ?_
      refine pairs_read r2 ((re.ext rs e1).ext r1 e2) h3 fun M3 H3 kvs e3 r3 q3 => ?_
      obtain ⟨kk, rfl, rfl⟩ := key_of_D c (RelD.ext r1 e2 q1)
      exact k M3 H3 ((kk, vy) :: kvs) ((e1.trans e2).trans e3) r3 ⟨kk, vy, kvs, rfl, rfl, RelD.ext r2 e3 q2, q3⟩
    · cases h
abbrev PXP (nm : Nm) (X : Cx) (pos : Pos) (keys : List (Option Expr)) (values : List Expr) (ps : List (E × E)) : Prop := PPs X pos keys values (ps.map fun p => (rE nm X p.1, rE nm X p.2))
theorem pxp_nil {pos : Pos} : PXP nm X pos [] [] [] := pps_nil
theorem pxp_cons {pos : Pos} {k v : Expr} {ks : List (Option Expr)} {vs : List Expr} {f g : E} {ps : List (E × E)} (hk : PX nm X k f) (hv : PX nm X v g) (hr : PXP nm X pos ks vs ps) : PXP nm X pos (some k :: ks) (v :: vs) ((f, g) :: ps) := pps_cons hk hv hr
theorem px_disp {pos : Pos} {keys : List (Option Expr)} {values : List Expr} {ps : List (E × E)} (h : PXP nm X pos keys values ps) (hall : keys.all (·.isSome) = true) (hl : keys.length = values.length) (h0 : keys ≠ []) (h15 : keys.length ≤ 15) (hp : ps.length ≤ 15) : PX nm X (.Dict keys values pos) (eDict ps) :=
  PE.imp (pe_disp h hall hl h0 h15) fun σ H Q ⟨M, ρ, S, d, S', rs, re, h, k⟩ => by
    unfold eDict at h
    obtain ⟨q, S1, h1, h⟩ := bind_inv h
    cases h
    intro p hp0
    have e0 : Ext M H M (upd H p (.dK [])) := Ext.tup hp0
    have r0 : RelS nm X.K X.mg M S (upd H p (.dK [])) := rs.tup hp0
    have np : p ∉ M := rs.fresh hp0
    refine pairs_read r0 (re.ext rs e0) h1 fun M1 H1 kvs e1 r1 q1 => ?_
    obtain ⟨hp1, np1⟩ := e1.kept np
    have hlen : kvs.length ≤ 15 := by rw [← q1.length, evPairs_len h1]; exact hp
    refine ⟨hp1, kvs, rfl, hlen, ?_⟩
    -- p is named from here on
    refine k _ _ _ (Ext.adopt hp0 e1 np) (r1.adopt np1 hp1 (fun _ z => nomatch z) (fun _ _ z => nomatch z) ⟨_, upd_same, putAll_rel (show RelKs X.K _ _ [] [] from rfl) (q1.mo (Mo.adopt hp1 (fun _ z => nomatch z) (fun _ _ z => nomatch z)))⟩) ?_
    unfold RelD
    exact ⟨p, rfl, r1.last⟩
end
end PF
end
section
set_option linter.all false
set_option Elab.async false
set_option linter.all false
set_option maxRecDepth 100003
set_option maxHeartbeats 2000003
set_option autoImplicit false
namespace PF
open PySem L2 PyProof.Rows
/-- what an iterator goes over -/
inductive Sr where
  | lst (a : Addr) | tup (a : Addr) | txt (x : Str)
def Sr.at_ (K : PySem.W.Frag) (H : Hp) : Sr → List V → Prop
  | .lst a, xs => SqL K H a xs
  | .tup a, xs => SqT K H a xs
  | .txt x, xs => xs = x.cps.toList.map fun c => V.str ⟨#[c]⟩
/-- its iterator at it, ahead of turn i -/
def Sr.own (it : Addr) : Sr → Nat → Heap → Prop
  | .lst a, i, h => h.IsListIter it a i
  | .tup a, i, h => h.IsTupleIter it a i
  | .txt x, i, h => ∃ t, h.IsStrIter it (strIterType x) x t i
def Sr.val : Sr → V
  | .lst a => .ref a
  | .tup a => .ref a
  | .txt x => .str x
theorem Sr.own_at {it : Addr} {sr : Sr} {i : Nat} {h h' : Heap} (o : sr.own it i h) (k : ∀ ob, h.get? it = some ob → h'.get? it = some ob) : sr.own it i h' := by
  cases sr with
  | lst a => exact Heap.IsListIter.at o k
  | tup a => exact Heap.IsTupleIter.at o k
  | txt x =>
    obtain ⟨t, o, ho, r⟩ := o
    exact ⟨t, o, k o ho, r⟩
theorem Sr.own_obj {it : Addr} {sr : Sr} {i : Nat} {h : Heap} (o : sr.own it i h) : ∃ ob, h.get? it = some ob ∧ (∃ fs, ob.data = .fields fs) ∧ ob.cls ≠ .type "list" ∧ ob.cls ≠ .type "tuple" := by
  cases sr with
  | lst a => obtain ⟨ob, ho, hc, hd⟩ := o; exact ⟨ob, ho, ⟨_, hd⟩, by rw [hc]; decide, by rw [hc]; decide⟩
  | tup a => obtain ⟨ob, ho, hc, hd⟩ := o; exact ⟨ob, ho, ⟨_, hd⟩, by rw [hc]; decide, by rw [hc]; decide⟩
  | txt x =>
    obtain ⟨t, ob, ho, hc, hd⟩ := o
    refine ⟨ob, ho, ⟨_, hd⟩, ?_, ?_⟩
    · rw [hc]; unfold strIterType; split <;> decide
    · rw [hc]; unfold strIterType; split <;> decide
theorem known_l {X : Cx} {pins : List (Addr × Obj)} {σ : L2.St} {H : Hp} {s : Shared} {a : Addr} {xs : List V} (I : Inv X pins σ H s) (h : SqL X.K H a xs) : (∃ o, H a = some o) ∨ ∃ o, X.base.get? a = some o := by
  rcases h with (h | ⟨o, h⟩) | ⟨o, its, n, h, _⟩
  · exact .inl ⟨_, h⟩
  · exact .inl ⟨_, h⟩
  · exact .inr ⟨o, I.ok.mod.kin a o h⟩
theorem known_t {X : Cx} {pins : List (Addr × Obj)} {σ : L2.St} {H : Hp} {s : Shared} {a : Addr} {xs : List V} (I : Inv X pins σ H s) (h : SqT X.K H a xs) : (∃ o, H a = some o) ∨ ∃ o, X.base.get? a = some o := by
  rcases h with (h | ⟨o, h⟩) | ⟨o, its, n, h, _⟩
  · exact .inl ⟨_, h⟩
  · exact .inl ⟨_, h⟩
  · exact .inr ⟨o, I.ok.mod.kin a o h⟩
/-- an iterator's own cell is no such thing -/
theorem not_known {X : Cx} {pins : List (Addr × Obj)} {σ : L2.St} {H : Hp} {s : Shared} {a c : Addr} (I : Inv X pins σ H s) (f : FpOk X pins H c) (h : (∃ o, H a = some o) ∨ ∃ o, X.base.get? a = some o) : a ≠ c := fun e => by
  subst e
  obtain ⟨f0, _, _, f3, _⟩ := f
  rcases h with ⟨o, h⟩ | ⟨o, h⟩
  · rw [f0] at h; cases h
  · rcases f3 with f3 | f3
    · exact I.ok.noex a o h f3
    · exact absurd (Nat.lt_of_lt_of_le (Heap.lt_size h) (Nat.le_trans I.ok.bsz f3)) (Nat.lt_irrefl _)
/-- what it draws -/
theorem Sr.draws {X : Cx} {pins : List (Addr × Obj)} {σ : L2.St} {H : Hp} {s : Shared} {sr : Sr} {xs : List V} {it : Addr} {i : Nat} (I : Inv X pins σ H s) (hh : X.A.handled = none) (at_ : sr.at_ X.K H xs) (o : sr.own it i s.heap) :
    ∃ (fp : List Addr) (n : Nat) (P : Nat → Value → Prop) (St : Nat → Heap → Prop), Draws X.prog X.w X.A.in1 it fp n P St ∧ St i s.heap ∧ it ∈ fp ∧ n = xs.length ∧
      (∀ b ∈ fp, b = it ∨ ∃ ob, s.heap.get? b = some ob ∧ (ob.cls = .type "list" ∨ ob.cls = .type "tuple") ∧ ((∃ o, H b = some o) ∨ ∃ o, X.base.get? b = some o)) ∧ (∀ j u, P j u → ∃ x, xs[j]? = some x ∧ RelV x u) ∧ ∀ j h', St j h' → sr.own it j h' := by
  have hh' : X.A.in1.handled = none := hh
  cases sr with
  | lst a =>
    obtain ⟨its, rv, p, hz⟩ := I.list at_
    have hl : s.heap.IsList a its.toArray := p.isList
    have ne : a ≠ it := fun e => by
      obtain ⟨ob, ho, hc, _⟩ := o
      obtain ⟨ob2, ho2, hc2, _⟩ := hl
      rw [e, ho] at ho2
      cases ho2
      rw [hc] at hc2
      exact absurd hc2 (by decide)
    refine ⟨_, _, _, _, Draws.list hh' it a ne its.toArray, ⟨o, hl⟩, by simp, by rw [List.size_toArray]; exact rv.length.symm, fun b hb => ?_, fun j u hu => ?_, fun j h' st => st.1⟩
    · rcases List.mem_cons.mp hb with e | hb
      · exact .inl e
      · have e : b = a := by simpa using hb
        subst e
        obtain ⟨ob, ho, hc, _⟩ := hl
        exact .inr ⟨ob, ho, .inl hc, known_l I at_⟩
    · have hu' : its[j]? = some u := by simpa using hu
      cases e : xs[j]? with
      | none => rw [rv.none_of e] at hu'; cases hu'
      | some x =>
        obtain ⟨u2, h1, h2⟩ := rv.get e
        rw [h1] at hu'
        cases hu'
        exact ⟨x, rfl, h2⟩
  | tup a =>
    obtain ⟨its, rv, p, hz⟩ := I.tuple at_
    have hl : s.heap.IsTuple a its.toArray := p
    have ne : a ≠ it := fun e => by
      obtain ⟨ob, ho, hc, _⟩ := o
      obtain ⟨ob2, ho2, hc2, _⟩ := hl
      rw [e, ho] at ho2
      cases ho2
      rw [hc] at hc2
      exact absurd hc2 (by decide)
    refine ⟨_, _, _, _, Draws.tuple hh' it a ne its.toArray, ⟨o, hl⟩, by simp, by rw [List.size_toArray]; exact rv.length.symm, fun b hb => ?_, fun j u hu => ?_, fun j h' st => st.1⟩
    · rcases List.mem_cons.mp hb with e | hb
      · exact .inl e
      · have e : b = a := by simpa using hb
        subst e
        obtain ⟨ob, ho, hc, _⟩ := hl
        exact .inr ⟨ob, ho, .inr hc, known_t I at_⟩
    · have hu' : its[j]? = some u := by simpa using hu
      cases e : xs[j]? with
      | none => rw [rv.none_of e] at hu'; cases hu'
      | some x =>
        obtain ⟨u2, h1, h2⟩ := rv.get e
        rw [h1] at hu'
        cases hu'
        exact ⟨x, rfl, h2⟩
  | txt x =>
    obtain ⟨t, o⟩ := o
    have at' : xs = x.cps.toList.map fun c => V.str ⟨#[c]⟩ := at_
    subst at'
    refine ⟨_, _, _, _, Draws.text hh' it x t, o, by simp, by simp, fun b hb => .inl (by simpa using hb), fun j u hu => ?_, fun j h' st => ⟨t, st⟩⟩
    obtain ⟨c, tk, h1, rfl⟩ := hu
    exact ⟨V.str ⟨#[c]⟩, by simp [h1], ⟨tk, rfl⟩⟩
theorem Sr.inj {X : Cx} {pins : List (Addr × Obj)} {σ : L2.St} {H : Hp} {s : Shared} {sr : Sr} {xs ys : List V} (I : Inv X pins σ H s) (h : sr.at_ X.K H xs) (h' : sr.at_ X.K H ys) : xs = ys := by
  cases sr with
  | lst a => exact I.list_inj h h'
  | tup a => exact I.tuple_inj h h'
  | txt x => exact (show xs = _ from h).trans (show ys = _ from h').symm
/-- it begins -/
theorem Sr.begins {X : Cx} {pins : List (Addr × Obj)} {σ : L2.St} {H : Hp} {s : Shared} {sr : Sr} {xs : List V} {u : Value} (I : Inv X pins σ H s) (at_ : sr.at_ X.K H xs) (ru : RelV sr.val u) :
    ∃ (o : Obj) (P : Heap → Prop), Begins u o P ∧ P s.heap ∧ ∀ (it : Addr) (h' : Heap), h'.get? it = some o → sr.own it 0 h' := by
  cases sr with
  | lst a =>
    cases ru
    obtain ⟨its, rv, p, hz⟩ := I.list at_
    exact ⟨_, _, begins_list a its.toArray, p.isList, fun it h' e => ⟨_, e, rfl, rfl⟩⟩
  | tup a =>
    cases ru
    obtain ⟨its, rv, p, hz⟩ := I.tuple at_
    exact ⟨_, _, begins_tuple a its.toArray, p, fun it h' e => ⟨_, e, rfl, rfl⟩⟩
  | txt x =>
    obtain ⟨t, rfl⟩ := ru
    exact ⟨_, _, begins_text x t, trivial, fun it h' e => ⟨t, _, e, rfl, rfl⟩⟩
/-- each item in a new pair -/
def ItE (K : PySem.W.Frag) (sr : Sr) : It :=
  ⟨fun i H => ∃ xs : List V, sr.at_ K H xs ∧ i < xs.length, fun i H v H' => ∃ T x, v = .ref T ∧ H T = none ∧ H' = upd H T (.tup [.int (i : Nat), x]) ∧ ∀ xs : List V, sr.at_ K H xs → xs[i]? = some x, fun i H => ∃ xs : List V, sr.at_ K H xs ∧ xs.length = i⟩
theorem turn_enumE {P : Program} {w : World} {K : PySem.W.Frag} {elts : List Expr} {kk : Nat} {tpos : Pos} (sr : Sr) (e it : Addr) :
    Turn P w K (.Tuple elts kk tpos) (ItE K sr) [e, it] e (fun i h => (∃ old, IsEnum h e it ((i : Nat) : Int) old) ∧ sr.own it i h ∧ e ≠ it) where
  mem := by simp
  obj := fun i h st b hb => by
    obtain ⟨⟨old, he⟩, ho, _⟩ := st
    have e' : b = e ∨ b = it := by simpa using hb
    rcases e' with z | z
    · rw [z]; exact ⟨_, he, fun v q => nomatch q⟩
    · obtain ⟨ob, h1, ⟨fs, h2⟩, _⟩ := Sr.own_obj (sr := sr) (i := i) ho
      rw [z]; exact ⟨ob, h1, fun v q => by rw [h2] at q; cases q⟩
  keep := fun i h h' st k => let ⟨⟨old, he⟩, hi, hne⟩ := st; ⟨⟨old, k e (by simp) _ he⟩, Sr.own_at (sr := sr) hi fun o q => k it (by simp) o q, hne⟩
  item := by
    intro X hP hw hK hc i pins s σ H E I hf st hg
    subst hP hw hK
    obtain ⟨⟨old, he⟩, hit, hne⟩ := st
    obtain ⟨xs, hq, hx⟩ := hg
    obtain ⟨fp, n, P, St, D, hst, mem, hn, hfp, hP, hSt⟩ := Sr.draws I (I.ok.hd hc) hq hit
    have hel : e < s.heap.objs.size := Heap.lt_size he
    have hil : it < s.heap.objs.size := by obtain ⟨_, q, _⟩ := Sr.own_obj (sr := sr) (i := i) hit; exact Heap.lt_size q
    have hef : e ∉ fp := fun hm => by
      rcases hfp e hm with z | ⟨ob, h1, h2⟩
      · exact hne z
      · rw [he] at h1
        cases h1
        rcases h2.1 with h2 | h2
        · exact absurd (show Value.type "enumerate" = .type "list" from h2) (by decide)
        · exact absurd (show Value.type "enumerate" = .type "tuple" from h2) (by decide)
    refine wpAny_pyNext_enum_itemD D he hst (by omega) hne hef fun u h' tk hu ho hit' hT hsz hk => ?_
    obtain ⟨x, hxu, ru⟩ := hP i u hu
    refine ⟨_, rfl, wpAny_letOwnedTupleGo_enum (s := { s with heap := h', toks := tk + 1 }) ho fun h'' he' sb => ?_⟩
    have hT2 : h''.get? s.heap.objs.size = some { cls := .type "tuple", data := .seq #[.int i tk, u] } := (sb.2 _ (Nat.ne_of_gt hel)).trans hT
    have new : ObjOk X.prog X.w (upd H s.heap.objs.size (.tup [.int (i : Nat), x])) h'' s.heap.objs.size (.tup [.int (i : Nat), x]) :=
      ⟨by show 2 ≤ sizeLine; decide, [.int i tk, u], .cons ⟨_, rfl⟩ (.cons ru .nil), ⟨_, hT2, rfl, _, rfl⟩⟩
    have I1 : Inv X pins σ (upd H s.heap.objs.size (.tup [.int (i : Nat), x])) { s with heap := h'', toks := tk + 1 } :=
      I.turnedNew (ch := [e, it]) (fun b ob hb q => (sb.2 b (fun z => hb (by simp [z]))).trans (hk b ob (fun z => hb (by simp [z])) (fun z => hb (by simp [z])) q)) hf (Nat.le_refl _) new
    refine ⟨.ref s.heap.objs.size, _, I1, rfl, ⟨_, x, rfl, I.hok.fresh (Nat.le_refl _), rfl, fun ws hw => by rw [Sr.inj I hw hq]; exact hxu⟩, ⟨⟨u, ?_⟩, Sr.own_at (hSt _ _ hit') fun o q => (sb.2 it (Ne.symm hne)).trans q, hne⟩, fun b hb => ?_⟩
    · have e1 : ((i + 1 : Nat) : Int) = (i : Int) + 1 := by omega
      rw [e1]; exact he'
    · have hb' : b < s.heap.objs.size := by
        have e' : b = e ∨ b = it := by simpa using hb
        rcases e' with z | z
        · rw [z]; exact hel
        · rw [z]; exact hil
      rw [upd_ne (Nat.ne_of_lt hb')]
      exact (hf b hb).1
  done := by
    intro X hP hw hK hc i pins s σ H E I hf st hg
    subst hP hw hK
    obtain ⟨⟨old, he⟩, hit, hne⟩ := st
    obtain ⟨xs, hq, hx⟩ := hg
    obtain ⟨fp, n, P, St, D, hst, mem, hn, hfp, hP, hSt⟩ := Sr.draws I (I.ok.hd hc) hq hit
    obtain ⟨f0, f1, f2, f3, f4, f5⟩ := hf it (by simp)
    have en : i = n := by omega
    subst en
    exact wpAny_pyNext_enum_endD D he hst fun h' eb => ⟨rfl, I.turned (t' := s.toks) (fun b o hb q => eb b o hb q) f0 f1 f3 f4 f5⟩
  self := fun A i s Q E st h => let ⟨⟨_, he⟩, _⟩ := st; wpAny_pyIter_enum he h
set_option maxHeartbeats 4000003 in
theorem meets_enumerate_new1 {v : Value} {o : Obj} {H : Heap → Prop} (B : Begins v o H) :
    Meets (Builtin.«enumerate.__new__» ⟨[.type "enumerate", v], []⟩) (fun _ R s => H s.heap ∧
      R (.ok (.ret (.ref (s.heap.push o).objs.size))) { s with heap := (s.heap.push o).push { cls := .type "enumerate", data := .fields #[.none, .bool false, .ref s.heap.objs.size, rawInt 0, .none, .none] } }) :=
  .of_wp fun prog w A R s h => by
    obtain ⟨hp, g, d, tk, os⟩ := s; obtain ⟨h1, h⟩ := h
    have hsub := sub_enumerate
    have q1 : ∀ {A' : Around} {E : Value → Shared → Prop} {Q : Value → Shared → Prop}, Q (.ref hp.objs.size) ⟨hp.push o, g, d, tk, os⟩ → wpAny (model prog w) A' (pyIter v) Q E ⟨hp, g, d, tk, os⟩ :=
      fun q => B.iter prog w _ _ ⟨hp, g, d, tk, os⟩ _ h1 q
    wp_walk using q1
    refine wpAny_stack_any fun st => wpAny_pure ?_
    split
    · rename_i c _ _ _ _ _
      cases (c == Value.type "enumerate")
      · wp_walk using q1
        exact ⟨_, rfl, h⟩
      · wp_walk using q1
        exact ⟨_, rfl, h⟩
    · wp_walk using q1
      exact ⟨_, rfl, h⟩
theorem enum_begins1 {prog : Program} {w : World} {A : Around} {E : Value → Shared → Prop} {s : Shared} {v : Value} {o : Obj} {H : Heap → Prop} {Q : Value → Shared → Prop} (B : Begins v o H) (h1 : H s.heap)
    (h : ∀ h', IsEnum h' (s.heap.objs.size + 1) s.heap.objs.size 0 .none → h'.get? s.heap.objs.size = some o → h'.objs.size = s.heap.objs.size + 2 →
      (∀ b o, s.heap.get? b = some o → h'.get? b = some o) → Q (.ref (s.heap.objs.size + 1)) { s with heap := h' }) :
    wpAny (model prog w) A (call (.type "enumerate") [v]) Q E s := by
  refine callType_new F.called_enumerate (by decide) (F.typeCall_enumerate_1 _) (F.newCall_enumerate_1 _) (fun obj => F.args_object_init_2 obj _) F.entry_enumerate_new
    (meets_enumerate_new1 B) ⟨h1, ?_⟩
  have hz : (s.heap.push o).objs.size = s.heap.objs.size + 1 := Heap.size_push ..
  show _ ∧ _
  rw [hz]
  have he : IsEnum ((s.heap.push o).push { cls := .type "enumerate", data := .fields #[.none, .bool false, .ref s.heap.objs.size, rawInt 0, .none, .none] }) (s.heap.objs.size + 1) s.heap.objs.size 0 .none := by
    have := Heap.get?_push_size (s.heap.push o) (o := { cls := .type "enumerate", data := .fields #[.none, .bool false, .ref s.heap.objs.size, rawInt 0, .none, .none] }) rfl
    rw [hz] at this; exact this
  refine ⟨⟨_, he, rfl⟩, h _ he (Heap.get?_push_of_some _ (Heap.get?_push_size _ B.free)) (by rw [Heap.size_push, hz]) fun b o x => Heap.get?_push_of_some _ (Heap.get?_push_of_some _ x)⟩
def iEnumE (K : PySem.W.Frag) (ta : TA) : TI := fun σ H R => ta σ H fun vs H1 => ∃ sr xs, vs = [Sr.val sr] ∧ sr.at_ K H1 xs ∧ R (ItE K sr) H1
theorem pi_enumE {X : Cx} {e : Expr} {ta : TA} {p pos tpos : Pos} {elts : List Expr} {kk : Nat} (hg : Gl X "enumerate") (hm : X.mg "enumerate" = none) (ha : PA X [e] ta) (hs : starEach [e] X.env = [(false, eval e X.env)]) :
    PI X (.Tuple elts kk tpos) (.Call (.Name "enumerate" p) [e] [] pos) (iEnumE X.K ta) := by
  refine ⟨fun pins s σ H R I h => ?_⟩
  refine Call_ (ld_blt I hg hm boot_enumerate (PyProof.Rows.callWith_type1 (thn (ha.run pos pins s σ H _ I h) fun us s1 ⟨vs, H1, I1, r1, q1⟩ => ?_) hs rfl))
  obtain ⟨sr, xs, ex, hq, q⟩ := q1
  subst ex
  cases r1 with
  | cons r rr =>
    cases rr
    obtain ⟨o, P, B, hP, hown⟩ := Sr.begins I1 hq r
    refine enum_begins1 B hP fun h' he hit hsz hk => wpAny_pyIter_enum he ?_
    have I2 : Inv X pins σ H1 { s1 with heap := h' } := I1.kept (t' := s1.toks) hk
    refine ⟨s1.heap.objs.size + 1, [s1.heap.objs.size + 1, s1.heap.objs.size], _, _, H1, rfl, I2, turn_enumE sr (s1.heap.objs.size + 1) s1.heap.objs.size, ⟨⟨.none, he⟩, hown _ _ hit, Nat.succ_ne_self _⟩, fun b hb => ?_, q⟩
    have e' : b = s1.heap.objs.size + 1 ∨ b = s1.heap.objs.size := by simpa using hb
    have hle : s1.heap.objs.size ≤ b := by
      rcases e' with z | z
      · rw [z]; exact Nat.le_add_right _ _
      · rw [z]; exact Nat.le_refl _
    exact I1.fpOk hle (I1.hok.fresh hle)
def ItZ (K : PySem.W.Frag) (s1 s2 : Sr) : It :=
  ⟨fun i H => ∃ xs ys : List V, s1.at_ K H xs ∧ s2.at_ K H ys ∧ i < xs.length ∧ i < ys.length,
   fun i H v H' => ∃ T x y, v = .ref T ∧ H T = none ∧ H' = upd H T (.tup [x, y]) ∧ (∀ xs : List V, s1.at_ K H xs → xs[i]? = some x) ∧ ∀ ys : List V, s2.at_ K H ys → ys[i]? = some y,
   fun i H => ∃ xs ys : List V, s1.at_ K H xs ∧ s2.at_ K H ys ∧ i ≤ xs.length ∧ i ≤ ys.length ∧ (i = xs.length ∨ i = ys.length)⟩
structure Apart (z TI TO i1 i2 : Addr) : Prop where
  TIz : TI ≠ z
  TOz : TO ≠ z
  TITO : TI ≠ TO
  TIi1 : TI ≠ i1
  TIi2 : TI ≠ i2
  TOi1 : TO ≠ i1
  TOi2 : TO ≠ i2
  zi1 : z ≠ i1
  zi2 : z ≠ i2
  ii : i1 ≠ i2
/-- the cells of a zip lie apart from what its iterators lean on -/
theorem sep_of {h : Heap} {z TI TO i1 i2 : Addr} {fp1 fp2 : List Addr} (D : Apart z TI TO i1 i2) {o1 o2 oz : Obj} (hz : h.get? z = some oz) (zc : oz.cls = .type "zip") (h1 : h.get? i1 = some o1) (c1 : o1.cls ≠ .type "list") (c1' : o1.cls ≠ .type "tuple") (h2 : h.get? i2 = some o2) (c2 : o2.cls ≠ .type "list") (c2' : o2.cls ≠ .type "tuple")
    (m1 : i1 ∈ fp1) (m2 : i2 ∈ fp2) (f1 : ∀ b ∈ fp1, b = i1 ∨ (b ≠ TO ∧ ∃ ob, h.get? b = some ob ∧ (ob.cls = .type "list" ∨ ob.cls = .type "tuple"))) (f2 : ∀ b ∈ fp2, b = i2 ∨ (b ≠ TO ∧ ∃ ob, h.get? b = some ob ∧ (ob.cls = .type "list" ∨ ob.cls = .type "tuple"))) : ZipSep2 z TI TO i1 i2 fp1 fp2 where
  TIz := D.TIz
  TOz := D.TOz
  TITO := D.TITO
  TIi1 := D.TIi1
  mem1 := m1
  zf1 := fun hm => by
    rcases f1 z hm with e | ⟨_, ob, e, c⟩
    · exact D.zi1 e
    · rw [hz] at e; cases e; rw [zc] at c; rcases c with c | c <;> exact absurd c (by decide)
  Tf1 := fun hm => by
    rcases f1 TO hm with e | ⟨e, _⟩
    · exact D.TOi1 e
    · exact e rfl
  TIi2 := D.TIi2
  mem2 := m2
  zf2 := fun hm => by
    rcases f2 z hm with e | ⟨_, ob, e, c⟩
    · exact D.zi2 e
    · rw [hz] at e; cases e; rw [zc] at c; rcases c with c | c <;> exact absurd c (by decide)
  Tf2 := fun hm => by
    rcases f2 TO hm with e | ⟨e, _⟩
    · exact D.TOi2 e
    · exact e rfl
  sep1_2 := fun hm => by
    rcases f2 i1 hm with e | ⟨_, ob, e, c⟩
    · exact D.ii e
    · rw [h1] at e; cases e; rcases c with c | c
      · exact c1 c
      · exact c1' c
  sep2_1 := fun hm => by
    rcases f1 i2 hm with e | ⟨_, ob, e, c⟩
    · exact D.ii e.symm
    · rw [h2] at e; cases e; rcases c with c | c
      · exact c2 c
      · exact c2' c
theorem turn_zipZ {P : Program} {w : World} {K : PySem.W.Frag} {elts : List Expr} {kk : Nat} {tpos : Pos} {s1 s2 : Sr} {z TI TO i1 i2 : Addr} (D : Apart z TI TO i1 i2) :
    Turn P w K (.Tuple elts kk tpos) (ItZ K s1 s2) [z, TI, TO, i1, i2] z (fun i h => IsZip h z TI TO .none ∧ IsTupOf2 h TI (.ref i1) (.ref i2) ∧ (∃ x y, IsTupOf2 h TO x y) ∧ s1.own i1 i h ∧ s2.own i2 i h) where
  mem := by simp
  obj := fun i h st c hc => by
    obtain ⟨hz, hTI, ⟨x, y, hTO⟩, h1, h2⟩ := st
    obtain ⟨o1, e1, ⟨f1, d1⟩, _⟩ := Sr.own_obj (sr := s1) (i := i) h1
    obtain ⟨o2, e2, ⟨f2, d2⟩, _⟩ := Sr.own_obj (sr := s2) (i := i) h2
    have e' : c = z ∨ c = TI ∨ c = TO ∨ c = i1 ∨ c = i2 := by simpa using hc
    rcases e' with q | q | q | q | q
    · rw [q]; exact ⟨_, hz, fun v q => nomatch q⟩
    · rw [q]; exact ⟨_, hTI, fun v q => nomatch q⟩
    · rw [q]; exact ⟨_, hTO, fun v q => nomatch q⟩
    · rw [q]; exact ⟨o1, e1, fun v q => by rw [d1] at q; cases q⟩
    · rw [q]; exact ⟨o2, e2, fun v q => by rw [d2] at q; cases q⟩
  keep := fun i h h' st k => by
    obtain ⟨hz, hTI, ⟨x, y, hTO⟩, h1, h2⟩ := st
    exact ⟨k z (by simp) _ hz, k TI (by simp) _ hTI, ⟨x, y, k TO (by simp) _ hTO⟩, Sr.own_at (sr := s1) h1 fun o q => k i1 (by simp) o q, Sr.own_at (sr := s2) h2 fun o q => k i2 (by simp) o q⟩
  item := by
    intro X hP hw hK hc i pins s σ H E I hf st hg
    subst hP hw hK
    obtain ⟨hz, hTI, ⟨x0, y0, hTO⟩, h1, h2⟩ := st
    obtain ⟨xs, ys, hqx, hqy, hx, hy⟩ := hg
    obtain ⟨fp1, n1, P1, St1, D1, st1, m1, en1, hf1, hP1, hS1⟩ := Sr.draws I (I.ok.hd hc) hqx h1
    obtain ⟨fp2, n2, P2, St2, D2, st2, m2, en2, hf2, hP2, hS2⟩ := Sr.draws I (I.ok.hd hc) hqy h2
    obtain ⟨o1, e1, _, c1, c1'⟩ := Sr.own_obj (sr := s1) (i := i) h1
    obtain ⟨o2, e2, _, c2, c2'⟩ := Sr.own_obj (sr := s2) (i := i) h2
    have S : ZipSep2 z TI TO i1 i2 fp1 fp2 := sep_of D hz rfl e1 c1 c1' e2 c2 c2' m1 m2
      (fun b hb => (hf1 b hb).imp id fun ⟨ob, q1, q2, q3⟩ => ⟨not_known I (hf TO (by simp)) q3, ob, q1, q2⟩) (fun b hb => (hf2 b hb).imp id fun ⟨ob, q1, q2, q3⟩ => ⟨not_known I (hf TO (by simp)) q3, ob, q1, q2⟩)
    have hzl : z < s.heap.objs.size := Heap.lt_size hz
    refine wpAny_pyNext_zipD2_item S D1 D2 hz hTI hTO st1 st2 (by omega) (by omega) fun u u2 h' tk hu hu2 z' TO' st1' st2' hT hsz hk => ?_
    obtain ⟨x, hxu, ru⟩ := hP1 i u hu
    obtain ⟨y, hyu, ru2⟩ := hP2 i u2 hu2
    refine ⟨_, rfl, wpAny_letOwnedTupleGo_zip (s := { s with heap := h', toks := tk }) z' fun h'' z'' sb => ?_⟩
    have hT2 : h''.get? s.heap.objs.size = some { cls := .type "tuple", data := .seq #[u, u2] } := (sb.2 _ (Nat.ne_of_gt hzl)).trans hT
    have new : ObjOk X.prog X.w (upd H s.heap.objs.size (.tup [x, y])) h'' s.heap.objs.size (.tup [x, y]) :=
      ⟨by show 2 ≤ sizeLine; decide, [u, u2], .cons ru (.cons ru2 .nil), ⟨_, hT2, rfl, _, rfl⟩⟩
    have I1 : Inv X pins σ (upd H s.heap.objs.size (.tup [x, y])) { s with heap := h'', toks := tk } :=
      I.turnedNew (ch := [z, TI, TO, i1, i2]) (fun c o hb q => (sb.2 c (fun q' => hb (by simp [q']))).trans (hk c o (fun q' => hb (by simp [q'])) (fun q' => hb (by simp [q'])) (fun q' => hb (by simp [q'])) (fun q' => hb (by simp [q'])) q)) hf (Nat.le_refl _) new
    refine ⟨.ref s.heap.objs.size, _, I1, rfl, ⟨_, x, y, rfl, I.hok.fresh (Nat.le_refl _), rfl, fun ws hw => by rw [Sr.inj I hw hqx]; exact hxu, fun ws hw => by rw [Sr.inj I hw hqy]; exact hyu⟩, ⟨z'', ?_, ⟨u, u2, ?_⟩, ?_, ?_⟩, fun c hcm => ?_⟩
    · exact (sb.2 _ D.TIz).trans (hk _ _ D.TIz D.TITO D.TIi1 D.TIi2 hTI)
    · exact (sb.2 _ D.TOz).trans TO'
    · exact Sr.own_at (hS1 _ _ st1') fun o q => (sb.2 _ (Ne.symm D.zi1)).trans q
    · exact Sr.own_at (hS2 _ _ st2') fun o q => (sb.2 _ (Ne.symm D.zi2)).trans q
    · have hlt : c < s.heap.objs.size := by
        have e' : c = z ∨ c = TI ∨ c = TO ∨ c = i1 ∨ c = i2 := by simpa using hcm
        rcases e' with q | q | q | q | q
        · rw [q]; exact hzl
        · rw [q]; exact Heap.lt_size hTI
        · rw [q]; exact Heap.lt_size hTO
        · rw [q]; exact Heap.lt_size e1
        · rw [q]; exact Heap.lt_size e2
      rw [upd_ne (Nat.ne_of_lt hlt)]
      exact (hf c hcm).1
  done := by
    intro X hP hw hK hc i pins s σ H E I hf st hg
    subst hP hw hK
    obtain ⟨hz, hTI, ⟨x0, y0, hTO⟩, h1, h2⟩ := st
    obtain ⟨xs, ys, hqx, hqy, hx, hy, hend⟩ := hg
    obtain ⟨fp1, n1, P1, St1, D1, st1, m1, en1, hf1, hP1, hS1⟩ := Sr.draws I (I.ok.hd hc) hqx h1
    obtain ⟨fp2, n2, P2, St2, D2, st2, m2, en2, hf2, hP2, hS2⟩ := Sr.draws I (I.ok.hd hc) hqy h2
    obtain ⟨o1, e1, _, c1, c1'⟩ := Sr.own_obj (sr := s1) (i := i) h1
    obtain ⟨o2, e2, _, c2, c2'⟩ := Sr.own_obj (sr := s2) (i := i) h2
    have S : ZipSep2 z TI TO i1 i2 fp1 fp2 := sep_of D hz rfl e1 c1 c1' e2 c2 c2' m1 m2
      (fun b hb => (hf1 b hb).imp id fun ⟨ob, q1, q2, q3⟩ => ⟨not_known I (hf TO (by simp)) q3, ob, q1, q2⟩) (fun b hb => (hf2 b hb).imp id fun ⟨ob, q1, q2, q3⟩ => ⟨not_known I (hf TO (by simp)) q3, ob, q1, q2⟩)
    refine wpAny_pyNext_zipD2_end S D1 D2 hz hTI hTO st1 st2 (by omega) (by omega) (by omega) fun h' tk hk => ⟨rfl, I.turnedL (ch := [z, TI, TO, i1, i2]) (fun c o hb q =>
      hk c o (fun q' => hb (by simp [q'])) (fun q' => hb (by simp [q'])) (fun q' => hb (by simp [q'])) (fun q' => hb (by simp [q'])) q) hf⟩
  self := fun A i s Q E st h => wpAny_pyIter_zip st.1 h
def iZipZ (K : PySem.W.Frag) (ta : TA) : TI := fun σ H R => ta σ H fun vs H1 => ∃ s1 s2 xs ys, vs = [Sr.val s1, Sr.val s2] ∧ s1.at_ K H1 xs ∧ s2.at_ K H1 ys ∧ R (ItZ K s1 s2) H1
theorem pi_zipZ {X : Cx} {e e2 : Expr} {ta : TA} {p pos tpos : Pos} {elts : List Expr} {kk : Nat} (hg : Gl X "zip") (hm : X.mg "zip" = none) (ha : PA X [e, e2] ta)
    (hs : starEach [e, e2] X.env = (false, eval e X.env) :: starEach [e2] X.env) (hpl : (backTo pos (starEach [e2] X.env)).any (·.1) = false) :
    PI X (.Tuple elts kk tpos) (.Call (.Name "zip" p) [e, e2] [] pos) (iZipZ X.K ta) := by
  refine ⟨fun pins s σ H R I h => ?_⟩
  refine Call_ (ld_blt I hg hm PyProof.Rows.boot_zip (PyProof.Rows.callWith_type1 (thn (ha.run pos pins s σ H _ I h) fun us s1 ⟨vs, H1, I1, r1, q1⟩ => ?_) hs hpl))
  obtain ⟨a, b, xs, ys, ex, hqx, hqy, q⟩ := q1
  subst ex
  cases r1 with
  | cons r rr =>
    cases rr with
    | cons r' rr =>
      cases rr
      obtain ⟨o1, P1, B1, hP1, w1⟩ := Sr.begins I1 hqx r
      obtain ⟨o2, P2, B2, hP2, w2⟩ := Sr.begins I1 hqy r'
      refine zip_begins2 B1 B2 hP1 hP2 fun h' hz hTI hTO h1 h2 hsz hk => wpAny_pyIter_zip hz ?_
      have I2 : Inv X pins σ H1 { s1 with heap := h' } := I1.kept (t' := s1.toks) hk
      have N : ∀ (i j : Nat), i ≠ j → (s1.heap.objs.size + i : Nat) ≠ s1.heap.objs.size + j := fun i j e z => e (Nat.add_left_cancel z)
      have N0 : ∀ (i : Nat), i ≠ 0 → (s1.heap.objs.size + i : Nat) ≠ s1.heap.objs.size := fun i e z => e (by omega)
      refine ⟨s1.heap.objs.size + 4, [s1.heap.objs.size + 4, s1.heap.objs.size + 2, s1.heap.objs.size + 3, s1.heap.objs.size, s1.heap.objs.size + 1], _, _, H1, rfl, I2,
        turn_zipZ ⟨N 2 4 (by decide), N 3 4 (by decide), N 2 3 (by decide), N0 2 (by decide), N 2 1 (by decide), N0 3 (by decide), N 3 1 (by decide), N0 4 (by decide), N 4 1 (by decide), (N0 1 (by decide)).symm⟩, ⟨hz, hTI, ⟨_, _, hTO⟩, w1 _ _ h1, w2 _ _ h2⟩, fun c hcm => ?_, q⟩
      have e' : c = s1.heap.objs.size + 4 ∨ c = s1.heap.objs.size + 2 ∨ c = s1.heap.objs.size + 3 ∨ c = s1.heap.objs.size ∨ c = s1.heap.objs.size + 1 := by simpa using hcm
      have hle : s1.heap.objs.size ≤ c := by
        rcases e' with z | z | z | z | z
        · rw [z]; exact Nat.le_add_right _ _
        · rw [z]; exact Nat.le_add_right _ _
        · rw [z]; exact Nat.le_add_right _ _
        · rw [z]; exact Nat.le_refl _
        · rw [z]; exact Nat.le_add_right _ _
      exact I1.fpOk hle (I1.hok.fresh hle)
end PF
end
section
set_option linter.all false
set_option Elab.async false
set_option linter.all false
set_option maxRecDepth 100003
set_option maxHeartbeats 2000003
set_option autoImplicit false
namespace PF
open PySem L2
section
variable {nm : Nm} {X : Cx} {M M' : List Addr} {H H' : Hp} {S S' S1 : Sto} {ρ : Env} {σ : L2.St} {Q : VK} {d : D}
/-- a target of names: the slots that it stores -/
def GOk (nm : Nm) (X : Cx) (tg : TG) (g : G) (is : List Nat) : Prop := ∀ (M : List Addr) (H : Hp) (S : Sto) (d : D) (x : V) (ρ ρ1 : Env) (σ : L2.St) (P : L2.St → Hp → Prop), RelS nm X.K X.mg M S H → RelD X.K M H d x → RelE X.K M H ρ σ → g d ρ = some ρ1 →
  (∀ σ1, RelE X.K M H ρ1 σ1 → (∀ vs : List Nat, (∀ i ∈ is, i ∈ vs) → L2.wipe σ1 vs = L2.wipe σ vs) → P σ1 H) → tg x σ H P
theorem RelE.set {K : PySem.W.Frag} {x : V} {i : Nat} (re : RelE K M H ρ σ) (q : RelD K M H d x) : RelE K M H (ρ.set i (some d)) (σ.set i (some x)) := by
  refine ⟨by simp [re.len], fun j d' hj => ?_⟩
  by_cases e : j = i
  · subst e
    by_cases hl : j < ρ.length
    · rw [List.getElem?_set_self hl] at hj
      cases hj
      exact ⟨x, by rw [List.getElem?_set_self (by rw [← re.len]; exact hl)], q⟩
    · rw [List.getElem?_eq_none (by simpa using hl)] at hj
      cases hj
  · rw [List.getElem?_set_ne (Ne.symm e)] at hj
    obtain ⟨v, h1, h2⟩ := re.at_ j d' hj
    exact ⟨v, by rw [List.getElem?_set_ne (Ne.symm e)]; exact h1, h2⟩
theorem wipe_set {i : Nat} {x : Option V} : ∀ {vs : List Nat} (σ : L2.St), i ∈ vs → L2.wipe (σ.set i x) vs = L2.wipe σ vs
  | [], _, h => by cases h
  | v :: vs, σ, h => by
    show (L2.wipe (σ.set i x) vs).set v none = (L2.wipe σ vs).set v none
    by_cases hv : i ∈ vs
    · rw [wipe_set σ hv]
    · have e : i = v := by rcases List.mem_cons.mp h with e | e; exact e; exact absurd e hv
      subst e
      have out : ∀ (ws : List Nat) (τ : L2.St), i ∉ ws → L2.wipe (τ.set i x) ws = (L2.wipe τ ws).set i x := by
        intro ws
        induction ws with
        | nil => intro τ _; rfl
        | cons w ws ih =>
          intro τ hw
          show (L2.wipe (τ.set i x) ws).set w none = ((L2.wipe τ ws).set w none).set i x
          rw [ih τ (fun z => hw (List.mem_cons_of_mem _ z))]
          have ne : i ≠ w := fun z => hw (z ▸ List.mem_cons_self)
          rw [List.set_comm _ _ ne]
      rw [out vs σ hv, List.set_set]
theorem wipe_wipe (vs : List Nat) (σ : L2.St) : L2.wipe (L2.wipe σ vs) vs = L2.wipe σ vs := by
  have gen : ∀ (ws : List Nat), (∀ i ∈ ws, i ∈ vs) → L2.wipe (L2.wipe σ ws) vs = L2.wipe σ vs := by
    intro ws
    induction ws with
    | nil => intro _; rfl
    | cons w ws ih =>
      intro h
      show L2.wipe ((L2.wipe σ ws).set w none) vs = _
      rw [wipe_set _ (h w List.mem_cons_self)]
      exact ih fun i hi => h i (List.mem_cons_of_mem _ hi)
  exact gen vs fun _ h => h
theorem RelE.wipe {K : PySem.W.Frag} (re : RelE K M H ρ σ) : ∀ vs : List Nat, RelE K M H (PF.wipe ρ vs) (L2.wipe σ vs)
  | [] => re
  | v :: vs => by
    have ih := RelE.wipe re vs
    show RelE K M H ((PF.wipe ρ vs).set v none) ((L2.wipe σ vs).set v none)
    refine ⟨by simp [ih.len], fun j d' hj => ?_⟩
    by_cases e : j = v
    · subst e
      by_cases hl : j < (PF.wipe ρ vs).length
      · rw [List.getElem?_set_self hl] at hj; cases hj
      · rw [List.getElem?_eq_none (by simpa using hl)] at hj; cases hj
    · rw [List.getElem?_set_ne (Ne.symm e)] at hj
      obtain ⟨u, h1, h2⟩ := ih.at_ j d' hj
      exact ⟨u, by rw [List.getElem?_set_ne (Ne.symm e)]; exact h1, h2⟩
theorem gok_name (i : Nat) : GOk nm X (L2.gName i) (PF.gName i) [i] := by
  intro M H S d x ρ ρ1 σ P rs q re h k
  cases h
  exact k _ (re.set q) fun vs hv => wipe_set σ (hv i List.mem_cons_self)
/-- names in a row -/
def gSlots : List Nat → TGs
  | [] => gNil
  | i :: is => gCons (L2.gName i) (gSlots is)
theorem setAll_len : ∀ {is : List Nat} {ds : List D} {ρ ρ1 : Env}, setAll is ds ρ = some ρ1 → ds.length = is.length
  | [], [], _, _, _ => rfl
  | i :: is, d :: ds, ρ, ρ1, h => by
    unfold setAll at h
    simp [setAll_len h]
  | [], _ :: _, _, _, h => by cases h
  | _ :: _, [], _, _, h => by cases h
theorem slots_read {K : PySem.W.Frag} : ∀ {is : List Nat} {ds : List D} {vs : List V} {ρ ρ1 : Env} {σ : L2.St} {P : L2.St → Hp → Prop}, RelDs K M H ds vs → RelE K M H ρ σ → setAll is ds ρ = some ρ1 →
    (∀ σ1, RelE K M H ρ1 σ1 → (∀ ws : List Nat, (∀ i ∈ is, i ∈ ws) → L2.wipe σ1 ws = L2.wipe σ ws) → P σ1 H) → gSlots is vs σ H P
  | [], [], _, _, _, σ, P, q, re, h, k => by
    unfold RelDs at q
    subst q
    cases h
    exact ⟨rfl, k σ re fun _ _ => rfl⟩
  | i :: is, d :: ds, _, ρ, ρ1, σ, P, q, re, h, k => by
    unfold RelDs at q
    obtain ⟨v, r, rfl, q1, q2⟩ := q
    unfold setAll at h
    refine ⟨v, r, rfl, ?_⟩
    show gSlots is r (σ.set i (some v)) H P
    refine slots_read q2 (re.set q1) h fun σ1 r1 w => k σ1 r1 fun ws hw => ?_
    rw [w ws fun j hj => hw j (List.mem_cons_of_mem _ hj), wipe_set σ (hw i List.mem_cons_self)]
  | [], _ :: _, _, _, _, _, _, _, _, h, _ => by cases h
  | _ :: _, [], _, _, _, _, _, _, _, h, _ => by cases h
theorem gok_tup {is : List Nat} : GOk nm X (L2.gTup X.K is.length (gSlots is)) (PF.gTup is) is := by
  intro M H S d x ρ ρ1 σ P rs q re h k
  unfold PF.gTup at h
  cases d with
  | tup ds =>
    obtain ⟨a, vs, rfl, ha, qa⟩ := q.tup
    exact ⟨a, vs, rfl, ha, by rw [← qa.length]; exact setAll_len h, slots_read qa re h k⟩
  | _ => cases h
structure WalkJ (nm : Nm) (X : Cx) (J : It) (M : List Addr) (H : Hp) (it : Iter) : Prop where
  go : ∀ (i : Nat) (M2 : List Addr) (H2 : Hp) (S2 : Sto), Ext M H M2 H2 → RelS nm X.K X.mg M2 S2 H2 → it.same S2 = true → i < it.all.length → J.go i H2
  yld : ∀ (i : Nat) (d : D) (M2 : List Addr) (H2 : Hp) (S2 : Sto) (x : V) (H3 : Hp), Ext M H M2 H2 → RelS nm X.K X.mg M2 S2 H2 → it.same S2 = true → it.all[i]? = some d → J.yld i H2 x H3 → Ext M2 H2 M2 H3 ∧ RelS nm X.K X.mg M2 S2 H3 ∧ RelD X.K M2 H3 d x
  stop : ∀ (i : Nat) (M2 : List Addr) (H2 : Hp) (S2 : Sto), Ext M H M2 H2 → RelS nm X.K X.mg M2 S2 H2 → it.same S2 = true → it.all.length = i → J.stop i H2
def rI (nm : Nm) (X : Cx) (f : I) : TI := fun σ H R => ∃ M ρ S it S', RelS nm X.K X.mg M S H ∧ RelE X.K M H ρ σ ∧ f ρ S = .ok it S' ∧ ∀ M' H' J, Ext M H M' H' → RelS nm X.K X.mg M' S' H' → WalkJ nm X J M' H' it → R J H'
abbrev PXI (nm : Nm) (X : Cx) (tg e : Expr) (f : I) : Prop := PI X tg e (rI nm X f)
theorem PI.imp {tg e : Expr} {t u : TI} (h : PI X tg e t) (i : ∀ σ H R, u σ H R → t σ H R) : PI X tg e u := ⟨fun pins s σ H R I q => h.run pins s σ H R I (i σ H R q)⟩
/-- a thing to be walked, as it lies -/
theorem sr_of (rs : RelS nm X.K X.mg M S H) {x : D} {v : V} {ds : List D} (q : RelD X.K M H x v) (h : seqZ x S = some ds) :
    ∃ sr : Sr, v = sr.val ∧ ∀ (M2 : List Addr) (H2 : Hp) (S2 : Sto), Ext M H M2 H2 → RelS nm X.K X.mg M2 S2 H2 → (chkOf x S).all (fun p => decide (lstOf p.1 S2 = some p.2)) = true → ∃ vs, sr.at_ X.K H2 vs ∧ RelDs X.K M2 H2 ds vs := by
  unfold seqZ at h
  cases x with
  | str s =>
    cases h
    refine ⟨.txt (strOf s), q.str, fun M2 H2 S2 e r c => ⟨_, rfl, ?_⟩⟩
    rw [strOf_toList]
    unfold charsD
    clear q c r e
    induction s with
    | nil => exact .nil
    | cons a t ih => exact .cons .mkS ih
  | tup es =>
    cases h
    obtain ⟨a, vs, rfl, ha, qa⟩ := q.tup
    exact ⟨.tup a, rfl, fun M2 H2 S2 e r c => ⟨vs, SqT.ext rs e ha, RelDs.ext rs e qa⟩⟩
  | ref n =>
    obtain ⟨a, rfl, ha⟩ := q.ref
    have h : lstOf n S = some ds := h
    refine ⟨.lst a, rfl, fun M2 H2 S2 e r c => ?_⟩
    have ec : chkOf (.ref n) S = [(n, ds)] := by simp [chkOf, h]
    rw [ec] at c
    have c' : lstOf n S2 = some ds := by simpa using c
    exact r.lst (e.get ha) c'
  | _ => cases h
/-- what two readings of a list or a tuple have in common: its length, its items, by a state in which it lies -/
theorem seqOf_Z {x : D} {ds : List D} (h : seqOf x S = some ds) : seqZ x S = some ds := by
  unfold seqZ
  cases x with
  | str s => cases h
  | _ => exact h
theorem same_app {l r : List (Nat × List D)} {f : Nat × List D → Bool} (h : (l ++ r).all f = true) : l.all f = true ∧ r.all f = true := by
  rw [List.all_append, Bool.and_eq_true] at h
  exact h
/-- over a list or a tuple -/
theorem pi_seq {l tg : Expr} {tl : TE} (hl : PE X l tl) : PI X tg l (fun σ H R => tl σ H fun x H1 => ∃ a, x = .ref a ∧ ((∃ xs, SqL X.K H1 a xs ∧ R (Itl X.K a) H1) ∨ ∃ xs, SqT X.K H1 a xs ∧ R (Itt X.K a) H1)) := by
  refine ⟨fun pins s σ H R I h => ?_⟩
  refine thn (hl.run pins s σ H _ I h) fun v s1 ⟨x, H1, I1, r1, q1⟩ => ?_
  obtain ⟨a, e, q1⟩ := q1
  subst e
  cases r1
  rcases q1 with ⟨xs, hq, q⟩ | ⟨xs, hq, q⟩
  · obtain ⟨its, rv, p, hz⟩ := I1.list hq
    refine wpAny_pyIter_list p.isList ?_
    refine ⟨s1.heap.objs.size, [s1.heap.objs.size], _, _, H1, rfl, I1.kept (t' := s1.toks) fun b o e => Heap.get?_push_of_some _ e, turn_list a _, ⟨_, Heap.get?_push_size _ rfl, rfl, rfl⟩, fun b hb => ?_, q⟩
    have e : b = s1.heap.objs.size := by simpa using hb
    subst e
    exact I1.fpOk (Nat.le_refl _) (I1.hok.fresh (Nat.le_refl _))
  · obtain ⟨its, rv, p, hz⟩ := I1.tuple hq
    refine wpAny_pyIter_tuple (show s1.heap.IsTuple a its.toArray from p) ?_
    refine ⟨s1.heap.objs.size, [s1.heap.objs.size], _, _, H1, rfl, I1.kept (t' := s1.toks) fun b o e => Heap.get?_push_of_some _ e, turn_tuple a _, ⟨_, Heap.get?_push_size _ rfl, rfl, rfl⟩, fun b hb => ?_, q⟩
    have e : b = s1.heap.objs.size := by simpa using hb
    subst e
    exact I1.fpOk (Nat.le_refl _) (I1.hok.fresh (Nat.le_refl _))
theorem pxi_seq {l tg : Expr} {f : E} (hl : PX nm X l f) : PXI nm X tg l (iSeq f) :=
  PI.imp (pi_seq hl) fun σ H R ⟨M, ρ, S, it, S', rs, re, h, k⟩ => by
    unfold iSeq at h
    obtain ⟨x, S1, h1, h⟩ := bind_inv h
    split at h
    · rename_i ds eds
      cases h
      refine rE.go rs re h1 fun M1 H1 v e1 r1 q1 => ?_
      obtain ⟨sr, ev, cur⟩ := sr_of r1 q1 (seqOf_Z eds)
      have cur' : ∀ (M2 : List Addr) (H2 : Hp) (S2 : Sto), Ext M1 H1 M2 H2 → RelS nm X.K X.mg M2 S2 H2 → (⟨chkOf x S', ds⟩ : Iter).same S2 = true → ∃ vs, sr.at_ X.K H2 vs ∧ RelDs X.K M2 H2 ds vs := fun M2 H2 S2 e r c => cur M2 H2 S2 e r c
      have c0 : (⟨chkOf x S', ds⟩ : Iter).same S' = true := by
        unfold Iter.same chkOf
        cases x with
        | ref n =>
          have eds : lstOf n S' = some ds := eds
          simp [eds]
        | _ => rfl
      obtain ⟨vs0, at0, _⟩ := cur' M1 H1 _ Ext.refl r1 c0
      cases sr with
      | lst a =>
        refine ⟨a, ev, .inl ⟨vs0, at0, k M1 H1 _ e1 r1 ⟨fun i M2 H2 S2 e r c hi => ?_, fun i d M2 H2 S2 x H3 e r c hd y => ?_, fun i M2 H2 S2 e r c hi => ?_⟩⟩⟩
        · obtain ⟨vs, ka, qa⟩ := cur' M2 H2 S2 e r c
          have hl : i < vs.length := by rw [← qa.length]; exact hi
          exact ⟨vs, vs[i], ka, by simp [hl]⟩
        · obtain ⟨vs, ka, qa⟩ := cur' M2 H2 S2 e r c
          obtain ⟨y1, y2⟩ := y
          subst y1
          obtain ⟨v, h1, h2⟩ := qa.get hd
          have h3 := y2 vs ka
          rw [h1] at h3
          cases h3
          exact ⟨Ext.refl, r, h2⟩
        · obtain ⟨vs, ka, qa⟩ := cur' M2 H2 S2 e r c
          exact ⟨vs, ka, by rw [← qa.length]; exact Nat.le_of_eq hi⟩
      | tup a =>
        refine ⟨a, ev, .inr ⟨vs0, at0, k M1 H1 _ e1 r1 ⟨fun i M2 H2 S2 e r c hi => ?_, fun i d M2 H2 S2 x H3 e r c hd y => ?_, fun i M2 H2 S2 e r c hi => ?_⟩⟩⟩
        · obtain ⟨vs, ka, qa⟩ := cur' M2 H2 S2 e r c
          have hl : i < vs.length := by rw [← qa.length]; exact hi
          exact ⟨vs, vs[i], ka, by simp [hl]⟩
        · obtain ⟨vs, ka, qa⟩ := cur' M2 H2 S2 e r c
          obtain ⟨y1, y2⟩ := y
          subst y1
          obtain ⟨v, h1, h2⟩ := qa.get hd
          have h3 := y2 vs ka
          rw [h1] at h3
          cases h3
          exact ⟨Ext.refl, r, h2⟩
        · obtain ⟨vs, ka, qa⟩ := cur' M2 H2 S2 e r c
          exact ⟨vs, ka, by rw [← qa.length]; exact Nat.le_of_eq hi⟩
      | txt z =>
        cases x with
        | str s => cases eds
        | tup es => obtain ⟨a, vs, ev2, _⟩ := q1.tup; rw [ev] at ev2; cases ev2
        | ref n => obtain ⟨a, ev2, _⟩ := q1.ref; rw [ev] at ev2; cases ev2
        | _ => cases eds
    · cases h
theorem range_get {lo hi : Int} {i : Nat} {d : D} (h : (rangeD lo hi)[i]? = some d) : i < (hi - lo).toNat ∧ d = .int (lo + (i : Int)) := by
  unfold rangeD at h
  rw [List.getElem?_map] at h
  cases e : (List.range (hi - lo).toNat)[i]? with
  | none => rw [e] at h; cases h
  | some j =>
    rw [e] at h
    cases h
    obtain ⟨h1, h2⟩ := List.getElem?_eq_some_iff.mp e
    rw [List.length_range] at h1
    rw [List.getElem_range] at h2
    subst h2
    exact ⟨h1, rfl⟩
theorem range_len (lo hi : Int) : (rangeD lo hi).length = (hi - lo).toNat := by unfold rangeD; simp
theorem walk_rng {lo hi : Int} {chk : List (Nat × List D)} : WalkJ nm X (Itr lo (hi - lo).toNat) M H ⟨chk, rangeD lo hi⟩ := by
  refine ⟨fun i M2 H2 S2 e r c hi => ?_, fun i d M2 H2 S2 x H3 e r c hd y => ?_, fun i M2 H2 S2 e r c hi => ?_⟩
  · have hi : i < (rangeD lo _).length := hi
    rw [range_len] at hi
    exact hi
  · obtain ⟨y1, y2⟩ := y
    subst y1
    obtain ⟨h1, h2⟩ := range_get hd
    subst h2
    rw [y2]
    exact ⟨Ext.refl, r, .mkI⟩
  · have hi : (rangeD lo _).length = i := hi
    rw [range_len] at hi
    exact Nat.le_of_eq hi
theorem pxi_range1 {a tg : Expr} {f : E} {p pos : Pos} (hg : Gl X "range") (hm : X.mg "range" = none) (ha : PX nm X a f) (hs : starEach [a] X.env = [(false, eval a X.env)]) : PXI nm X tg (.Call (.Name "range" p) [a] [] pos) (iRange1 f) :=
  PI.imp (pi_range1 hg hm (pa_cons ha pa_nil hs) hs) fun σ H R ⟨M, ρ, S, it, S', rs, re, h, k⟩ => by
    unfold iRange1 at h
    obtain ⟨x, S1, h1, h⟩ := bind_inv h
    refine rE.go rs re h1 fun M1 H1 v e1 r1 q1 => ?_
    cases x with
    | int j =>
      dsimp only at h
      split at h
      · rename_i c
        cases h
        have w := k M1 H1 (Itr 0 (j - 0).toNat) e1 r1 walk_rng
        rw [Int.sub_zero] at w
        exact ⟨j, by rw [q1.int], c.1, c.2, w⟩
      · cases h
    | _ => cases h
theorem pxi_range2 {a b tg : Expr} {f g : E} {p pos : Pos} (hg : Gl X "range") (hm : X.mg "range" = none) (ha : PX nm X a f) (hb : PX nm X b g) (hs : starEach [a, b] X.env = [(false, eval a X.env), (false, eval b X.env)]) (hs2 : starEach [b] X.env = [(false, eval b X.env)]) : PXI nm X tg (.Call (.Name "range" p) [a, b] [] pos) (iRange2 f g) :=
  PI.imp (pi_range2 hg hm (pa_cons ha (pa_cons hb pa_nil hs2) (by rw [hs, hs2])) hs hs2) fun σ H R ⟨M, ρ, S, it, S', rs, re, h, k⟩ => by
    unfold iRange2 at h
    obtain ⟨x, S1, h1, h⟩ := bind_inv h
    obtain ⟨y, S2, h2, h⟩ := bind_inv h
    refine rE.go rs re h1 fun M1 H1 v e1 r1 q1 => ?_
    refine rE.go r1 (re.ext rs e1) h2 fun M2 H2 u e2 r2 q2 => ?_
    cases x with
    | int i =>
      cases y with
      | int j =>
        dsimp only at h
        split at h
        · rename_i c
          cases h
          exact ⟨i, j, by rw [q1.int, q2.int], c, k M2 H2 _ (e1.trans e2) r2 walk_rng⟩
        · cases h
      | _ => cases h
    | _ => cases h
theorem enum_get : ∀ {ds : List D} {k i : Nat} {d : D}, (enumD k ds)[i]? = some d → ∃ e, ds[i]? = some e ∧ d = .tup [.int ((k + i : Nat) : Int), e]
  | [], _, _, _, h => by simp [enumD] at h
  | x :: xs, k, 0, d, h => by
    simp [enumD] at h
    exact ⟨x, rfl, h.symm⟩
  | x :: xs, k, i + 1, d, h => by
    simp only [enumD, List.getElem?_cons_succ] at h
    obtain ⟨e, h1, h2⟩ := enum_get h
    exact ⟨e, by simpa using h1, by rw [h2, show k + 1 + i = k + (i + 1) by omega]⟩
theorem enum_len : ∀ (ds : List D) (k : Nat), (enumD k ds).length = ds.length
  | [], _ => rfl
  | x :: xs, k => by simp [enumD, enum_len xs]
/-- a new pair that the turn makes -/
theorem pair_new {T : Addr} {a b : D} {x y : V} (r : RelS nm X.K X.mg M S H) (hT : H T = none) (q1 : RelD X.K M H a x) (q2 : RelD X.K M H b y) : Ext M H M (upd H T (.tup [x, y])) ∧ RelS nm X.K X.mg M S (upd H T (.tup [x, y])) ∧ RelD X.K M (upd H T (.tup [x, y])) (.tup [a, b]) (.ref T) := by
  refine ⟨Ext.tup hT, r.tup hT, ?_⟩
  unfold RelD
  exact ⟨T, [x, y], rfl, .inl (.inl upd_same), .cons (RelD.ext r (Ext.tup hT) q1) (.cons (RelD.ext r (Ext.tup hT) q2) .nil)⟩
theorem chk_now (x : D) (S : Sto) : (chkOf x S).all (fun p => decide (lstOf p.1 S = some p.2)) = true := by
  unfold chkOf
  cases x with
  | ref n =>
    cases e : lstOf n S with
    | none => simp [e]
    | some ds => simp [e]
  | _ => rfl
theorem pxi_enum {a : Expr} {f : E} {p pos tpos : Pos} {elts : List Expr} {kk : Nat} (hg : Gl X "enumerate") (hm : X.mg "enumerate" = none) (ha : PX nm X a f) (hs : starEach [a] X.env = [(false, eval a X.env)]) : PXI nm X (.Tuple elts kk tpos) (.Call (.Name "enumerate" p) [a] [] pos) (iEnum f) :=
  PI.imp (pi_enumE hg hm (pa_cons ha pa_nil hs) hs) fun σ H R ⟨M, ρ, S, it, S', rs, re, h, k⟩ => by
    unfold iEnum at h
    obtain ⟨x, S1, h1, h⟩ := bind_inv h
    split at h
    · rename_i ds eds
      cases h
      refine rE.go rs re h1 fun M1 H1 v e1 r1 q1 => ?_
      obtain ⟨sr, ev, cur⟩ := sr_of r1 q1 eds
      subst ev
      obtain ⟨vs0, at0, _⟩ := cur M1 H1 _ Ext.refl r1 (chk_now x _)
      refine ⟨sr, vs0, rfl, at0, k M1 H1 _ e1 r1 ⟨fun i M2 H2 S2 e r c hi => ?_, fun i d M2 H2 S2 x H3 e r c hd y => ?_, fun i M2 H2 S2 e r c hi => ?_⟩⟩
      · obtain ⟨vs, ka, qa⟩ := cur M2 H2 S2 e r c
        have hi : i < (enumD 0 ds).length := hi
        rw [enum_len, qa.length] at hi
        exact ⟨vs, ka, hi⟩
      · obtain ⟨vs, ka, qa⟩ := cur M2 H2 S2 e r c
        obtain ⟨T, u, rfl, hT, rfl, y4⟩ := y
        obtain ⟨d', h1, h2⟩ := enum_get hd
        obtain ⟨w, h3, h4⟩ := qa.get h1
        have h5 := y4 vs ka
        rw [h3] at h5
        cases h5
        rw [h2, Nat.zero_add]
        exact pair_new r hT .mkI h4
      · obtain ⟨vs, ka, qa⟩ := cur M2 H2 S2 e r c
        have hi : (enumD 0 ds).length = i := hi
        rw [enum_len, qa.length] at hi
        exact ⟨vs, ka, hi⟩
    · cases h
theorem zip_get : ∀ {xs ys : List D} {i : Nat} {d : D}, (zipD xs ys)[i]? = some d → ∃ a b, xs[i]? = some a ∧ ys[i]? = some b ∧ d = .tup [a, b]
  | [], _, _, _, h => by simp [zipD] at h
  | _ :: _, [], _, _, h => by simp [zipD] at h
  | x :: xs, y :: ys, 0, d, h => by
    simp [zipD] at h
    exact ⟨x, y, rfl, rfl, h.symm⟩
  | x :: xs, y :: ys, i + 1, d, h => by
    simp only [zipD, List.getElem?_cons_succ] at h
    obtain ⟨a, b, h1, h2, h3⟩ := zip_get h
    exact ⟨a, b, by simpa using h1, by simpa using h2, h3⟩
theorem zip_len : ∀ (xs ys : List D), (zipD xs ys).length = min xs.length ys.length
  | [], _ => by simp [zipD]
  | _ :: _, [] => by simp [zipD]
  | x :: xs, y :: ys => by simp [zipD, zip_len xs ys]
theorem pxi_zip {a b : Expr} {f g : E} {p pos tpos : Pos} {elts : List Expr} {kk : Nat} (hg : Gl X "zip") (hm : X.mg "zip" = none) (ha : PX nm X a f) (hb : PX nm X b g) (hs : starEach [a, b] X.env = (false, eval a X.env) :: starEach [b] X.env) (hs2 : starEach [b] X.env = (false, eval b X.env) :: starEach [] X.env) (hpl : (backTo pos (starEach [b] X.env)).any (·.1) = false) : PXI nm X (.Tuple elts kk tpos) (.Call (.Name "zip" p) [a, b] [] pos) (iZip f g) :=
  PI.imp (pi_zipZ hg hm (pa_cons ha (pa_cons hb pa_nil hs2) hs) hs hpl) fun σ H R ⟨M, ρ, S, it, S', rs, re, h, k⟩ => by
    unfold iZip at h
    obtain ⟨x, S1, h1, h⟩ := bind_inv h
    obtain ⟨y, S2, h2, h⟩ := bind_inv h
    split at h
    · rename_i ds es eds ees
      cases h
      refine rE.go rs re h1 fun M1 H1 v e1 r1 q1 => ?_
      refine rE.go r1 (re.ext rs e1) h2 fun M2 H2 u e2 r2 q2 => ?_
      obtain ⟨sr, ev, cur⟩ := sr_of r2 (RelD.ext r1 e2 q1) eds
      obtain ⟨sr2, ev2, cur2⟩ := sr_of r2 q2 ees
      subst ev
      subst ev2
      obtain ⟨vs0, at0, _⟩ := cur M2 H2 _ Ext.refl r2 (chk_now x _)
      obtain ⟨us0, bt0, _⟩ := cur2 M2 H2 _ Ext.refl r2 (chk_now y _)
      refine ⟨sr, sr2, vs0, us0, rfl, at0, bt0, k M2 H2 _ (e1.trans e2) r2 ⟨fun i M3 H3 S3 e r c hi => ?_, fun i d M3 H3 S3 x H4 e r c hd y => ?_, fun i M3 H3 S3 e r c hi => ?_⟩⟩
      · obtain ⟨c1, c2⟩ := same_app c
        obtain ⟨vs, ka, qa⟩ := cur M3 H3 S3 e r c1
        obtain ⟨us, kb, qb⟩ := cur2 M3 H3 S3 e r c2
        have hi : i < (zipD ds es).length := hi
        rw [zip_len, qa.length, qb.length] at hi
        exact ⟨vs, us, ka, kb, by omega, by omega⟩
      · obtain ⟨c1, c2⟩ := same_app c
        obtain ⟨vs, ka, qa⟩ := cur M3 H3 S3 e r c1
        obtain ⟨us, kb, qb⟩ := cur2 M3 H3 S3 e r c2
        obtain ⟨T, x1, x2, rfl, hT, rfl, y4, y5⟩ := y
        obtain ⟨d1, d2, h1, h2, h3⟩ := zip_get hd
        obtain ⟨w1, w2, w3⟩ := qa.get h1
        obtain ⟨z1, z2, z3⟩ := qb.get h2
        have h5 := y4 vs ka
        rw [w2] at h5
        cases h5
        have h6 := y5 us kb
        rw [z2] at h6
        cases h6
        rw [h3]
        exact pair_new r hT w3 z3
      · obtain ⟨c1, c2⟩ := same_app c
        obtain ⟨vs, ka, qa⟩ := cur M3 H3 S3 e r c1
        obtain ⟨us, kb, qb⟩ := cur2 M3 H3 S3 e r c2
        have hi : (zipD ds es).length = i := hi
        rw [zip_len, qa.length, qb.length] at hi
        exact ⟨vs, us, ka, kb, by omega, by omega, by omega⟩
    · cases h
theorem pxs_for {iter tg : Expr} {body : List Stmt} {f : I} {tgg : TG} {g : G} {is : List Nat} {b : St} {pos : Pos} (hp : PassesOwn (model X.prog X.w) X.A X.env X.xe) (hc : X.calm = true) (hi : PXI nm X tg iter f) (hg : PG X tg tgg) (ok : GOk nm X tgg g is) (hb : PXSs nm X body b)
    (hs : ∀ x, foldedSetIterable iter X.env x = pure x) : PXS nm X (.For tg iter body [] pos) (sFor f g b) :=
  PS.imp (ps_for hp hc hi hg hb hs) fun σ H D ⟨M, ρ, S, r, S', rs, re, h, k⟩ => by
    unfold sFor at h
    obtain ⟨it, S1, h1, h⟩ := bind_inv h
    refine ⟨M, ρ, S, it, S1, rs, re, h1, fun M1 H1 J e1 r1 w => ?_⟩
    refine ⟨fun i m σ H => m = it.all.length - i ∧ i ≤ it.all.length ∧ ∃ M2 ρ2 S2, Ext M1 H1 M2 H ∧ RelS nm X.K X.mg M2 S2 H ∧ RelE X.K M2 H ρ2 σ ∧ forLoop it g b (it.all.drop i) ρ2 S2 = .ok r S', ⟨_, rfl, Nat.zero_le _, M1, ρ, S1, Ext.refl, r1, re.ext rs e1, h⟩, ?_⟩
    rintro i m σ2 H2 ⟨rfl, hi, M2, ρ2, S2, e2, r2, re2, hl⟩
    by_cases hlt : i < it.all.length
    · have hd : it.all.drop i = it.all[i] :: it.all.drop (i + 1) := List.drop_eq_getElem_cons hlt
      rw [hd] at hl
      unfold forLoop at hl
      split at hl
      · rename_i c
        refine .inr ⟨w.go i M2 H2 S2 e2 r2 c hlt, _, fun σ' H' n => n, fun x H3 y => ?_⟩
        obtain ⟨e3, r3, q3⟩ := w.yld i it.all[i] M2 H2 S2 x H3 e2 r2 c (by simp [hlt]) y
        split at hl
        · cases hl
        · rename_i ρ1 eg
          obtain ⟨rr, S3, h3, hl⟩ := bind_inv hl
          refine ok M2 H3 S2 _ x ρ2 ρ1 σ2 _ r3 q3 (re2.ext r2 e3) eg fun σ1 re1 _ => ?_
          refine ⟨M2, ρ1, S2, rr, S3, r3, re1, h3, fun M4 H4 σ4 e4 r4 re4 => ?_⟩
          have ee := (e2.trans e3).trans e4
          split <;> rename_i ef
          · rw [ef] at hl
            exact ⟨it.all.length - (i + 1), by omega, rfl, hlt, M4, rr.2, S3, ee, r4, re4, hl⟩
          · rw [ef] at hl
            cases hl
            exact k M4 H4 σ4 (e1.trans ee) r4 re4
          · rw [ef] at hl
            exact ⟨it.all.length - (i + 1), by omega, rfl, hlt, M4, rr.2, S3, ee, r4, re4, hl⟩
          · rw [ef] at hl
            cases hl
            exact k M4 H4 σ4 (e1.trans ee) r4 re4
      · cases hl
    · have ei : i = it.all.length := by omega
      have hd : it.all.drop i = [] := by rw [ei]; exact List.drop_length
      rw [hd] at hl
      unfold forLoop at hl
      split at hl
      · rename_i c
        cases hl
        exact .inl ⟨w.stop i M2 H2 _ e2 r2 c ei.symm, k M2 H2 σ2 (e1.trans e2) r2 re2⟩
      · cases hl
theorem pxs_while {c : Expr} {body : List Stmt} {t : T} {b : St} {pos : Pos} (hp : PassesOwn (model X.prog X.w) X.A X.env X.xe) (hc : PXT nm X c t) (hb : PXSs nm X body b) : PXS nm X (.While c body [] pos) (sWhile t b) :=
  PS.imp (ps_while hp hc hb) fun σ0 H0 D ⟨M, ρ, S, r, S', rs, re, h, k⟩ => by
    unfold sWhile at h
    refine ⟨fun m σ H => ∃ M2 ρ2 S2, Ext M H0 M2 H ∧ RelS nm X.K X.mg M2 S2 H ∧ RelE X.K M2 H ρ2 σ ∧ whileLoop t b m ρ2 S2 = .ok r S', ⟨TURNS, M, ρ, S, Ext.refl, rs, re, h⟩, ?_⟩
    rintro m σ2 H2 ⟨M2, ρ2, S2, e2, r2, re2, hl⟩
    cases m with
    | zero => cases hl
    | succ m =>
      unfold whileLoop at hl
      obtain ⟨cb, S3, h3, hl⟩ := bind_inv hl
      refine ⟨M2, ρ2, S2, cb, S3, r2, re2, h3, fun M3 H3 e3 r3 => ?_⟩
      have re3 := re2.ext r2 e3
      cases cb with
      | true =>
        refine iteT ⟨_, fun σ' H' n => n, ?_⟩
        rw [if_pos rfl] at hl
        obtain ⟨rr, S4, h4, hl⟩ := bind_inv hl
        refine ⟨M3, ρ2, S3, rr, S4, r3, re3, h4, fun M4 H4 σ4 e4 r4 re4 => ?_⟩
        have ee := (e2.trans e3).trans e4
        split <;> rename_i ef
        · rw [ef] at hl
          exact ⟨m, Nat.lt_succ_self m, M4, rr.2, S4, ee, r4, re4, hl⟩
        · rw [ef] at hl
          cases hl
          exact k M4 H4 σ4 ee r4 re4
        · rw [ef] at hl
          exact ⟨m, Nat.lt_succ_self m, M4, rr.2, S4, ee, r4, re4, hl⟩
        · rw [ef] at hl
          cases hl
          exact k M4 H4 σ4 ee r4 re4
      | false =>
        refine iteF ?_
        rw [if_neg Bool.false_ne_true] at hl
        cases hl
        exact k M3 H3 σ2 (e2.trans e3) r3 re3
end
end PF
end
section
set_option linter.all false
set_option Elab.async false
set_option linter.all false
set_option maxRecDepth 100003
set_option maxHeartbeats 2000003
set_option autoImplicit false
namespace PF
open PySem L2
theorem upd_self {H : Hp} {a : Addr} {o : HO} (h : H a = some o) : upd H a o = H := by
  funext b
  unfold upd
  split
  · rename_i e
    rw [e, h]
  · rfl
section
variable {nm : Nm} {X : Cx} {M M' : List Addr} {H H' : Hp} {S S' S1 : Sto} {ρ : Env} {σ : L2.St} {Q : VK} {d : D}
/-- the reading of a comprehension's turns -/
theorem lc_read {J : It} {it : Iter} {tgg : TG} {g : G} {is vs : List Nat} {t : T} {e : E} {D0 : Addr} {ys : List D} {Qd : Hp → Prop} (hv : ∀ i ∈ is, i ∈ vs) (ok : GOk nm X tgg g is) (rs : RelS nm X.K X.mg M S H) (re : RelE X.K M H ρ σ) (w : WalkJ nm X J M H it)
    (h : compLoop it g t e (PF.wipe ρ vs) it.all S = .ok ys S') (hl : ys.length ≤ LIM) (hD : H D0 = none)
    (k : ∀ M' H' zs, Ext M H M' H' → RelS nm X.K X.mg M' S' H' → D0 ∉ M' → H' D0 = some (.lst zs) → RelDs X.K M' H' ys zs → Qd H') :
    ∃ W : Nat → Nat → Hp → Prop, (∃ m, W 0 m (upd H D0 (.lst []))) ∧ ∀ i m H, W i m H → (J.stop i H ∧ Qd H) ∨ (J.go i H ∧ ∃ Nx : Hp → Prop, (∀ H', Nx H' → ∃ m', m' < m ∧ W (i + 1) m' H') ∧ ∀ x H', J.yld i H x H' → tgg x (L2.wipe σ vs) H' fun σ2 H2 => L2.wipe σ2 vs = L2.wipe σ vs ∧ (rT nm X t) σ2 H2 fun b H3 =>
      if b = true then (rE nm X e) σ2 H3 fun y H4 => ∃ acc, H4 D0 = some (.lst acc) ∧ acc.length < sizeLine ∧ Nx (upd H4 D0 (.lst (acc ++ [y]))) else Nx H3) := by
  refine ⟨fun i m H2 => m = it.all.length - i ∧ i ≤ it.all.length ∧ ∃ M2 S2 done acc rest, Ext M H M2 H2 ∧ RelS nm X.K X.mg M2 S2 H2 ∧ D0 ∉ M2 ∧ H2 D0 = some (.lst acc) ∧ RelDs X.K M2 H2 done acc ∧ compLoop it g t e (PF.wipe ρ vs) (it.all.drop i) S2 = .ok rest S' ∧ ys = done ++ rest,
    ⟨_, rfl, Nat.zero_le _, M, S, [], [], ys, Ext.tup hD, rs.tup hD, rs.fresh hD, upd_same, .nil, h, rfl⟩, ?_⟩
  rintro i m H2 ⟨rfl, hi, M2, S2, done, acc, rest, e2, r2, nD, hacc, qa, hc, ey⟩
  by_cases hlt : i < it.all.length
  · have hd : it.all.drop i = it.all[i] :: it.all.drop (i + 1) := List.drop_eq_getElem_cons hlt
    rw [hd] at hc
    unfold compLoop at hc
    split at hc
    · rename_i c
      refine .inr ⟨w.go i M2 H2 S2 e2 r2 c hlt, _, fun H' n => n, fun x H3 y => ?_⟩
      obtain ⟨e3, r3, q3⟩ := w.yld i it.all[i] M2 H2 S2 x H3 e2 r2 c (by simp [hlt]) y
      split at hc
      · cases hc
      · rename_i ρ1 eg
        obtain ⟨b, S3, h3, hc⟩ := bind_inv hc
        refine ok M2 H3 S2 _ x _ ρ1 _ _ r3 q3 (((re.ext rs e2).ext r2 e3).wipe vs) eg fun σ1 re1 wi => ⟨by rw [wi vs hv, wipe_wipe], ?_⟩
        refine ⟨M2, ρ1, S2, b, S3, r3, re1, h3, fun M4 H4 e4 r4 => ?_⟩
        have acc3 : H3 D0 = some (.lst acc) := e3.fr D0 _ hacc nD
        have kp4 : H4 D0 = some (.lst acc) := e4.fr D0 _ acc3 nD
        have nD4 : D0 ∉ M4 := fun hm => by
          have z := e4.new D0 hm nD
          rw [acc3] at z
          cases z
        cases b with
        | true =>
          refine iteT ?_
          rw [if_pos rfl] at hc
          obtain ⟨y, S5, h5, hc⟩ := bind_inv hc
          obtain ⟨ys', S6, h6, hc⟩ := bind_inv hc
          cases hc
          refine ⟨M4, ρ1, S3, y, S5, r4, re1.ext r3 e4, h5, fun M5 H5 v e5 r5 q5 => ?_⟩
          have kp5 : H5 D0 = some (.lst acc) := e5.fr D0 _ kp4 nD4
          have nD5 : D0 ∉ M5 := fun hm => by
            have z := e5.new D0 hm nD4
            rw [kp4] at z
            cases z
          have qa5 := RelDs.ext r4 e5 (RelDs.ext r3 e4 (RelDs.ext r2 e3 qa))
          have hlen : acc.length < sizeLine := by
            rw [← qa.length, ← LIM_eq]
            rw [ey, List.length_append, List.length_cons] at hl
            omega
          refine ⟨acc, kp5, hlen, it.all.length - (i + 1), by omega, rfl, hlt, M5, S5, done ++ [y], acc ++ [v], ys', ?_, ?_, nD5, upd_same, ?_, h6, by rw [ey]; simp⟩
          · have ee := ((e2.trans e3).trans e4).trans e5
            refine ⟨ee.pre, ee.new, fun a o ha n => ?_, fun a o ps ha => ?_⟩
            · have ne : a ≠ D0 := fun z => by rw [z, hD] at ha; cases ha
              rw [upd_ne ne]
              exact ee.fr a o ha n
            · have ne : a ≠ D0 := fun z => by rw [z, hD] at ha; cases ha
              rw [upd_ne ne]
              exact ee.frz a o ps ha
          · refine ⟨r5.len, r5.nd, fun n a o h1 h2 => (r5.obj n a o h1 h2).mo ⟨fun _ _ z => z, fun b us z => ?_⟩ (upd_ne fun z => nD5 (by rw [← z]; exact List.mem_of_getElem? h1))⟩
            rcases z with (z | ⟨o, z⟩) | z
            · exact .inl (.inl (by rw [upd_ne (ne_of z kp5 (fun q => nomatch q))]; exact z))
            · exact .inl (.inr ⟨o, by rw [upd_ne (ne_of z kp5 (fun q => nomatch q))]; exact z⟩)
            · exact .inr z
          · have mo : Mo X.K M5 H5 M5 (upd H5 D0 (.lst (acc ++ [v]))) := ⟨fun _ _ z => z, fun b us z => by
              rcases z with (z | ⟨o, z⟩) | z
              · exact .inl (.inl (by rw [upd_ne (ne_of z kp5 (fun q => nomatch q))]; exact z))
              · exact .inl (.inr ⟨o, by rw [upd_ne (ne_of z kp5 (fun q => nomatch q))]; exact z⟩)
              · exact .inr z⟩
            exact (qa5.append (.cons q5 .nil)).mo mo
        | false =>
          refine iteF ?_
          rw [if_neg Bool.false_ne_true] at hc
          exact ⟨it.all.length - (i + 1), by omega, rfl, hlt, M4, S3, done, acc, rest, (e2.trans e3).trans e4, r4, nD4, kp4, RelDs.ext r3 e4 (RelDs.ext r2 e3 qa), hc, ey⟩
    · cases hc
  · have ei : i = it.all.length := by omega
    have hd : it.all.drop i = [] := by rw [ei]; exact List.drop_length
    rw [hd] at hc
    unfold compLoop at hc
    split at hc
    · rename_i c
      cases hc
      rw [List.append_nil] at ey
      subst ey
      exact .inl ⟨w.stop i M2 H2 _ e2 r2 c ei.symm, k M2 H2 acc e2 r2 nD hacc qa⟩
    · cases hc
/-- a list that the comprehension made gets its place -/
theorem name_new {D0 : Addr} {zs : List V} {ys : List D} {M1 : List Addr} {H1 : Hp} (hD : H D0 = none) (e : Ext M H M1 H1) (r : RelS nm X.K X.mg M1 S H1) (nD : D0 ∉ M1) (hz : H1 D0 = some (.lst zs)) (q : RelDs X.K M1 H1 ys zs) :
    Ext M H (M1 ++ [D0]) H1 ∧ RelS nm X.K X.mg (M1 ++ [D0]) (S ++ [.lst ys]) H1 := by
  have es := upd_self hz
  have mo : Mo X.K M1 H1 (M1 ++ [D0]) (upd H1 D0 (.lst zs)) := Mo.adopt hz (fun _ z => nomatch z) (fun _ _ z => nomatch z)
  have r2 := r.adopt nD hz (fun _ z => nomatch z) (fun _ _ z => nomatch z) (o := .lst zs) (mo := .lst ys) ⟨zs, upd_same, q.mo mo⟩
  rw [es] at r2
  refine ⟨⟨?_, fun x hx n => ?_, e.fr, e.frz⟩, r2⟩
  · obtain ⟨T, rfl⟩ := e.pre
    exact ⟨T ++ [D0], by rw [List.append_assoc]⟩
  · rcases List.mem_append.mp hx with z | z
    · exact e.new x z n
    · have : x = D0 := by simpa using z
      rw [this]
      exact hD
theorem px_lc {elt tg iter : Expr} {ifs : List Expr} {scope : Scope} {own : List (Str × Nat)} {pos : Pos} {f : I} {tgg : TG} {g : G} {is : List Nat} {t : T} {e : E} (hc : X.calm = true) (hN : X.N.Nodup) (hi : PXI nm X tg iter f) (okb : BlkOk X.N X.env.scope scope own) (hv : ∀ i ∈ is, i ∈ own.map (·.2)) (ok : GOk nm X tgg g is)
    (hg : ∀ (s : Shared) (H : Hp) (C : Addr) (cl : List (Str × Addr)) (fp : List Addr), PG (X.blk s H scope (compEnvC scope cl C X.env) fp) tg tgg)
    (ht : ∀ (s : Shared) (H : Hp) (C : Addr) (cl : List (Str × Addr)) (fp : List Addr), PTs (X.blk s H scope (compEnvC scope cl C X.env) fp) ifs (rT nm X t))
    (he : ∀ (s : Shared) (H : Hp) (C : Addr) (cl : List (Str × Addr)) (fp : List Addr), PE (X.blk s H scope (compEnvC scope cl C X.env) fp) elt (rE nm X e)) (hs : ∀ x, foldedSetIterable iter X.env x = pure x) :
    PX nm X (.ListComp elt [⟨tg, iter, ifs, 0⟩] scope pos) (eComp f (own.map (·.2)) g t e) :=
  PE.imp (pe_lc hc hN hi okb hg ht he hs) fun σ H Q ⟨M, ρ, S, d, S', rs, re, h, k⟩ => by
    unfold eComp at h
    obtain ⟨it, S1, h1, h⟩ := bind_inv h
    obtain ⟨ys, S2, h2, h⟩ := bind_inv h
    split at h
    · rename_i c
      cases h
      refine ⟨M, ρ, S, it, S1, rs, re, h1, fun M1 H1 J e1 r1 w D0 hD => ?_⟩
      refine lc_read hv ok r1 (re.ext rs e1) w h2 c hD fun M3 H3 zs e3 r3 nD hz q => ?_
      obtain ⟨e4, r4⟩ := name_new hD e3 r3 nD hz q
      refine k _ _ _ (e1.trans e4) r4 ?_
      unfold RelD
      exact ⟨D0, rfl, r3.last⟩
    · cases h
/-- name = [..], the name a local -/
theorem pxs_setLc {i : Nat} {y : Str} {py : Pos} {elt tg iter : Expr} {ifs : List Expr} {scope : Scope} {own : List (Str × Nat)} {pos spos : Pos} {f : I} {tgg : TG} {g : G} {is : List Nat} {t : T} {e : E} (hc : X.calm = true) (hN : X.N.Nodup) (hy : X.N[i]? = some y) (hyl : X.env.scope.names.lookup y = some .local)
    (hsw : swapsWith (.ListComp elt [⟨tg, iter, ifs, 0⟩] scope pos) (some (.Name y py)) spos.line X.env = pure true) (hi : PXI nm X tg iter f) (okb : BlkOk X.N X.env.scope scope own) (hv : ∀ i ∈ is, i ∈ own.map (·.2)) (ok : GOk nm X tgg g is)
    (hg : ∀ (s : Shared) (H : Hp) (C : Addr) (cl : List (Str × Addr)) (fp : List Addr), PG (X.blk s H scope (compEnvC scope cl C X.env) fp) tg tgg)
    (ht : ∀ (s : Shared) (H : Hp) (C : Addr) (cl : List (Str × Addr)) (fp : List Addr), PTs (X.blk s H scope (compEnvC scope cl C X.env) fp) ifs (rT nm X t))
    (he : ∀ (s : Shared) (H : Hp) (C : Addr) (cl : List (Str × Addr)) (fp : List Addr), PE (X.blk s H scope (compEnvC scope cl C X.env) fp) elt (rE nm X e)) (hs : ∀ x, foldedSetIterable iter X.env x = pure x) :
    PXS nm X (.Assign [.Name y py] (.ListComp elt [⟨tg, iter, ifs, 0⟩] scope pos) spos) (sSet i (eComp f (own.map (·.2)) g t e)) :=
  PS.imp (ps_setLc hc hN hy hyl hsw hi okb hg ht he hs) fun σ H D ⟨M, ρ, S, r, S', rs, re, h, k⟩ => by
    unfold sSet at h
    obtain ⟨x, S0, h0, h⟩ := bind_inv h
    cases h
    unfold eComp at h0
    obtain ⟨it, S1, h1, h0⟩ := bind_inv h0
    obtain ⟨ys, S2, h2, h0⟩ := bind_inv h0
    split at h0
    · rename_i c
      cases h0
      refine ⟨M, ρ, S, it, S1, rs, re, h1, fun M1 H1 J e1 r1 w D0 hD => ?_⟩
      refine lc_read hv ok r1 (re.ext rs e1) w h2 c hD fun M3 H3 zs e3 r3 nD hz q => ?_
      obtain ⟨e4, r4⟩ := name_new hD e3 r3 nD hz q
      refine k _ _ _ (e1.trans e4) r4 ?_
      refine RelE.set ((re.ext rs e1).ext r1 e4) ?_
      unfold RelD
      exact ⟨D0, rfl, r3.last⟩
    · cases h0
theorem pxts_nil : PTs X [] (rT nm X tYes) := ⟨fun pins s σ H Q I h => (pts_nil (X := X)).run pins s σ H Q I (by
  obtain ⟨M, ρ, S, b, S', rs, re, h, k⟩ := h
  unfold PF.tYes at h
  cases h
  exact k M H Ext.refl rs)⟩
theorem pxts_one {c : Expr} {t : T} (h : PXT nm X c t) : PTs X [c] (rT nm X t) := pts_one h
theorem pxss_nil : PXSs nm X [] sNext := PSs.imp pss_nil fun σ H D ⟨M, ρ, S, r, S', rs, re, h, k⟩ => by
  unfold sNext at h
  cases h
  exact k M H σ Ext.refl rs re
theorem pxss_cons {st : Stmt} {rest : List Stmt} {a b : St} (h1 : PXS nm X st a) (h2 : PXSs nm X rest b) : PXSs nm X (st :: rest) (sSeq a b) :=
  PSs.imp (pss_cons h1 h2) fun σ H D ⟨M, ρ, S, r, S', rs, re, h, k⟩ => by
    unfold sSeq at h
    obtain ⟨r1, S1, h1, h⟩ := bind_inv h
    refine ⟨M, ρ, S, r1, S1, rs, re, h1, fun M1 H1 σ1 e1 rs1 re1 => ?_⟩
    cases ef : r1.1 with
    | nx =>
      rw [ef] at h
      exact ⟨M1, r1.2, S1, r, S', rs1, re1, h, fun M2 H2 σ2 e2 => k M2 H2 σ2 (e1.trans e2)⟩
    | bk => rw [ef] at h; cases h; exact k M1 H1 σ1 e1 rs1 re1
    | ct => rw [ef] at h; cases h; exact k M1 H1 σ1 e1 rs1 re1
    | rt d => rw [ef] at h; cases h; exact k M1 H1 σ1 e1 rs1 re1
theorem pxss_one {st : Stmt} {a : St} (h1 : PXS nm X st a) : PXSs nm X [st] a := pss_one h1
theorem pxs_set {i : Nat} {x : Str} {e : Expr} {f : E} {pos pos' : Pos} (hN : X.N.Nodup) (hi : X.N[i]? = some x) (hx : Loc X.env.scope x) (he : PX nm X e f) (hs : swapsWith e (some (.Name x pos')) pos.line X.env = pure false) (hf : X.fn x = true ∨ X.env.scope.names.lookup x = some .local) : PXS nm X (.Assign [.Name x pos'] e pos) (sSet i f) :=
  PS.imp (ps_set hN hi hx he hs hf) fun σ H D ⟨M, ρ, S, r, S', rs, re, h, k⟩ => by
    unfold sSet at h
    obtain ⟨x, S1, h1, h⟩ := bind_inv h
    cases h
    exact rE.go rs re h1 fun M1 H1 v e1 r1 q1 => k M1 H1 _ e1 r1 ((re.ext rs e1).set q1)
theorem pxs_asg {tg e : Expr} {f : E} {tgg : TG} {g : G} {is : List Nat} {pos : Pos} (he : PX nm X e f) (hg : PG X tg tgg) (ok : GOk nm X tgg g is) (hs : swapsWithSole [tg] e pos.line X.env = pure false) (hw : swappedStores [tg] e X.env = pure none) (h1 : (assignEach [tg] X.env).map (·.2) = [assign tg X.env]) : PXS nm X (.Assign [tg] e pos) (sAsg g f) :=
  PS.imp (ps_asg he hg hs hw h1) fun σ H D ⟨M, ρ, S, r, S', rs, re, h, k⟩ => by
    unfold sAsg at h
    obtain ⟨x, S1, h1, h⟩ := bind_inv h
    split at h
    · rename_i ρ1 eg
      cases h
      refine rE.go rs re h1 fun M1 H1 v e1 r1 q1 => ?_
      exact ok M1 H1 _ x v ρ ρ1 σ _ r1 q1 (re.ext rs e1) eg fun σ1 re1 _ => k M1 H1 σ1 e1 r1 re1
    · cases h
theorem pxs_expr {e : Expr} {f : E} {pos : Pos} (he : PX nm X e f) (hs : swapsWith e none pos.line X.env = pure false) : PXS nm X (.Expr e pos) (sExpr f) :=
  PS.imp (ps_expr he hs) fun σ H D ⟨M, ρ, S, r, S', rs, re, h, k⟩ => by
    unfold sExpr at h
    obtain ⟨x, S1, h1, h⟩ := bind_inv h
    cases h
    exact rE.go rs re h1 fun M1 H1 v e1 r1 q1 => k M1 H1 σ e1 r1 (re.ext rs e1)
theorem pxs_ret {e : Expr} {f : E} {pos : Pos} (he : PX nm X e f) : PXS nm X (.Return (some e) pos) (sRet f) :=
  PS.imp (ps_ret he) fun σ H D ⟨M, ρ, S, r, S', rs, re, h, k⟩ => by
    unfold sRet at h
    obtain ⟨x, S1, h1, h⟩ := bind_inv h
    cases h
    exact rE.go rs re h1 fun M1 H1 v e1 r1 q1 => k M1 H1 σ e1 r1 (re.ext rs e1) v q1
theorem pxs_if {c : Expr} {a b : List Stmt} {t : T} {f g : St} {pos : Pos} (hc : PXT nm X c t) (ha : PXSs nm X a f) (hb : PXSs nm X b g) : PXS nm X (.If c a b pos) (sIf t f g) :=
  PS.imp (ps_if hc ha hb) fun σ H D ⟨M, ρ, S, r, S', rs, re, h, k⟩ => by
    unfold sIf at h
    obtain ⟨c, S1, h1, h⟩ := bind_inv h
    refine rT.go rs re h1 fun M1 H1 e1 r1 => ?_
    cases c with
    | true => exact iteT ⟨M1, ρ, S1, r, S', r1, re.ext rs e1, h, fun M2 H2 σ2 e2 => k M2 H2 σ2 (e1.trans e2)⟩
    | false => exact iteF ⟨M1, ρ, S1, r, S', r1, re.ext rs e1, h, fun M2 H2 σ2 e2 => k M2 H2 σ2 (e1.trans e2)⟩
/-- a raise that is never come to -/
theorem pxs_raise0 {st : Stmt} {c : Nat} {a : A} : PXS nm X st (sRaise c a) := PS.imp ps_never fun σ H D ⟨M, ρ, S, r, S', rs, re, h, k⟩ => by
  unfold sRaise at h
  obtain ⟨xs, S1, h1, h⟩ := bind_inv h
  cases h
/-- xs[i] = v -/
theorem pxs_sub {o i v : Expr} {fo fi fv : E} {pos pos' : Pos} (ho : PX nm X o fo) (hi : PX nm X i fi) (hv : PX nm X v fv)
    (ha : ∀ v, assign (.Subscript o i pos') X.env v = (do
      let ov ← holding [v] (eval o X.env)
      let iv ← holding [v, ov] (eval i X.env)
      standAt pos'
      holding [v, ov, iv] (PySem.setItem ov iv v)
      release [v, ov, iv] []))
    (hs : swapsWithSole [.Subscript o i pos'] v pos.line X.env = pure false) (hw : swappedStores [.Subscript o i pos'] v X.env = pure none) (h1 : (assignEach [.Subscript o i pos'] X.env).map (·.2) = [assign (.Subscript o i pos') X.env]) :
    PXS nm X (.Assign [.Subscript o i pos'] v pos) (sSub fo fi fv) :=
  PS.imp (ps_asg hv (pg_sub ho hi set_list ha) hs hw h1) fun σ H D ⟨M, ρ, S, r, S', rs, re, h, k⟩ => by
    unfold sSub at h
    obtain ⟨x, S1, h1, h⟩ := bind_inv h
    obtain ⟨a, S2, h2, h⟩ := bind_inv h
    obtain ⟨y, S3, h3, h⟩ := bind_inv h
    refine rE.go rs re h1 fun M1 H1 vx e1 r1 q1 => ?_
    refine rE.go r1 (re.ext rs e1) h2 fun M2 H2 va e2 r2 q2 => ?_
    refine rE.go r2 ((re.ext rs e1).ext r1 e2) h3 fun M3 H3 vy e3 r3 q3 => ?_
    have q1 := RelD.ext r2 e3 (RelD.ext r1 e2 q1)
    have q2 := RelD.ext r2 e3 q2
    have re3 := ((re.ext rs e1).ext r1 e2).ext r2 e3
    split at h
    · rename_i S4 e4
      cases h
      unfold PF.setItem at e4
      cases a with
      | ref n =>
        cases y with
        | int i =>
          dsimp only at e4
          split at e4
          · rename_i ds ed
            split at e4
            · rename_i j ej
              cases e4
              obtain ⟨b, rfl, hb⟩ := q2.ref
              obtain ⟨vs, ka, qa⟩ := lst_wr r3 hb (wr_lst ed)
              have ex : Ext M3 H3 M3 (upd H3 b (.lst (vs.set j vx))) := Ext.set (List.mem_of_getElem? hb) ka (fun _ _ z => nomatch z)
              refine ⟨b, vs, i, j, rfl, q3.int, ka, by rw [← qa.length]; exact ej, ?_⟩
              exact k _ _ _ ((e1.trans e2).trans (e3.trans ex)) (r3.set hb ka (fun _ _ z => nomatch z) ⟨_, upd_same, RelDs.ext r3 ex (qa.set j q1)⟩) (re3.ext r3 ex)
            · cases e4
          · cases e4
        | _ => cases e4
      | _ => cases e4
    · cases h
end
end PF
end
section
set_option linter.all false
set_option Elab.async false
set_option linter.all false
set_option maxRecDepth 100003
set_option maxHeartbeats 2000003
set_option autoImplicit false
namespace PF
open PySem L2
section
variable {nm : Nm} {X : Cx} {M M' : List Addr} {H H' : Hp} {S S' S1 : Sto} {ρ : Env} {σ : L2.St} {Q : VK} {d : D}
/-- what the top has left of a class: its fields are no class attributes -/
structure ClsOk (nm : Nm) (K : PySem.W.Frag) (mg : Str → Option Value) (c : Nat) (C : Addr) (fs : List Nat) : Prop where
  mgC : mg (nm.cls c) = some (.ref C)
  cl : Cls K C
  no : ∀ f ∈ fs, NoAttr K C (nm.fld f)
theorem ins_at {c n : Nat} {fs : List (Nat × D)} (h : insOf c n S = some fs) : S[n]? = some (.ins c fs) := by
  unfold insOf at h
  split at h
  · split at h
    · rename_i e
      cases h
      subst e
      assumption
    · cases h
  · cases h
theorem ins_rel (rs : RelS nm X.K X.mg M S H) {c n : Nat} {a C : Addr} {fs : List (Nat × D)} {fl : List Nat} (k : ClsOk nm X.K X.mg c C fl) (hn : M[n]? = some a) (h : insOf c n S = some fs) : ∃ dx gs, H a = some (.ins C dx gs) ∧ RelFs nm X.K M H fs gs := by
  obtain ⟨C', dx, gs, h1, h2, h3⟩ := rs.obj n a _ hn (ins_at h)
  have e := h2.symm.trans k.mgC
  cases e
  exact ⟨dx, gs, h1, h3⟩
theorem fget_rel {K : PySem.W.Frag} {f : Nat} : ∀ {fs : List (Nat × D)} {gs : List (Str × V)} {d : D}, RelFs nm K M H fs gs → fget fs f = some d → ∃ v, gs.lookup (nm.fld f) = some v ∧ RelD K M H d v
  | [], _, _, _, h => by simp [fget] at h
  | p :: r, _, d, q, h => by
    obtain ⟨v, qs, rfl, q1, q2⟩ := q
    unfold fget at h
    rw [List.find?_cons] at h
    by_cases e : p.1 = f
    · subst e
      simp only [beq_self_eq_true] at h
      cases h
      exact ⟨v, by simp [List.lookup], q1⟩
    · have e1 : (p.1 == f) = false := by simpa using e
      simp only [e1] at h
      have e2 : (nm.fld f == nm.fld p.1) = false := by
        rw [beq_eq_false_iff_ne]
        exact fun z => e (nm.inj _ _ z.symm)
      obtain ⟨w, h1, h2⟩ := fget_rel (f := f) q2 h
      exact ⟨w, by simp only [List.lookup, e2]; exact h1, h2⟩
theorem fput_rel {K : PySem.W.Frag} {f : Nat} {v : V} (r : RelD K M H d v) : ∀ {fs : List (Nat × D)} {gs : List (Str × V)}, RelFs nm K M H fs gs → RelFs nm K M H (fput fs f d) (putF (nm.fld f) v gs)
  | [], _, q => by
    have e : _ = [] := q
    subst e
    exact ⟨v, [], rfl, r, rfl⟩
  | p :: t, _, q => by
    obtain ⟨w, qs, rfl, q1, q2⟩ := q
    obtain ⟨a, b⟩ := p
    by_cases e : a = f
    · subst e
      have e1 : fput ((a, b) :: t) a d = (a, d) :: t := by simp [fput]
      have e2 : putF (nm.fld a) v ((nm.fld a, w) :: qs) = (nm.fld a, v) :: qs := by simp [putF]
      rw [e1, e2]
      exact ⟨v, qs, rfl, r, q2⟩
    · have e1 : fput ((a, b) :: t) f d = (a, b) :: fput t f d := by simp [fput, e]
      have e2 : putF (nm.fld f) v ((nm.fld a, w) :: qs) = (nm.fld a, w) :: putF (nm.fld f) v qs := by
        have ne : ¬ nm.fld a = nm.fld f := fun z => e (nm.inj _ _ z)
        simp [putF, ne]
      rw [e1, e2]
      exact ⟨w, _, rfl, q1, fput_rel r q2⟩
theorem fs_len {K : PySem.W.Frag} : ∀ {fs : List (Nat × D)} {gs : List (Str × V)}, RelFs nm K M H fs gs → fs.length = gs.length
  | [], _, q => by have e : _ = [] := q; subst e; rfl
  | p :: t, _, q => by
    obtain ⟨w, qs, rfl, q1, q2⟩ := q
    simp [fs_len q2]
/-- e.f -/
theorem px_fld {c f : Nat} {C : Addr} {fl : List Nat} {e : Expr} {fe : E} {pos : Pos} {fn : Str} (k : ClsOk nm X.K X.mg c C fl) (hf : f ∈ fl) (ef : fn = nm.fld f) (he : PX nm X e fe) (hb : attributeBase e fn X.env (eval e X.env) = eval e X.env) : PX nm X (.Attribute e fn pos) (e1 (gFld c f) fe) := by
  subst ef
  refine PE.imp (pe_fld he hb) fun σ H Q ⟨M, ρ, S, d, S', rs, re, h, kk⟩ => ?_
  unfold e1 at h
  obtain ⟨x, S1, h1, h⟩ := bind_inv h
  refine rE.go rs re h1 fun M1 H1 v e1 r1 q1 => ?_
  unfold gFld at h
  cases x with
  | ref n =>
    dsimp only at h
    split at h
    · rename_i fs ei
      split at h
      · rename_i d' ed
        cases h
        obtain ⟨a, rfl, ha⟩ := q1.ref
        obtain ⟨dx, gs, h2, h3⟩ := ins_rel r1 k ha ei
        obtain ⟨w, h4, h5⟩ := fget_rel h3 ed
        exact ⟨a, C, dx, gs, w, rfl, h2, k.cl, k.no f hf, h4, (kk.ext e1).here r1 h5⟩
      · cases h
    · cases h
  | _ => cases h
/-- e.f = v -/
theorem pxs_fld {c f : Nat} {C : Addr} {fl : List Nat} {o v : Expr} {fo fv : E} {pos pos' : Pos} {fn : Str} (k : ClsOk nm X.K X.mg c C fl) (hf : f ∈ fl) (ef : fn = nm.fld f) (ho : PX nm X o fo) (hv : PX nm X v fv) (hs : swapsWith v (some (.Attribute o fn pos')) pos.line X.env = pure false) :
    PXS nm X (.Assign [.Attribute o fn pos'] v pos) (sFld c f fo fv) := by
  subst ef
  refine PS.imp (ps_fld ho hv hs) fun σ H D ⟨M, ρ, S, r, S', rs, re, h, kk⟩ => ?_
  unfold PF.sFld at h
  obtain ⟨x, S1, h1, h⟩ := bind_inv h
  obtain ⟨a, S2, h2, h⟩ := bind_inv h
  refine rE.go rs re h1 fun M1 H1 vx e1 r1 q1 => ?_
  refine rE.go r1 (re.ext rs e1) h2 fun M2 H2 va e2 r2 q2 => ?_
  have q1 := RelD.ext r1 e2 q1
  have re2 := (re.ext rs e1).ext r1 e2
  split at h
  · rename_i S4 e4
    cases h
    unfold setFld at e4
    cases a with
    | ref n =>
      dsimp only at e4
      split at e4
      · rename_i fs ei
        split at e4
        · rename_i cl
          cases e4
          obtain ⟨a, rfl, ha⟩ := q2.ref
          obtain ⟨dx, gs, h3, h4⟩ := ins_rel r2 k ha ei
          have ex : Ext M2 H2 M2 (upd H2 a (.ins C dx (putF (nm.fld f) vx gs))) := Ext.set (List.mem_of_getElem? ha) h3 (fun _ _ z => nomatch z)
          refine ⟨a, C, dx, gs, rfl, h3, k.cl, k.no f hf, by rw [← fs_len h4]; omega, ?_⟩
          exact kk _ _ _ ((e1.trans e2).trans ex) (r2.set ha h3 (fun _ _ z => nomatch z) ⟨C, dx, _, upd_same, k.mgC, RelFs.ext r2 ex (fput_rel q1 h4)⟩) (re2.ext r2 ex)
        · cases e4
      · cases e4
    | _ => cases e4
  · cases h
def spF (nm : Nm) (K : PySem.W.Frag) (mg : Str → Option Value) (n : Nat) (f : Fn) : Sp := fun vs H Q _ => ∃ M S ds d S', RelS nm K mg M S H ∧ RelDs K M H ds vs ∧ vs.length = n ∧ f ds S = .ok d S' ∧ ∀ M' H' v, Ext M H M' H' → RelS nm K mg M' S' H' → RelD K M' H' d v → Q v H'
theorem len_arg {f : Fn} {n : Nat} {K : PySem.W.Frag} {mg : Str → Option Value} {vs : List V} {E : XK} {Q : VK} (h : spF nm K mg n f vs H Q E) : vs.length = n := let ⟨_, _, _, _, _, _, _, e, _⟩ := h; e
/-- how many arguments are written -/
def ALen (f : A) (n : Nat) : Prop := ∀ ρ S ds S', f ρ S = .ok ds S' → ds.length = n
theorem call_read {f : Fn} {a : A} {n : Nat} (hl : ALen a n) {σ : L2.St} {H : Hp} {Q : VK} (h : rE nm X (eCall f a) σ H Q) : tCall (spF nm X.K X.mg n f) [] E0 (rA nm X a) σ H Q := by
  obtain ⟨M, ρ, S, d, S', rs, re, h, k⟩ := h
  unfold eCall at h
  obtain ⟨xs, S1, h1, h⟩ := bind_inv h
  refine rA.go rs re h1 fun M1 H1 vs e1 r1 q1 => ?_
  rw [List.append_nil]
  exact ⟨M1, S1, xs, d, S', r1, q1, by rw [← q1.length]; exact hl _ _ _ _ h1, h, fun M2 H2 v e2 r2 q2 => k M2 H2 v (e1.trans e2) r2 q2⟩
theorem px_call {k : Nat} {g : Addr} {fd : FuncData} {ps : List Str} {x : Str} {p pos : Pos} {e : Expr} {es : List Expr} {f : Fn} {a : A} {n : Nat} (F : FnOk X.prog X.w X.K X.mg X.base CX0 k g fd ps (spF nm X.K X.mg n f)) (hl : ALen a n) (hr : Room k X.A) (hg : Gl X x) (hm : X.mg x = some (.ref g)) (hk : PySem.W.keepIn X.K (.ref g) = true) (hb : Binds X.K fd ps [])
    (ha : PXA nm X (e :: es) a) (hdb : (x == ("__debug__" : Str)) = false) (he : starEach (e :: es) X.env = (false, eval e X.env) :: starEach es X.env) (hpl : (backTo pos (starEach es X.env)).any (·.1) = false) : PX nm X (.Call (.Name x p) (e :: es) [] pos) (eCall f a) :=
  PE.imp (pe_call F hr hg hm hk hb .nil pass0 ha hdb he hpl) fun σ H Q h => call_read hl h
theorem meth_read {c : Nat} {C : Addr} {fl : List Nat} {m : Str} {f : Fn} {o : E} {a : A} {n : Nat} (k : ClsOk nm X.K X.mg c C fl) (hm : ∀ f, nm.fld f ≠ m) (hl : ALen a n) {σ : L2.St} {H : Hp} {Q : VK} (h : rE nm X (eMeth c f o a) σ H Q) : tMeth C m (spF nm X.K X.mg (n + 1) f) [] E0 (rE nm X o) (rA nm X a) σ H Q := by
  obtain ⟨M, ρ, S, d, S', rs, re, h, kk⟩ := h
  unfold eMeth at h
  obtain ⟨x, S1, h1, h⟩ := bind_inv h
  refine rE.go rs re h1 fun M1 H1 v e1 r1 q1 => ?_
  cases x with
  | ref nn =>
    dsimp only at h
    split at h
    · rename_i fs ei
      obtain ⟨xs, S2, h2, h⟩ := bind_inv h
      obtain ⟨b, rfl, hb⟩ := q1.ref
      obtain ⟨dx, gs, h3, h4⟩ := ins_rel r1 k hb ei
      have nl : ∀ {fs : List (Nat × D)} {gs : List (Str × V)}, RelFs nm X.K M1 H1 fs gs → gs.lookup m = none := by
        intro fs
        induction fs with
        | nil => intro gs q; have e : gs = [] := q; subst e; rfl
        | cons p t ih =>
          intro gs q
          obtain ⟨w, qs, rfl, _, q2⟩ := q
          have e : (m == nm.fld p.1) = false := by rw [beq_eq_false_iff_ne]; exact fun z => hm _ z.symm
          simp only [List.lookup, e]
          exact ih q2
      refine ⟨b, dx, gs, rfl, h3, nl h4, ?_⟩
      refine rA.go r1 (re.ext rs e1) h2 fun M2 H2 vs e2 r2 q2 => ?_
      rw [List.append_nil]
      exact ⟨M2, _, .ref nn :: xs, d, S', r2, .cons (RelD.ext r1 e2 q1) q2, by rw [List.length_cons, ← q2.length]; exact congrArg (· + 1) (hl _ _ _ _ h2), h, fun M3 H3 v e3 r3 q3 => kk M3 H3 v ((e1.trans e2).trans e3) r3 q3⟩
    · cases h
  | _ => cases h
theorem px_meth {k c n : Nat} {C g : Addr} {fl : List Nat} {m : Str} {fd : FuncData} {ps : List Str} {apos pos : Pos} {o e : Expr} {es : List Expr} {f : Fn} {fo : E} {a : A} {pl : Sem Bool} (ko : ClsOk nm X.K X.mg c C fl) (hnm : ∀ f, nm.fld f ≠ m) (hm : Meth X.K C m g) (F : FnOk X.prog X.w X.K X.mg X.base CX0 k g fd ps (spF nm X.K X.mg (n + 1) f)) (hl : ALen a n) (hr : Room k X.A) (hb : Binds X.K fd ps [])
    (ho : PX nm X o fo) (ha : PXA nm X (e :: es) a) (hst : starEach (e :: es) X.env = (false, eval e X.env) :: starEach es X.env) (hpl : (backTo pos (starEach es X.env)).any (·.1) = false)
    (ht : eval (.Call (.Attribute o m apos) (e :: es) [] pos) X.env = (do
      let ov ← eval o X.env
      standAt apos.atName
      let (f, first) ← holding [ov] (getMethod ov m pl)
      callWith pos f first (backTo pos (starEach (e :: es) X.env)) (backToKw pos (keywordEach [] X.env)))) : PX nm X (.Call (.Attribute o m apos) (e :: es) [] pos) (eMeth c f fo a) :=
  PE.imp (pe_meth (dvs := []) (ds := []) ho ko.cl hm F hr hb .nil pass0 ha hst hpl ht) fun σ H Q h => meth_read ko hnm hl h
theorem px_meth0 {k c : Nat} {C g : Addr} {fl : List Nat} {m : Str} {fd : FuncData} {ps : List Str} {apos pos : Pos} {o : Expr} {f : Fn} {fo : E} {pl : Sem Bool} (ko : ClsOk nm X.K X.mg c C fl) (hnm : ∀ f, nm.fld f ≠ m) (hm : Meth X.K C m g) (F : FnOk X.prog X.w X.K X.mg X.base CX0 k g fd ps (spF nm X.K X.mg 1 f)) (hr : Room k X.A) (hb : Binds X.K fd ps [])
    (ho : PX nm X o fo)
    (ht : eval (.Call (.Attribute o m apos) [] [] pos) X.env = (do
      let ov ← eval o X.env
      standAt apos.atName
      let (f, first) ← holding [ov] (getMethod ov m pl)
      callWith pos f first (backTo pos (starEach [] X.env)) (backToKw pos (keywordEach [] X.env)))) : PX nm X (.Call (.Attribute o m apos) [] [] pos) (eMeth c f fo aNil) :=
  PE.imp (pe_meth0 (dvs := []) (ds := []) ho ko.cl hm F hr hb .nil pass0 ht) fun σ H Q h => by
    obtain ⟨M, ρ, S, d, S', rs, re, h, kk⟩ := h
    have z := meth_read (m := m) ko hnm (n := 0) (fun ρ S ds S' h => by unfold aNil at h; cases h; rfl) (show rE nm X (eMeth c f fo aNil) σ H Q from ⟨M, ρ, S, d, S', rs, re, h, kk⟩)
    obtain ⟨M, ρ, S, x, S1, rs, re, h1, k1⟩ := z
    refine ⟨M, ρ, S, x, S1, rs, re, h1, fun M1 H1 v e1 r1 q1 => ?_⟩
    obtain ⟨b, dx, gs, h2, h3, h4, M2, ρ2, S2, xs, S3, r2, re2, h5, k5⟩ := k1 M1 H1 v e1 r1 q1
    unfold aNil at h5
    cases h5
    exact ⟨b, dx, gs, h2, h3, h4, k5 M2 H1 [] Ext.refl r2 .nil⟩
/-- C(..) -/
theorem px_make {k c n : Nat} {C g : Addr} {fl : List Nat} {x : Str} {fd : FuncData} {ps : List Str} {p pos : Pos} {e : Expr} {es : List Expr} {f : Fn} {a : A} (ko : ClsOk nm X.K X.mg c C fl) (ex : x = nm.cls c) (Mk0 : Mk X.K C g) (F : FnOk X.prog X.w X.K X.mg X.base CX0 k g fd ps (spF nm X.K X.mg (n + 1) f)) (hl : ALen a n) (hr : Room (k + 1) X.A) (hg : Gl X x) (hb : Binds X.K fd ps [])
    (ha : PXA nm X (e :: es) a) (hdb : (x == ("__debug__" : Str)) = false) (he : starEach (e :: es) X.env = (false, eval e X.env) :: starEach es X.env) (hpl : (backTo pos (starEach es X.env)).any (·.1) = false) : PX nm X (.Call (.Name x p) (e :: es) [] pos) (eMake c f a) := by
  refine PE.imp (pe_make (dvs := []) (ds := []) Mk0 F hr hg (by rw [ex]; exact ko.mgC) hb .nil pass0 ha hdb he hpl) fun σ H Q ⟨M, ρ, S, d, S', rs, re, h, kk⟩ => ?_
  unfold eMake at h
  obtain ⟨xs, S1, h1, h⟩ := bind_inv h
  obtain ⟨r, S2, h2, h⟩ := bind_inv h
  split at h
  · rename_i er
    cases h
    subst er
    refine rA.go rs re h1 fun M1 H1 vs e1 r1 q1 => fun a dx ha hdx ne => ?_
    have hx2 : upd H1 dx (.own a) a = none := by rw [upd_ne (Ne.symm ne)]; exact ha
    have e2 : Ext M1 H1 M1 (upd H1 dx (.own a)) := Ext.tup hdx
    have r2 := r1.tup (o := .own a) hdx
    have e3 : Ext M1 (upd H1 dx (.own a)) (M1 ++ [a]) (upd (upd H1 dx (.own a)) a (.ins C dx [])) := Ext.push hx2
    have r3 : RelS nm X.K X.mg (M1 ++ [a]) (S1 ++ [.ins c []]) (upd (upd H1 dx (.own a)) a (.ins C dx [])) := r2.push hx2 ⟨C, dx, [], upd_same, ko.mgC, rfl⟩
    rw [List.append_nil]
    have ee := e2.trans e3
    refine ⟨M1 ++ [a], S1 ++ [.ins c []], .ref S1.length :: xs, .non, _, r3, .cons ?_ (RelDs.ext r1 ee q1), ?_, h2, fun M4 H4 v e4 r4 q4 => ⟨by unfold RelD at q4; exact q4, ?_⟩⟩
    · unfold RelD
      exact ⟨a, rfl, r1.last⟩
    · rw [List.length_cons, ← q1.length]
      exact congrArg (· + 1) (hl _ _ _ _ h1)
    · refine kk M4 H4 _ ((e1.trans ee).trans e4) r4 ?_
      unfold RelD
      exact ⟨a, rfl, e4.get r1.last⟩
  · cases h
theorem alen_nil : ALen aNil 0 := len_nil
theorem alen_cons {f : E} {r : A} {n : Nat} (h : ALen r n) : ALen (aCons f r) (n + 1) := len_cons h
end
theorem fn_ok {nm : Nm} {P : Program} {w : World} {K : PySem.W.Frag} {mg : Str → Option Value} {base : Heap} {x qual : Str} {st : Stmt} {f : Addr} {fd : FuncData} {N ps : List Str} {k : Nat} {b : St} (F : Fun K x qual st f fd) (Sc : FnScope N ps (defScope st))
    (hb : ∀ (cdv : Value) (A : Around) (outer : List PySem.Env) (s : Shared) (H : Hp) (E : XK), Room k (A.deeper (PyProof.Rows.envOfC qual (defScope st) s.heap.objs.size f cdv)) → PXSs nm (cxOf CX0 P w K mg base N qual (defScope st) f cdv A outer s H E).nox (defBody st) b) :
    FnOk P w K mg base CX0 (k + 1) f fd ps (spF nm K mg ps.length (fn N.length b)) := by
  refine F.ok Sc (fun vs H Q E h => len_arg h) (fun cdv A outer s H vs Q E hr h => ⟨_, hb cdv A outer s H E hr, ?_⟩)
  obtain ⟨M, S, ds, d, S', rs, q, hl, h, k⟩ := h
  unfold fn at h
  split at h
  · rename_i c
    obtain ⟨r, S1, h1, h⟩ := bind_inv h
    have hN : ps.length ≤ N.length := by have := congrArg List.length Sc.pre; rw [List.length_take] at this; omega
    refine ⟨M, ds.map some ++ List.replicate (N.length - ds.length) none, S, r, S1, rs, ?_, h1, fun M1 H1 σ1 e1 r1 re1 => ?_⟩
    · unfold L2.start
      rw [q.length]
      refine ⟨by simp [q.length], fun i d hi => ?_⟩
      by_cases hlt : i < ds.length
      · rw [List.getElem?_append_left (by simpa using hlt), List.getElem?_map] at hi
        cases e : ds[i]? with
        | none => rw [e] at hi; cases hi
        | some d' =>
          rw [e] at hi
          cases hi
          obtain ⟨v, h1, h2⟩ := q.get e
          refine ⟨v, ?_, h2⟩
          rw [List.getElem?_append_left (by rw [List.length_map, ← q.length]; exact hlt), List.getElem?_map, h1]
          rfl
      · rw [List.getElem?_append_right (by simpa using hlt), List.getElem?_replicate] at hi
        split at hi <;> cases hi
    · cases ef : r.1 with
      | nx => rw [ef] at h; cases h; exact k M1 H1 .non e1 r1 .mkN
      | rt d' => rw [ef] at h; cases h; exact fun v qv => k M1 H1 v e1 r1 qv
      | bk => rw [ef] at h; cases h
      | ct => rw [ef] at h; cases h
  · cases h
end PF
end
section
set_option linter.all false
set_option Elab.async false
set_option linter.all false
set_option maxRecDepth 100003
set_option maxHeartbeats 2000003
set_option autoImplicit false
namespace PF
open PySem L2
section
variable {nm : Nm} {X : Cx} {M M' : List Addr} {H H' : Hp} {S S' S1 : Sto} {ρ : Env} {σ : L2.St} {Q : VK} {d : D}
theorem chain_read {r r' : R2} {g g' : D → D → PF.M D} {fa fb fc : E} (hg : Op2 nm X r g) (hg' : Op2 nm X r' g') (h : rE nm X (eChain g g' fa fb fc) σ H Q) : tChain r r' (rE nm X fa) (rE nm X fb) (rE nm X fc) σ H Q := by
  obtain ⟨M, ρ, S, d, S', rs, re, h, k⟩ := h
  unfold eChain at h
  obtain ⟨x, S1, h1, h⟩ := bind_inv h
  obtain ⟨y, S2, h2, h⟩ := bind_inv h
  obtain ⟨z, S3, h3, h⟩ := bind_inv h
  refine rE.go rs re h1 fun M1 H1 vx e1 r1 q1 => ?_
  refine rE.go r1 (re.ext rs e1) h2 fun M2 H2 vy e2 r2 q2 => ?_
  refine hg M2 S2 H2 x y vx vy z S3 _ r2 (RelD.ext r1 e2 q1) q2 h3 fun M3 H3 v e3 r3 q3 => ?_
  cases z with
  | bl c =>
    refine ⟨c, q3.bl, ?_⟩
    have re3 := ((re.ext rs e1).ext r1 e2).ext r2 e3
    cases c with
    | true =>
      obtain ⟨w, S4, h4, h⟩ := bind_inv h
      refine iteT (rE.go r3 re3 h4 fun M4 H4 vw e4 r4 q4 => ?_)
      exact hg' M4 S4 H4 y w vy vw d S' Q r4 (RelD.ext r3 e4 (RelD.ext r2 e3 q2)) q4 h (k.ext (((e1.trans e2).trans e3).trans e4))
    | false =>
      cases h
      exact iteF (k M3 H3 _ ((e1.trans e2).trans e3) r3 .mkB)
  | _ => cases h
theorem px_chain {op op' : CmpOp} {r r' : R2} {g g' : D → D → PF.M D} {a b c : Expr} {fa fb fc : E} {pos : Pos} (ho : OpR X (compareOp op) r) (hg : Op2 nm X r g) (ho' : OpR X (compareOp op') r') (hg' : Op2 nm X r' g') (ha : PX nm X a fa) (hb : PX nm X b fb) (hc : PX nm X c fc)
    (hm : lastMarks [op, op'] [b, c] = false) : PX nm X (.Compare a [op, op'] [b, c] pos) (eChain g g' fa fb fc) := PE.imp (pe_chain ho ho' ha hb hc hm) fun σ H Q h => chain_read hg hg' h
theorem pxs_par2 {i j : Nat} {x y : Str} {a b : Expr} {f : A} {px py pt pos : Pos} {kt k2 pt2} (hc : X.calm = true) (hN : X.N.Nodup) (hi : X.N[i]? = some x) (hj : X.N[j]? = some y) (hij : i ≠ j)
    (hx : X.env.scope.names.lookup x = some .local) (hy : X.env.scope.names.lookup y = some .local) (ha : PXA nm X [a, b] f)
    (hw : swappedStores [.Tuple [.Name x px, .Name y py] kt pt] (.Tuple [a, b] k2 pt2) X.env = pure (some [x, y]))
    (hs : swapsWithSole [.Tuple [.Name x px, .Name y py] kt pt] (.Tuple [a, b] k2 pt2) pos.line X.env = pure false) :
    PXS nm X (.Assign [.Tuple [.Name x px, .Name y py] kt pt] (.Tuple [a, b] k2 pt2) pos) (sPar [i, j] f) :=
  PS.imp (ps_par hc hN hi hj hij hx hy ha hw hs) fun σ H D ⟨M, ρ, S, r, S', rs, re, h, k⟩ => by
    unfold sPar at h
    obtain ⟨xs, S1, h1, h⟩ := bind_inv h
    split at h
    · rename_i ρ1 e1
      cases h
      refine rA.go rs re h1 fun M1 H1 vs e2 r2 q2 => ?_
      match xs, e1 with
      | [d1, d2], e1 =>
        obtain ⟨v, w, rfl, q3, q4⟩ := q2.two
        cases e1
        exact ⟨v, w, rfl, k M1 H1 _ e2 r2 (((re.ext rs e2).set q3).set q4)⟩
      | [], e1 => cases e1
      | [_], e1 => cases e1
      | _ :: _ :: _ :: _, e1 => cases e1
    · cases h
theorem RelDs.three {K : PySem.W.Frag} {x y z : D} {vs : List V} (h : RelDs K M H [x, y, z] vs) : ∃ v u w, vs = [v, u, w] ∧ RelD K M H x v ∧ RelD K M H y u ∧ RelD K M H z w := by
  unfold RelDs at h
  obtain ⟨v, q, rfl, h1, h2⟩ := h
  obtain ⟨u, w, rfl, h3, h4⟩ := RelDs.two h2
  exact ⟨v, u, w, rfl, h1, h3, h4⟩
theorem pxs_par3 {i j l : Nat} {x y z : Str} {a b c : Expr} {f : A} {px py pz pt pos : Pos} {kt k2 pt2} (hc : X.calm = true) (hN : X.N.Nodup) (hi : X.N[i]? = some x) (hj : X.N[j]? = some y) (hl : X.N[l]? = some z) (hij : i ≠ j) (hil : i ≠ l) (hjl : j ≠ l)
    (hx : X.env.scope.names.lookup x = some .local) (hy : X.env.scope.names.lookup y = some .local) (hz : X.env.scope.names.lookup z = some .local) (ha : PXA nm X [a, b, c] f)
    (hw : swappedStores [.Tuple [.Name x px, .Name y py, .Name z pz] kt pt] (.Tuple [a, b, c] k2 pt2) X.env = pure (some [x, y, z]))
    (hs : swapsWithSole [.Tuple [.Name x px, .Name y py, .Name z pz] kt pt] (.Tuple [a, b, c] k2 pt2) pos.line X.env = pure false) :
    PXS nm X (.Assign [.Tuple [.Name x px, .Name y py, .Name z pz] kt pt] (.Tuple [a, b, c] k2 pt2) pos) (sPar [i, j, l] f) :=
  PS.imp (ps_par3 hc hN hi hj hl hij hil hjl hx hy hz ha hw hs) fun σ H D ⟨M, ρ, S, r, S', rs, re, h, k⟩ => by
    unfold sPar at h
    obtain ⟨xs, S1, h1, h⟩ := bind_inv h
    split at h
    · rename_i ρ1 e1
      cases h
      refine rA.go rs re h1 fun M1 H1 vs e2 r2 q2 => ?_
      match xs, e1 with
      | [d1, d2, d3], e1 =>
        obtain ⟨v, w, u, rfl, q3, q4, q5⟩ := q2.three
        cases e1
        exact ⟨v, w, u, rfl, k M1 H1 _ e2 r2 ((((re.ext rs e2).set q3).set q4).set q5)⟩
      | [], e1 => cases e1
      | [_], e1 => cases e1
      | [_, _], e1 => cases e1
      | _ :: _ :: _ :: _ :: _, e1 => cases e1
    · cases h
def TabEs : List (D × D) → List DictEntry → Prop
  | [], es => es = []
  | p :: r, es => ∃ (e : DictEntry) (q : List DictEntry) (k v : List Nat) (t u : Tok), es = e :: q ∧ p = (.str k, .str v) ∧ e.key = .str (strOf k) t ∧ e.val = .str (strOf v) u ∧ TabEs r q
def TabOk (X : Cx) (d : Addr) (t : List (D × D)) : Prop := ∃ es n, KDict X.K X.w d es n ∧ TabEs t es.toList
theorem tab_find : ∀ {t : List (D × D)} {es : List DictEntry} (k : List Nat), TabEs t es →
    (dget t (.str k) = none ∧ es.find? (·.key.isStr (strOf k)) = none ∧ es.any (·.refKey) = false) ∨ ∃ (v : List Nat) (e : DictEntry) (u : Tok), dget t (.str k) = some (.str v) ∧ es.find? (·.key.isStr (strOf k)) = some e ∧ e.val = .str (strOf v) u
  | [], _, k, h => by
    have e : _ = [] := h
    subst e
    exact .inl ⟨rfl, rfl, rfl⟩
  | p :: r, _, k, h => by
    obtain ⟨e, q, k', v, t, u, rfl, rfl, ek, ev, h⟩ := h
    unfold dget
    rw [List.find?_cons, List.find?_cons]
    by_cases c : k' = k
    · subst c
      have e1 : e.key.isStr (strOf k') = true := by rw [ek]; simp [Value.isStr]
      simp only [e1, decide_true]
      exact .inr ⟨v, e, u, rfl, rfl, ev⟩
    · have e1 : e.key.isStr (strOf k) = false := by
        rw [ek]
        show (strOf k' == strOf k) = false
        rw [beq_eq_false_iff_ne]
        exact fun z => c (strOf_inj z)
      have e2 : decide ((D.str k', D.str v).1 = D.str k) = false := decide_eq_false (fun z => c (by injection z))
      simp only [e1, e2]
      rcases tab_find k h with ⟨a, b, c'⟩ | w
      · refine .inl ⟨a, b, ?_⟩
        rw [List.any_cons, c']
        simp [DictEntry.refKey, ek]
      · exact .inr w
theorem tab_ns {a : Addr} {t : List (D × D)} {es : Array DictEntry} {n : Nat} (D0 : KDict X.K X.w a es n) (h : TabEs t es.toList) (k : List Nat) :
    (dget t (.str k) = none ∧ PySem.W.nsIn X.K a (strOf k) = some none) ∨ ∃ (v : List Nat) (u : Value), dget t (.str k) = some (.str v) ∧ PySem.W.nsIn X.K a (strOf k) = some (some u) ∧ RelV (.str (strOf v)) u := by
  unfold PySem.W.nsIn
  rw [D0.at_]
  dsimp only
  rcases tab_find k h with ⟨z1, z2, z3⟩ | ⟨v, e, u, z1, z2, z3⟩
  · rw [z2, z3]
    exact .inl ⟨z1, rfl⟩
  · rw [z2]
    exact .inr ⟨v, e.val, z1, rfl, u, z3⟩
/-- TABLE.get(k, x) -/
theorem px_kget {x : Str} {a : Addr} {t : List (D × D)} {e g : Expr} {fe fg : E} {p apos cpos : Pos} (T : TabOk X a t) (hgl : Gl X x) (hm : X.mg x = some (.ref a)) (hd : (x == ("__debug__" : Str)) = false) (he : PX nm X e fe) (hg : PX nm X g fg) (m : M2 X (.Name x p) "get" apos e g cpos) :
    PX nm X (.Call (.Attribute (.Name x p) "get" apos) [e, g] [] cpos) (e2 (kGet t) fe fg) := by
  refine ⟨fun pins s σ H Q I h => ?_⟩
  obtain ⟨M, ρ, S, d, S', rs, re, h, k⟩ := h
  obtain ⟨es, n, D0, te⟩ := T
  unfold e2 at h
  obtain ⟨y, S1, h1, h⟩ := bind_inv h
  obtain ⟨z, S2, h2, h⟩ := bind_inv h
  refine wpAny_Call_method m.base m.few m.line PySem.F.plainAttrs_dict PySem.F.slot_dict_get PySem.F.type_dict_get (thn ((pe_glob (v := .ref a) hgl hm rfl hd).run pins s σ H (fun v H1 => v = .ref a ∧ H1 = H) I ⟨rfl, rfl⟩) fun u s1 ⟨v, H1, I1, rx, ev, eH⟩ => ?_)
  subst ev eH
  obtain rfl : u = Value.ref a := rx
  have mp : ∀ {s : Shared}, L2.Inv X pins σ H1 s → s.heap.MapOf (PySem.strKind X.prog X.w) a (fun k => findBy Value.isStrOf es k) := fun I => PySem.W.mapOf_K (prog := X.prog) I.kIn D0.at_ D0.lit
  refine ⟨(mp I1).typeIs, (mp I1).noDict, ?_⟩
  rw [m.trees]
  refine Calls.callWith_builtin rfl (Calls.evalArgs_plain (Calls.spliced_cons (thn (he.run pins s1 σ H1 (fun v H2 => ∃ M2, Ext M H1 M2 H2 ∧ RelS nm X.K X.mg M2 S1 H2 ∧ RelD X.K M2 H2 y v) I1 (rE.go rs re h1 fun M2 H2 v e2 r2 q2 => ⟨M2, e2, r2, q2⟩)) fun iv s2 ⟨vy, H2, I2, ry, M2, e2, r2, q2⟩ =>
    Calls.spliced_cons (thn (hg.run pins s2 σ H2 (fun v H3 => ∃ M3, Ext M2 H2 M3 H3 ∧ RelS nm X.K X.mg M3 S2 H3 ∧ RelD X.K M3 H3 z v) I2 (rE.go r2 (re.ext rs e2) h2 fun M3 H3 v e3 r3 q3 => ⟨M3, e3, r3, q3⟩)) fun fv s3 ⟨vz, H3, I3, rz, M3, e3, r3, q3⟩ => Calls.spliced_nil ?_))))
  unfold kGet at h
  cases y with
  | str ky =>
    cases h
    obtain rfl := q2.str
    obtain ⟨tk, rfl⟩ := ry
    have mp3 : s3.heap.MapOf (PySem.strKind X.prog X.w) a (fun k => findBy Value.isStrOf es k) := PySem.W.mapOf_K (prog := X.prog) I3.kIn D0.at_ D0.lit
    refine call_meetsIn PySem.F.slot_dict_get mp3.typeIs PySem.F.entry_dict_get (PySem.F.args_dict_get_3 _ _ _) (meets_dict_get_default (PySem.strKind X.prog X.w) a (PySem.strKind_is X.prog X.w _ tk) D0.low fv) ⟨_, mp3, ?_⟩
    have kk := k.ext (e2.trans e3)
    rcases tab_ns D0 te ky with ⟨z1, z2⟩ | ⟨v, u, z1, z2, z3⟩
    · rw [PySem.W.find_K D0.at_ z2]
      rw [z1] at kk
      exact ⟨vz, H3, I3.tok _, rz, kk.here r3 q3⟩
    · rw [PySem.W.find_K D0.at_ z2]
      rw [z1] at kk
      exact ⟨_, H3, I3.tok _, z3, kk.here r3 .mkS⟩
  | _ => cases h
/-- TABLE[k] -/
theorem px_kix {x : Str} {a : Addr} {t : List (D × D)} {i : Expr} {fi : E} {p pos : Pos} (T : TabOk X a t) (hgl : Gl X x) (hm : X.mg x = some (.ref a)) (hd : (x == ("__debug__" : Str)) = false) (hi : PX nm X i fi) (hs : NoSl i) : PX nm X (.Subscript (.Name x p) i pos) (e1 (kIx t) fi) := by
  refine ⟨fun pins s σ H Q I h => ?_⟩
  obtain ⟨M, ρ, S, d, S', rs, re, h, k⟩ := h
  obtain ⟨es, n, D0, te⟩ := T
  unfold e1 at h
  obtain ⟨y, S1, h1, h⟩ := bind_inv h
  refine subD_of PySem.F.slot_dict_getitem.lookup hs (thn ((pe_glob (v := .ref a) hgl hm rfl hd).run pins s σ H (fun v H1 => v = .ref a ∧ H1 = H) I ⟨rfl, rfl⟩) fun u s1 ⟨v, H1, I1, rx, ev, eH⟩ => ?_)
  subst ev eH
  obtain rfl : u = Value.ref a := rx
  refine thn (hi.run pins s1 σ H1 (fun v H2 => ∃ M2, Ext M H1 M2 H2 ∧ RelS nm X.K X.mg M2 S1 H2 ∧ RelD X.K M2 H2 y v) I1 (rE.go rs re h1 fun M2 H2 v e2 r2 q2 => ⟨M2, e2, r2, q2⟩)) fun iv s2 ⟨vy, H2, I2, ry, M2, e2, r2, q2⟩ => ?_
  refine ⟨(PySem.W.mapOf_K (prog := X.prog) (w := X.w) I2.kIn D0.at_ D0.lit).typeIs, ?_⟩
  unfold kIx at h
  cases y with
  | str ky =>
    dsimp only at h
    split at h
    · rename_i d' ed
      cases h
      obtain rfl := q2.str
      rcases tab_ns D0 te ky with ⟨z1, z2⟩ | ⟨v, u, z1, z2, z3⟩
      · rw [z1] at ed; cases ed
      · rw [z1] at ed
        cases ed
        exact op_item_kd D0 pins s2 σ H2 (.ref a) (.str (strOf ky)) (.ref a) iv Q I2 rfl ry ⟨_, u, _, rfl, rfl, z2, z3, (k.ext e2).here r2 .mkS⟩
    · cases h
  | _ => cases h
/-- k not in TABLE -/
theorem pxt_kNotIn {x : Str} {a : Addr} {t : List (D × D)} {i : Expr} {fi : E} {p pos : Pos} (T : TabOk X a t) (hgl : Gl X x) (hm : X.mg x = some (.ref a)) (hd : (x == ("__debug__" : Str)) = false) (hi : PX nm X i fi) : PXT nm X (.Compare i [.NotIn] [.Name x p] pos) (tE (e1 (kNotIn t) fi)) := by
  obtain ⟨es, n, D0, te⟩ := T
  refine pxt_of (PT.imp (pt_cmpR (op_notIn_kd D0) hi (pe_glob (v := .ref a) hgl hm rfl hd) rfl) fun σ H Q ⟨M, ρ, S, d, S', rs, re, h, k⟩ => ?_)
  unfold e1 at h
  obtain ⟨y, S1, h1, h⟩ := bind_inv h
  refine rE.go rs re h1 fun M1 H1 v e1 r1 q1 => ?_
  unfold kNotIn at h
  cases y with
  | str ky =>
    cases h
    obtain rfl := q1.str
    rcases tab_ns D0 te ky with ⟨z1, z2⟩ | ⟨v, u, z1, z2, z3⟩
    · refine ⟨_, _, rfl, rfl, z2, ?_⟩
      rw [z1] at k
      exact k M1 H1 _ e1 r1 .mkB
    · refine ⟨_, _, rfl, rfl, z2, ?_⟩
      rw [z1] at k
      exact k M1 H1 _ e1 r1 .mkB
  | _ => cases h
end
end PF
end
section
set_option linter.all false
set_option Elab.async false
set_option linter.all false
set_option maxRecDepth 100003
set_option maxHeartbeats 2000003
set_option autoImplicit false
namespace PF
open PySem L2
theorem hu1 {k : Nat} {A : Around} (h : Room k A) : A.units + 1 < cLine := by have := h.un; omega
theorem hu64 {k : Nat} {A : Around} (h : Room k A) : A.units + 64 < cLine := by have := h.un; omega
theorem hu65 {k : Nat} {A : Around} (h : Room k A) : A.units + 65 < cLine := by have := h.un; omega
def ndbg (x : Str) : Bool := !(x == ("__debug__" : Str)) && !(x == ("__classdict__" : Str))
/-- names of fields -/
def fldOf (ns : List Str) (n : Nat) : Str := match ns[n]? with
  | some s => s
  | none => ⟨(List.replicate (n + 100) 0).toArray⟩
theorem fldOf_inj {ns : List Str} (nd : ns.Nodup) (hl : ∀ x ∈ ns, x.cps.size < 100) (a b : Nat) (h : fldOf ns a = fldOf ns b) : a = b := by
  unfold fldOf at h
  cases ea : ns[a]? with
  | none =>
    cases eb : ns[b]? with
    | none =>
      rw [ea, eb] at h
      have h2 := congrArg (fun s : Str => s.cps.size) h
      simp at h2
      exact h2
    | some y =>
      rw [ea, eb] at h
      have h2 := congrArg (fun s : Str => s.cps.size) h
      have h3 := hl y (List.mem_of_getElem? eb)
      simp at h2
      omega
  | some x =>
    cases eb : ns[b]? with
    | none =>
      rw [ea, eb] at h
      have h2 := congrArg (fun s : Str => s.cps.size) h
      have h3 := hl x (List.mem_of_getElem? ea)
      simp at h2
      omega
    | some y =>
      rw [ea, eb] at h
      have e : x = y := h
      subst e
      obtain ⟨la, qa⟩ := List.getElem?_eq_some_iff.mp ea
      obtain ⟨lb, qb⟩ := List.getElem?_eq_some_iff.mp eb
      rcases Nat.lt_trichotomy a b with z | z | z
      · exact absurd (qa.trans qb.symm) (List.pairwise_iff_getElem.mp nd a b la lb z)
      · exact z
      · exact absurd (qb.trans qa.symm) (List.pairwise_iff_getElem.mp nd b a lb la z)
def nmOf (cs ns : List Str) (nd : ns.Nodup) (hl : ∀ x ∈ ns, x.cps.size < 100) : Nm := ⟨fun n => cs.getD n "", fldOf ns, fldOf_inj nd hl⟩
theorem fldOf_ne {ns : List Str} {m : Str} (h : m ∉ ns) (hm : m.cps.size < 100) (f : Nat) : fldOf ns f ≠ m := by
  unfold fldOf
  intro e
  cases q : ns[f]? with
  | none =>
    rw [q] at e
    have h2 := congrArg (fun s : Str => s.cps.size) e
    simp at h2
    omega
  | some y =>
    rw [q] at e
    have e : y = m := e
    subst e
    exact h (List.mem_of_getElem? q)
def GlI (mg : Str → Option Value) (x : Str) (i : Int) : Prop := ∃ t, mg x = some (.int i t)
def GlS (mg : Str → Option Value) (x : Str) (s : List Nat) : Prop := ∃ t, mg x = some (.str (strOf s) t)
def GlT (K : PySem.W.Frag) (mg : Str → Option Value) (x : Str) (ds : List D) : Prop := ∃ a vs, mg x = some (.ref a) ∧ (∀ H, SqT K H a vs) ∧ ∀ M H, RelDs K M H ds vs
def GlD (K : PySem.W.Frag) (w : World) (mg : Str → Option Value) (x : Str) (t : List (D × D)) : Prop := ∃ a, mg x = some (.ref a) ∧ ∃ es n, KDict K w a es n ∧ TabEs t es.toList
/-- a def that keeps its promise -/
def Cal (nm : Nm) (P : Program) (w : World) (K : PySem.W.Frag) (mg : Str → Option Value) (base : Heap) (k : Nat) (x : Str) (ps : List Str) (f : Fn) : Prop :=
  ∃ g fd, FnOk P w K mg base CX0 k g fd ps (spF nm K mg ps.length f) ∧ mg x = some (.ref g) ∧ PySem.W.keepIn K (.ref g) = true ∧ Binds K fd ps []
/-- .. a method -/
def CalM (nm : Nm) (P : Program) (w : World) (K : PySem.W.Frag) (mg : Str → Option Value) (base : Heap) (k : Nat) (C : Addr) (m : Str) (ps : List Str) (f : Fn) : Prop :=
  ∃ g fd, FnOk P w K mg base CX0 k g fd ps (spF nm K mg ps.length f) ∧ Meth K C m g ∧ Binds K fd ps []
/-- .. an __init__ -/
def CalI (nm : Nm) (P : Program) (w : World) (K : PySem.W.Frag) (mg : Str → Option Value) (base : Heap) (k : Nat) (C : Addr) (ps : List Str) (f : Fn) : Prop :=
  ∃ g fd, FnOk P w K mg base CX0 k g fd ps (spF nm K mg ps.length f) ∧ Mk K C g ∧ Binds K fd ps []
section
variable {nm : Nm} {X : Cx}
theorem wv (nd : X.N.all ndbg = true) {i : Nat} {x : Str} {pos : Pos} (hN : X.N[i]? = some x) (hv : Vis X.env.scope x) : PX nm X (.Name x pos) (eVar i) := by
  have h := List.all_eq_true.mp nd x (List.mem_of_getElem? hN)
  unfold ndbg at h
  rw [Bool.and_eq_true, Bool.not_eq_true', Bool.not_eq_true'] at h
  exact px_var hN hv h.1 h.2
theorem wd_globI {x : Str} {i : Int} {pos : Pos} (h : GlI X.mg x i) (hg : Gl X x) (hd : (x == ("__debug__" : Str)) = false) : PX nm X (.Name x pos) (eC (.int i)) := by
  obtain ⟨t, h⟩ := h
  exact px_glob (v := .int i) hg h ⟨t, rfl⟩ (.int i) hd
theorem wd_globS {x : Str} {s : List Nat} {pos : Pos} (h : GlS X.mg x s) (hg : Gl X x) (hd : (x == ("__debug__" : Str)) = false) : PX nm X (.Name x pos) (eC (.str s)) := by
  obtain ⟨t, h⟩ := h
  exact px_glob (v := .str (strOf s)) hg h ⟨t, rfl⟩ (.str rfl) hd
theorem wd_globT {x : Str} {ds : List D} {pos : Pos} (h : GlT X.K X.mg x ds) (hg : Gl X x) (hd : (x == ("__debug__" : Str)) = false) : PX nm X (.Name x pos) (eC (.tup ds)) := by
  obtain ⟨a, vs, h1, h2, h3⟩ := h
  exact px_globT hg h1 h2 h3 hd
theorem wd_kget {x : Str} {t : List (D × D)} {e g : Expr} {fe fg : E} {p apos cpos : Pos} (T : GlD X.K X.w X.mg x t) (hgl : Gl X x) (hd : (x == ("__debug__" : Str)) = false) (he : PX nm X e fe) (hg : PX nm X g fg) (m : M2 X (.Name x p) "get" apos e g cpos) :
    PX nm X (.Call (.Attribute (.Name x p) "get" apos) [e, g] [] cpos) (e2 (kGet t) fe fg) := by
  obtain ⟨a, hm, T⟩ := T
  exact px_kget T hgl hm hd he hg m
theorem wd_kix {x : Str} {t : List (D × D)} {i : Expr} {fi : E} {p pos : Pos} (T : GlD X.K X.w X.mg x t) (hgl : Gl X x) (hd : (x == ("__debug__" : Str)) = false) (hi : PX nm X i fi) (hs : NoSl i) : PX nm X (.Subscript (.Name x p) i pos) (e1 (kIx t) fi) := by
  obtain ⟨a, hm, T⟩ := T
  exact px_kix T hgl hm hd hi hs
theorem wd_kNotIn {x : Str} {t : List (D × D)} {i : Expr} {fi : E} {p pos : Pos} (T : GlD X.K X.w X.mg x t) (hgl : Gl X x) (hd : (x == ("__debug__" : Str)) = false) (hi : PX nm X i fi) : PXT nm X (.Compare i [.NotIn] [.Name x p] pos) (tE (e1 (kNotIn t) fi)) := by
  obtain ⟨a, hm, T⟩ := T
  exact pxt_kNotIn T hgl hm hd hi
theorem wd_call {k : Nat} {x : Str} {ps : List Str} {p pos : Pos} {e : Expr} {es : List Expr} {f : Fn} {a : A} (C : Cal nm X.prog X.w X.K X.mg X.base k x ps f) (hl : ALen a ps.length) (hr : Room k X.A) (hg : Gl X x)
    (ha : PXA nm X (e :: es) a) (hdb : (x == ("__debug__" : Str)) = false) (he : starEach (e :: es) X.env = (false, eval e X.env) :: starEach es X.env) (hpl : (backTo pos (starEach es X.env)).any (·.1) = false) : PX nm X (.Call (.Name x p) (e :: es) [] pos) (eCall f a) := by
  obtain ⟨g, fd, F, hm, hk, hb⟩ := C
  exact px_call F hl hr hg hm hk hb ha hdb he hpl
theorem wd_meth {k c : Nat} {C : Addr} {fl : List Nat} {m : Str} {ps : List Str} {q : Str} {apos pos : Pos} {o e : Expr} {es : List Expr} {f : Fn} {fo : E} {a : A} {pl : Sem Bool} (ko : ClsOk nm X.K X.mg c C fl) (hnm : ∀ f, nm.fld f ≠ m) (F : CalM nm X.prog X.w X.K X.mg X.base k C m (q :: ps) f) (hl : ALen a ps.length) (hr : Room k X.A)
    (ho : PX nm X o fo) (ha : PXA nm X (e :: es) a) (hst : starEach (e :: es) X.env = (false, eval e X.env) :: starEach es X.env) (hpl : (backTo pos (starEach es X.env)).any (·.1) = false)
    (ht : eval (.Call (.Attribute o m apos) (e :: es) [] pos) X.env = (do
      let ov ← eval o X.env
      standAt apos.atName
      let (f, first) ← holding [ov] (getMethod ov m pl)
      callWith pos f first (backTo pos (starEach (e :: es) X.env)) (backToKw pos (keywordEach [] X.env)))) : PX nm X (.Call (.Attribute o m apos) (e :: es) [] pos) (eMeth c f fo a) := by
  obtain ⟨g, fd, F, hm, hb⟩ := F
  exact px_meth ko hnm hm F hl hr hb ho ha hst hpl ht
theorem wd_meth0 {k c : Nat} {C : Addr} {fl : List Nat} {m : Str} {q : Str} {apos pos : Pos} {o : Expr} {f : Fn} {fo : E} {pl : Sem Bool} (ko : ClsOk nm X.K X.mg c C fl) (hnm : ∀ f, nm.fld f ≠ m) (F : CalM nm X.prog X.w X.K X.mg X.base k C m [q] f) (hr : Room k X.A)
    (ho : PX nm X o fo)
    (ht : eval (.Call (.Attribute o m apos) [] [] pos) X.env = (do
      let ov ← eval o X.env
      standAt apos.atName
      let (f, first) ← holding [ov] (getMethod ov m pl)
      callWith pos f first (backTo pos (starEach [] X.env)) (backToKw pos (keywordEach [] X.env)))) : PX nm X (.Call (.Attribute o m apos) [] [] pos) (eMeth c f fo aNil) := by
  obtain ⟨g, fd, F, hm, hb⟩ := F
  exact px_meth0 ko hnm hm F hr hb ho ht
theorem wd_make {k c : Nat} {C : Addr} {fl : List Nat} {x : Str} {ps : List Str} {q : Str} {p pos : Pos} {e : Expr} {es : List Expr} {f : Fn} {a : A} (ko : ClsOk nm X.K X.mg c C fl) (ex : x = nm.cls c) (F : CalI nm X.prog X.w X.K X.mg X.base k C (q :: ps) f) (hl : ALen a ps.length) (hr : Room (k + 1) X.A) (hg : Gl X x)
    (ha : PXA nm X (e :: es) a) (hdb : (x == ("__debug__" : Str)) = false) (he : starEach (e :: es) X.env = (false, eval e X.env) :: starEach es X.env) (hpl : (backTo pos (starEach es X.env)).any (·.1) = false) : PX nm X (.Call (.Name x p) (e :: es) [] pos) (eMake c f a) := by
  obtain ⟨g, fd, F, hm, hb⟩ := F
  exact px_make ko ex hm F hl hr hg hb ha hdb he hpl
section
variable {e : Expr} {es : List Expr} {fa : A} {p pos : Pos}
theorem bv_len : bootBuiltins "len" = some (.builtin "len") := PySem.boot_len
theorem bv_min : bootBuiltins "min" = some (.builtin "min") := by decide +kernel
theorem bv_sorted : bootBuiltins "sorted" = some (.builtin "sorted") := by decide +kernel
theorem bv_int : bootBuiltins "int" = some (.type "int") := by decide +kernel
theorem bv_list : bootBuiltins "list" = some (.type "list") := by decide +kernel
theorem bv_tuple : bootBuiltins "tuple" = some (.type "tuple") := by decide +kernel
theorem wd_len (hg : Gl X "len") (hm : X.mg "len" = none) (ha : PXA nm X (e :: es) fa) (he : starEach (e :: es) X.env = (false, eval e X.env) :: starEach es X.env) (hpl : (backTo pos (starEach es X.env)).any (·.1) = false) : PX nm X (.Call (.Name "len" p) (e :: es) [] pos) (eCall fLen fa) :=
  px_cb (pe_callB call_len hg hm bv_len ha (by decide +kernel) (by decide +kernel) he hpl) opn_len
theorem wd_min (hc : X.calm = true) (hg : Gl X "min") (hm : X.mg "min" = none) (ha : PXA nm X (e :: es) fa) (he : starEach (e :: es) X.env = (false, eval e X.env) :: starEach es X.env) (hpl : (backTo pos (starEach es X.env)).any (·.1) = false) : PX nm X (.Call (.Name "min" p) (e :: es) [] pos) (eCall fMin fa) :=
  px_cb (pe_callB (call_min2 hc) hg hm bv_min ha (by decide +kernel) (by decide +kernel) he hpl) opn_min
theorem wd_sortedI (hg : Gl X "sorted") (hm : X.mg "sorted" = none) (ha : PXA nm X (e :: es) fa) (he : starEach (e :: es) X.env = (false, eval e X.env) :: starEach es X.env) (hpl : (backTo pos (starEach es X.env)).any (·.1) = false) : PX nm X (.Call (.Name "sorted" p) (e :: es) [] pos) (eCall fSortedI fa) :=
  px_cb (pe_callB cr_sortedI hg hm bv_sorted ha (by decide +kernel) (by decide +kernel) he hpl) opn_sortedI
theorem wd_int (hg : Gl X "int") (hm : X.mg "int" = none) (ha : PXA nm X (e :: es) fa) (he : starEach (e :: es) X.env = (false, eval e X.env) :: starEach es X.env) (hpl : (backTo pos (starEach es X.env)).any (·.1) = false) : PX nm X (.Call (.Name "int" p) (e :: es) [] pos) (eCall fInt fa) :=
  px_cb (pe_callTy call_int1 hg hm bv_int ha (by decide +kernel) (by decide +kernel) he hpl) opn_int
theorem wd_list (hg : Gl X "list") (hm : X.mg "list" = none) (ha : PXA nm X (e :: es) fa) (he : starEach (e :: es) X.env = (false, eval e X.env) :: starEach es X.env) (hpl : (backTo pos (starEach es X.env)).any (·.1) = false) : PX nm X (.Call (.Name "list" p) (e :: es) [] pos) (eCall fList fa) :=
  px_cb (pe_callTy call_list_of hg hm bv_list ha (by decide +kernel) (by decide +kernel) he hpl) opn_list
theorem wd_tuple (hg : Gl X "tuple") (hm : X.mg "tuple" = none) (ha : PXA nm X (e :: es) fa) (he : starEach (e :: es) X.env = (false, eval e X.env) :: starEach es X.env) (hpl : (backTo pos (starEach es X.env)).any (·.1) = false) : PX nm X (.Call (.Name "tuple" p) (e :: es) [] pos) (eCall fTuple fa) :=
  px_cb (pe_callTy call_tuple_of hg hm bv_tuple ha (by decide +kernel) (by decide +kernel) he hpl) opn_tuple
end
section
variable {o e : Expr} {fo fa : E} {apos cpos : Pos}
theorem wd_append (ho : PX nm X o fo) (ha : PX nm X e fa) (hbase : attributeBase o "append" X.env (eval o X.env) = eval o X.env)
    (hfew : ((backTo cpos (starEach [e] X.env)).all (fun x => !x.1) && (backToKw cpos (keywordEach [] X.env)).all (fun x => x.1.isSome) && decide ([e].length + ([] : List Keyword).length + (if ([] : List Keyword).isEmpty then 0 else 1) < 30)) = true)
    (hline : (apos.endLine == cpos.line) = true) (hs : starEach [e] X.env = (false, eval e X.env) :: starEach [] X.env) (hp : (backTo cpos (starEach [] X.env)).any (·.1) = false) : PX nm X (.Call (.Attribute o "append" apos) [e] [] cpos) (eM1 mAppend fo fa) :=
  px_m1 (pe_bm PySem.F.plainAttrs_list PySem.F.slot_list_append PySem.F.type_list_append mt_append ho (pa_cons ha pa_nil hs) hbase hfew hline hs hp) opm_append
theorem wd_pop (ho : PX nm X o fo) (ha : PX nm X e fa) (hbase : attributeBase o "pop" X.env (eval o X.env) = eval o X.env)
    (hfew : ((backTo cpos (starEach [e] X.env)).all (fun x => !x.1) && (backToKw cpos (keywordEach [] X.env)).all (fun x => x.1.isSome) && decide ([e].length + ([] : List Keyword).length + (if ([] : List Keyword).isEmpty then 0 else 1) < 30)) = true)
    (hline : (apos.endLine == cpos.line) = true) (hs : starEach [e] X.env = (false, eval e X.env) :: starEach [] X.env) (hp : (backTo cpos (starEach [] X.env)).any (·.1) = false) : PX nm X (.Call (.Attribute o "pop" apos) [e] [] cpos) (eM1 mPop fo fa) :=
  px_m1 (pe_bm PySem.F.plainAttrs_list PySem.F.slot_list_pop PySem.F.type_list_pop mt_popAt ho (pa_cons ha pa_nil hs) hbase hfew hline hs hp) opm_pop
end
end
end PF
end
section
set_option linter.all false
set_option Elab.async false
set_option linter.all false
set_option maxRecDepth 100003
set_option maxHeartbeats 2000003
set_option autoImplicit false
namespace PF
open PySem L2
section
variable {nm : Nm} {X : Cx} {M M' : List Addr} {H H' : Hp} {S S' S1 : Sto} {ρ : Env} {σ : L2.St} {Q : VK} {d : D}
theorem rel_rg {K : PySem.W.Frag} (lo hi : Int) : RelDs K M H (rangeD lo hi) (rgV lo hi) := by
  unfold rangeD rgV
  generalize List.range (hi - lo).toNat = l
  induction l with
  | nil => exact .nil
  | cons k r ih => exact .cons .mkI ih
theorem rangeD_length (lo hi : Int) : (rangeD lo hi).length = (hi - lo).toNat := by unfold rangeD; simp
theorem wd_tupRg1 {a : Expr} {f : E} {p p2 pos pos2 : Pos} (hc : X.calm = true) (hg : Gl X "tuple") (hm : X.mg "tuple" = none) (hg2 : Gl X "range") (hm2 : X.mg "range" = none) (ha : PX nm X a f) (na : starEach [a] X.env = (false, eval a X.env) :: starEach [] X.env)
    (na2 : starEach [.Call (.Name "range" p2) [a] [] pos2] X.env = (false, eval (.Call (.Name "range" p2) [a] [] pos2) X.env) :: starEach [] X.env) : PX nm X (.Call (.Name "tuple" p) [.Call (.Name "range" p2) [a] [] pos2] [] pos) (eTRg (iRange1 f)) :=
  PE.imp (pe_tupRg hc hg hm (prg_1 hg2 hm2 ha na) na2) fun σ H Q ⟨M, ρ, S, d, S', rs, re, h, k⟩ => by
    unfold eTRg iRange1 at h
    obtain ⟨it, S1, h1, h⟩ := bind_inv h
    obtain ⟨x, S2, h2, h1⟩ := bind_inv h1
    refine rE.go rs re h2 fun M1 H1 v e1 r1 q1 => ?_
    cases x with
    | int j =>
      dsimp only at h1
      split at h1
      · rename_i c
        cases h1
        split at h
        · rename_i c2
          cases h
          rw [rangeD_length] at c2
          refine ⟨j, q1.int, ⟨by omega, by omega, by omega, by omega, by unfold LIM at c2; omega⟩, fun q hq => (k.ext e1).tup r1 (rel_rg 0 j) hq⟩
        · cases h
      · cases h1
    | _ => cases h1
theorem setItem_read {H : Hp} {a y x : D} {va vy vx : V} {S S4 : Sto} {M : List Addr} {P : Hp → Prop} (r3 : RelS nm X.K X.mg M S H) (q2 : RelD X.K M H a va) (q3 : RelD X.K M H y vy) (q1 : RelD X.K M H x vx) (e4 : PF.setItem a y x S = some S4)
    (k : ∀ H', Ext M H M H' → RelS nm X.K X.mg M S4 H' → P H') : rSetL va vy vx H P := by
  unfold PF.setItem at e4
  cases a with
  | ref n =>
    cases y with
    | int i =>
      dsimp only at e4
      split at e4
      · rename_i ds ed
        split at e4
        · rename_i j ej
          cases e4
          obtain ⟨b, rfl, hb⟩ := q2.ref
          obtain ⟨vs, ka, qa⟩ := lst_wr r3 hb (wr_lst ed)
          have ex : Ext M H M (upd H b (.lst (vs.set j vx))) := Ext.set (List.mem_of_getElem? hb) ka (fun _ _ z => nomatch z)
          exact ⟨b, vs, i, j, rfl, q3.int, ka, by rw [← qa.length]; exact ej, k _ ex (r3.set hb ka (fun _ _ z => nomatch z) ⟨_, upd_same, RelDs.ext r3 ex (qa.set j q1)⟩)⟩
        · cases e4
      · cases e4
    | _ => cases e4
  | _ => cases e4
theorem pxs_sub2 {e o i p j : Expr} {fe fo fi fp fj : E} {k : Nat} {p1 p2 pt pos : Pos} (hc : X.calm = true) (he : PX nm X e fe) (ho : PX nm X o fo) (hi : PX nm X i fi) (hp : PX nm X p fp) (hj : PX nm X j fj)
    (ha : ∀ v, assign (.Subscript o i p1) X.env v = (do
      let ov ← holding [v] (eval o X.env)
      let iv ← holding [v, ov] (eval i X.env)
      standAt p1
      holding [v, ov, iv] (PySem.setItem ov iv v)
      release [v, ov, iv] []))
    (hb : ∀ v, assign (.Subscript p j p2) X.env v = (do
      let ov ← holding [v] (eval p X.env)
      let iv ← holding [v, ov] (eval j X.env)
      standAt p2
      holding [v, ov, iv] (PySem.setItem ov iv v)
      release [v, ov, iv] []))
    (s1 : (assignEach [.Subscript o i p1, .Subscript p j p2] X.env).map (·.2) = assign (.Subscript o i p1) X.env :: (assignEach [.Subscript p j p2] X.env).map (·.2)) (s2 : (assignEach [.Subscript p j p2] X.env).map (·.2) = assign (.Subscript p j p2) X.env :: (assignEach [] X.env).map (·.2))
    (hn : (assignEach [.Subscript o i p1, .Subscript p j p2] X.env).length = 2) (hst : (assignEach [.Subscript o i p1, .Subscript p j p2] X.env).findIdx? (·.1) = none)
    (hs : swapsWithSole [.Tuple [.Subscript o i p1, .Subscript p j p2] k pt] e pos.line X.env = pure false) (hw : swappedStores [.Tuple [.Subscript o i p1, .Subscript p j p2] k pt] e X.env = pure none) (h1 : (assignEach [.Tuple [.Subscript o i p1, .Subscript p j p2] k pt] X.env).map (·.2) = [assign (.Tuple [.Subscript o i p1, .Subscript p j p2] k pt) X.env]) :
    PXS nm X (.Assign [.Tuple [.Subscript o i p1, .Subscript p j p2] k pt] e pos) (sSub2 fe fo fi fp fj) :=
  PS.imp (ps_asg he (pg_tup hc (pgs_cons (pg_sub ho hi set_list ha) (pgs_cons (pg_sub hp hj set_list hb) pgs_nil s2) s1) hn hst) hs hw h1) fun σ H D ⟨M, ρ, S, r, S', rs, re, h, kk⟩ => by
    unfold sSub2 at h
    obtain ⟨x, S1, h1, h⟩ := bind_inv h
    refine rE.go rs re h1 fun M1 H1 vx e1 r1 q1 => ?_
    have re1 := re.ext rs e1
    split at h
    · rename_i a b
      obtain ⟨ov, S2, h2, h⟩ := bind_inv h
      obtain ⟨kv, S3, h3, h⟩ := bind_inv h
      obtain ⟨t, vs, rfl, ht, qa⟩ := q1.tup
      obtain ⟨va, vb, rfl, qa1, qa2⟩ := RelDs.two qa
      refine ⟨t, _, rfl, ht, rfl, va, _, rfl, ?_⟩
      refine rE.go r1 re1 h2 fun M2 H2 vo e2 r2 q2 => ?_
      have re2 := re1.ext r1 e2
      refine rE.go r2 re2 h3 fun M3 H3 vi e3 r3 q3 => ?_
      have re3 := re2.ext r2 e3
      split at h
      · rename_i S4 e4
        refine setItem_read r3 (RelD.ext r2 e3 q2) q3 (RelD.ext r2 e3 (RelD.ext r1 e2 qa1)) e4 fun H4 x4 r4 => ?_
        have qb := RelD.ext r3 x4 (RelD.ext r2 e3 (RelD.ext r1 e2 qa2))
        have re4 := re3.ext r3 x4
        obtain ⟨pv, S5, h5, h⟩ := bind_inv h
        obtain ⟨lv, S6, h6, h⟩ := bind_inv h
        refine ⟨vb, [], rfl, ?_⟩
        refine rE.go r4 re4 h5 fun M5 H5 vp e5 r5 q5 => ?_
        have re5 := re4.ext r4 e5
        refine rE.go r5 re5 h6 fun M6 H6 vl e6 r6 q6 => ?_
        split at h
        · rename_i S7 e7
          cases h
          refine setItem_read r6 (RelD.ext r5 e6 q5) q6 (RelD.ext r5 e6 (RelD.ext r4 e5 qb)) e7 fun H8 x8 r8 => ?_
          exact ⟨rfl, kk _ _ _ (((((e1.trans e2).trans e3).trans x4).trans e5).trans (e6.trans x8)) r8 ((re5.ext r5 e6).ext r6 x8)⟩
        · cases h
      · cases h
    · cases h
def rSetI (K : PySem.W.Frag) (w : World) : List V → Hp → VK → Prop := fun xs H Q => ∃ (a : Addr) (ns : List Int), xs = [.ref a] ∧ SqT K H a (ns.map V.int) ∧ ns.length < 64 ∧
  ∀ (p : Addr) (c : Nat), H p = none → c ≤ ns.length → Q (.ref p) (upd H p (SetO w p (fun j => decide (j ∈ ns)) c))
theorem bv_set : bootBuiltins "set" = some (.type "set") := by decide +kernel
theorem cr_setI (hc : X.calm = true) : CallR X (.type "set") (rSetI X.K X.w) := by
  intro pins s σ H xs us Q I r h
  obtain ⟨a, ns, rfl, ha, hl, q⟩ := h
  rw [Vals.ref1 r]
  obtain ⟨its, rv, ht, hz⟩ := I.tuple ha
  obtain ⟨o, ho, hcl, n, hd⟩ := ht
  have hb : ns.length + 1 < scanBound := Nat.lt_of_lt_of_le (show ns.length + 1 < 100 by omega) (by decide)
  refine call_set_tupI ns (I.ok.hd hc) ⟨o, ho, hcl, n, hd⟩ (by simpa using ints_of_vals rv) hb fun h' tk c R hcl k => ?_
  exact ⟨.ref s.heap.objs.size, upd H s.heap.objs.size (SetO X.w s.heap.objs.size (fun j => decide (j ∈ ns)) c), I.laid (t' := tk) k (Nat.le_refl _) (setO_new R), rfl, q _ _ (I.hok.fresh (Nat.le_refl _)) hcl⟩
theorem dedup_mem {α : Type} [DecidableEq α] {x : α} : ∀ {l : List α}, x ∈ dedup l ↔ x ∈ l
  | [] => by simp [dedup]
  | y :: l => by
    unfold dedup
    rw [List.mem_cons, List.mem_filter, dedup_mem (l := l), List.mem_cons]
    by_cases e : x = y
    · simp [e]
    · simp [e]
theorem dedup_nodup {α : Type} [DecidableEq α] : ∀ l : List α, (dedup l).Nodup
  | [] => by simp [dedup]
  | y :: l => by
    unfold dedup
    refine List.nodup_cons.mpr ⟨fun h => ?_, (dedup_nodup l).filter _⟩
    have := (List.mem_filter.mp h).2
    simp at this
theorem eq_sorted {a b : List Int} (ha : a.Pairwise (· < ·)) (hb : b.Pairwise (· ≤ ·)) (nb : b.Nodup) (h : ∀ k, k ∈ a ↔ k ∈ b) : a = b := by
  have na : a.Nodup := ha.imp fun h => by omega
  exact sorted_uniq (ha.imp fun h => by omega) hb ((List.perm_ext_iff_of_nodup na nb).mpr h)
/-- sorted(set(x)) of a tuple of numbers -/
theorem wd_sortedSet {a : Expr} {f : E} {p p2 pos pos2 : Pos} (hc : X.calm = true) (hg : Gl X "sorted") (hm : X.mg "sorted" = none) (hg2 : Gl X "set") (hm2 : X.mg "set" = none) (ha : PX nm X a f) (na : starEach [a] X.env = (false, eval a X.env) :: starEach [] X.env) (hp : (backTo pos2 (starEach [] X.env)).any (·.1) = false)
    (na2 : starEach [.Call (.Name "set" p2) [a] [] pos2] X.env = (false, eval (.Call (.Name "set" p2) [a] [] pos2) X.env) :: starEach [] X.env) (hp2 : (backTo pos (starEach [] X.env)).any (·.1) = false) :
    PX nm X (.Call (.Name "sorted" p) [.Call (.Name "set" p2) [a] [] pos2] [] pos) (eCall fSortedSet (aCons f aNil)) := by
  have hs : PE X (.Call (.Name "set" p2) [a] [] pos2) (tCB (rSetI X.K X.w) (tCons (rE nm X f) tNil)) := pe_callTy (cr_setI hc) hg2 hm2 bv_set (pa_cons ha pa_nil na) (by decide +kernel) (by decide +kernel) na hp
  refine PE.imp (pe_callB (cr_sortedSet hc) hg hm bv_sorted (pa_cons hs pa_nil na2) (by decide +kernel) (by decide +kernel) na2 hp2) fun σ H Q ⟨M, ρ, S, d, S', rs, re, h, k⟩ => ?_
  unfold eCall at h
  obtain ⟨xs, S1, h1, h⟩ := bind_inv h
  unfold aCons at h1
  obtain ⟨x, S2, h2, h1⟩ := bind_inv h1
  unfold aNil at h1
  obtain ⟨ys, S3, h3, h1⟩ := bind_inv h1
  cases h3
  cases h1
  refine rE.go rs re h2 fun M1 H1 v e1 r1 q1 => ?_
  unfold fSortedSet at h
  split at h
  · rename_i ds ex
    cases ex
    split at h
    · rename_i is ei
      split at h
      · rename_i c
        cases h
        obtain ⟨a, vs, rfl, ht, qa⟩ := q1.tup
        have ev := ints_rel qa ei
        subst ev
        refine ⟨a, is, rfl, ht, c, fun p cc hpn hcc => ?_⟩
        have e2 : Ext M1 H1 M1 (upd H1 p (SetO X.w p (fun j => decide (j ∈ is)) cc)) := Ext.tup hpn
        refine ⟨p, _, cc, rfl, upd_same, by omega, fun ns q hs hm hl hq => ?_⟩
        have en : ns = sortI (dedup is) := eq_sorted hs (sortI_sorted _) ((sortBy_perm _ _).nodup_iff.mpr (dedup_nodup is)) fun k => by
          rw [hm k]
          unfold sortI
          rw [(sortBy_perm _ _).mem_iff, dedup_mem]
          simp
        subst en
        exact (k.ext (e1.trans e2)).push (r1.tup hpn) (rel_ints _) hq
      · cases h
    · cases h
  · cases h
end
end PF
end
section
set_option linter.all false
set_option Elab.async false
set_option linter.all false
set_option maxRecDepth 100003
set_option maxHeartbeats 2000003
set_option autoImplicit false
namespace PF
open PySem PySem.Spec PyProof.Rows L2
section
variable {P : Program} {w : World} {A : Around} {E : Value → Shared → Prop} {s : Shared}
/-- what sets ask of a kind of keys -/
structure Meek {K : Type} [DecidableEq K] (κ : HeapKind P w K) : Prop where
  stay : ∀ {h h' : Heap} {k : K} {a : Addr}, (∀ b o vs n, h.get? b = some o → o.data = .seq vs n → h'.get? b = some o) → κ.is h k a → κ.is h' k a
  cls : ∀ {A : Around} {E : Value → Shared → Prop} {s : Shared} {k : K} {a : Addr} {Q : Bool → Shared → Prop}, κ.is s.heap k a → Q false s → wpAny (model P w) A (ofAClassStatement 8 (.ref a)) Q E s
  byv : ∀ {A : Around} {E : Value → Shared → Prop} {s : Shared} {k : K} {a : Addr} {Q : Bool → Shared → Prop}, κ.is s.heap k a → (∀ b, Q b s) → wpAny (model P w) A (hashByValue 8 (.ref a)) Q E s
mutual
theorem cls_key : ∀ (k : NestedKey) (v : Value) (n : Nat) (s : Shared), NestedIs s.heap k v → k.depth ≤ n → ∀ (A : Around) (E : Value → Shared → Prop) (Q : Bool → Shared → Prop), Q false s → wpAny (model P w) A (ofAClassStatement n v) Q E s
  | .none, _, n, s, x, _, A, E, Q, h => by cases x; cases n <;> exact wpAny_pure h
  | .num i, _, n, s, x, _, A, E, Q, h => by cases x <;> cases n <;> exact wpAny_pure h
  | .text y, _, n, s, x, _, A, E, Q, h => by cases x; cases n <;> exact wpAny_pure h
  | .tup ks, _, n, s, x, hn, A, E, Q, h => by
    cases x with
    | @tup a o vs m _ hg hc hd hk =>
      have hT : s.TypeIs (.ref a) "tuple" := ⟨o, hg, hc⟩
      simp only [NestedKey.depth] at hn
      cases n with
      | zero => omega
      | succ n =>
        unfold ofAClassStatement
        refine wpAny_bind (wpAny_typeOf hT ?_)
        dsimp only
        have e : (("tuple" : String) == "tuple") = true := by decide
        simp only [e, if_true, Bool.not_true, Bool.false_eq_true, if_false]
        try refine wpAny_bind (wpAny_pure ?_)
        try simp only [Bool.not_true, Bool.false_eq_true, if_false]
        show wpAny _ _ (seqItems? (.ref a) >>= _) _ _ s
        refine wpAny_bind (wpAny_seqItems hg hd ?_)
        dsimp only
        refine wpAny_bind ?_
        show wpAny _ _ (forIn vs _ _) _ _ s
        rw [← Array.forIn_toList]
        refine wpAny_forIn_list _ (fun rest r s' => r.1 = none ∧ s' = s ∧ ∃ ks', NestedAll s.heap ks' rest ∧ NestedKey.depthAll ks' ≤ n ∧ sizeOf ks' ≤ sizeOf ks) _ ?_ ?_ _ _ ⟨rfl, rfl, ks, hk, by omega, Nat.le_refl _⟩
        · rintro v rest r s' ⟨hr, rfl, ks', hall, hdep, hsz⟩
          cases hall with
          | @cons k' _ ks'' _ h1 h2 =>
            simp only [NestedKey.depthAll] at hdep
            refine wpAny_bind (cls_key k' v n s' h1 (by omega) _ _ _ ?_)
            simp only [Bool.false_eq_true, if_false]
            exact wpAny_pure ⟨rfl, rfl, ks'', h2, by omega, by simp at hsz; omega⟩
        · rintro ⟨r1, r2⟩ s' ⟨hr, rfl, _⟩
          simp only at hr
          subst hr
          exact wpAny_pure h
termination_by k => sizeOf k
decreasing_by all_goals (simp at *; omega)
end
mutual
theorem byv_key : ∀ (k : NestedKey) (v : Value) (n : Nat) (s : Shared), NestedIs s.heap k v → ∀ (A : Around) (E : Value → Shared → Prop) (Q : Bool → Shared → Prop), (∀ b, Q b s) → wpAny (model P w) A (hashByValue n v) Q E s
  | .none, _, n, s, x, A, E, Q, h => by cases x; cases n <;> exact wpAny_pure (h _)
  | .num i, _, n, s, x, A, E, Q, h => by cases x <;> cases n <;> exact wpAny_pure (h _)
  | .text y, _, n, s, x, A, E, Q, h => by cases x; cases n <;> exact wpAny_pure (h _)
  | .tup ks, _, n, s, x, A, E, Q, h => by
    cases x with
    | @tup a o vs m _ hg hc hd hk =>
      have hT : s.TypeIs (.ref a) "tuple" := ⟨o, hg, hc⟩
      cases n with
      | zero => exact wpAny_pure (h _)
      | succ n =>
        unfold hashByValue
        refine wpAny_bind (wpAny_specialOf hT F.slot_tuple_hash.lookup ?_)
        show wpAny _ _ (seqItems? (.ref a) >>= _) _ _ s
        refine wpAny_bind (wpAny_seqItems hg hd ?_)
        refine wpAny_bind ?_
        show wpAny _ _ (forIn vs _ _) _ _ s
        rw [← Array.forIn_toList]
        refine wpAny_forIn_list _ (fun rest r s' => r.1 = none ∧ s' = s ∧ ∃ ks', NestedAll s.heap ks' rest ∧ sizeOf ks' ≤ sizeOf ks) _ ?_ ?_ _ _ ⟨rfl, rfl, ks, hk, Nat.le_refl _⟩
        · rintro v rest r s' ⟨hr, rfl, ks', hall, hsz⟩
          cases hall with
          | @cons k' _ ks'' _ h1 h2 =>
            refine wpAny_bind (byv_key k' v n s' h1 _ _ _ fun b => ?_)
            cases b with
            | true =>
              simp only [Bool.not_true, Bool.false_eq_true, if_false]
              exact wpAny_pure ⟨rfl, rfl, ks'', h2, by simp at hsz; omega⟩
            | false =>
              simp only [Bool.not_false, if_true]
              refine wpAny_pure ?_
              refine wpAny_pure (h _)
        · rintro ⟨r1, r2⟩ s' ⟨hr, rfl, _⟩
          simp only at hr
          subst hr
          exact wpAny_pure (h _)
termination_by k => sizeOf k
decreasing_by all_goals (simp at *; omega)
end
theorem nested_meek : Meek (nestedKind P w) where
  stay := nestedKind_stays.stays
  cls := fun hk h => cls_key _ _ 8 _ hk.1 hk.2 _ _ _ h
  byv := fun hk h => byv_key _ _ 8 _ hk.1 _ _ _ h
end
end PF
end
section
set_option linter.all false
set_option Elab.async false
set_option linter.all false
set_option maxRecDepth 100003
set_option maxHeartbeats 2000003
set_option autoImplicit false
namespace PF
open PySem PySem.Spec PyProof.Rows L2
section
variable {P : Program} {w : World} {K : Type} [DecidableEq K] (κ : HeapKind P w K)
/-- how the members stand in the table -/
def lineOf (ms : List (Addr × K)) : List (Int × Value) := ms.map fun m => (κ.hash m.2, Value.ref m.1)
def hashesOf (ms : List (Addr × K)) : List Int := ms.map fun m => κ.hash m.2
structure SetK (hp : Heap) (c : Addr) (ms : List (Addr × K)) (ents : Array (Int × Value)) (n : Nat) (tb : SetTable) : Prop where
  obj : ∃ ob, hp.get? c = some ob ∧ ob.ExactSet ∧ ob.data = .set ents n tb
  lin : ents.toList = lineOf κ ms
  tbk : L2.TabOk tb (hashesOf κ ms)
  uni : (ms.map (·.2)).Nodup
  mem : ∀ m ∈ ms, κ.is hp m.2 m.1
  gap : ms.length * 5 < tb.mask * 3
  few : ms.length < 64
end
section
variable {P : Program} {w : World} {K : Type} [DecidableEq K] {κ : HeapKind P w K} {A : Around} {E : Value → Shared → Prop} {s : Shared} {c : Addr} {ms : List (Addr × K)} {ents : Array (Int × Value)} {n : Nat} {tb : SetTable}
theorem SetK.cnt {hp : Heap} (R : SetK κ hp c ms ents n tb) : ents.size = ms.length := by
  have e := congrArg List.length R.lin
  unfold lineOf at e
  simpa using e
theorem SetK.plc {hp : Heap} (R : SetK κ hp c ms ents n tb) : tb.place.toList.length = ms.length := by
  have e := R.tbk.sz
  unfold hashesOf at e
  rw [List.length_map] at e
  rw [Array.length_toList, e]
theorem SetK.fit {hp : Heap} (R : SetK κ hp c ms ents n tb) : tb.fits ents.size = true := by
  have h1 := R.plc
  have h2 := R.cnt
  have h3 := R.gap
  rw [Array.length_toList] at h1
  unfold SetTable.fits SetTable.fill
  rw [R.tbk.dm]
  simp only [Bool.and_eq_true, beq_iff_eq, decide_eq_true_eq, Array.size_empty]
  omega
theorem SetK.ent {hp : Heap} (R : SetK κ hp c ms ents n tb) {i : Nat} {m : Addr × K} (h : ms[i]? = some m) : ents[i]? = some (κ.hash m.2, Value.ref m.1) := by
  have e : ents.toList[i]? = some (κ.hash m.2, Value.ref m.1) := by
    rw [R.lin]
    unfold lineOf
    rw [List.getElem?_map, h]
    rfl
  rwa [Array.getElem?_toList] at e
theorem SetK.odd {hp : Heap} (R : SetK κ hp c ms ents n tb) : ¬ tb.gaveWay = true := by
  unfold SetTable.gaveWay
  rw [mask_odd R.tbk.mok]
  decide
/-- a search among such tuples tells nobody anything -/
theorem unseen (mk : Meek κ) {k : K} {x : Addr} {Q : Bool → Shared → Prop} (hx : κ.is s.heap k x) (q : Q false s) : ∀ ys : List Value, (∀ y ∈ ys, ∃ k' x', y = Value.ref x' ∧ κ.is s.heap k' x') → wpAny (model P w) A (searchCouldBeSeen (.ref x) ys) Q E s := by
  intro ys hys
  unfold searchCouldBeSeen
  refine wpAny_bind ?_
  refine wpAny_forIn_list _ (fun todo acc s1 => acc.1 = none ∧ s1 = s ∧ ∀ y ∈ todo, y ∈ ys) _ ?_ ?_ _ _ ⟨rfl, rfl, fun _ h => h⟩
  · rintro y todo acc s1 ⟨ha, rfl, hin⟩
    have later : ∀ z ∈ todo, z ∈ ys := fun z hz => hin z (List.mem_cons_of_mem _ hz)
    obtain ⟨k', x', rfl, hx'⟩ := hys y (hin y List.mem_cons_self)
    dsimp only
    by_cases hv : (x == x' || (carriedByValue (.ref x) && carriedByValue (.ref x'))) = true
    · exact wp_if_pos hv (wpAny_pure ⟨rfl, rfl, later⟩)
    · refine wp_if_neg hv (wpAny_bind (κ.quiet hx ?_))
      simp only [Bool.not_true, Bool.false_eq_true, if_false]
      refine wpAny_bind (κ.quiet hx' ?_)
      simp only [Bool.not_true, Bool.false_eq_true, if_false]
      refine wpAny_bind (mk.cls hx ?_)
      simp only [Bool.false_eq_true, if_false]
      refine wpAny_bind (mk.cls hx' ?_)
      simp only [Bool.false_eq_true, if_false]
      exact wpAny_pure ⟨rfl, rfl, later⟩
  · rintro ⟨acc1, acc2⟩ s1 ⟨ha, rfl, _⟩
    have ha : acc1 = none := ha
    subst ha
    exact wpAny_pure q
/-- no dummy is met on a clean way -/
theorem nth_clean (m : Nat) : ∀ (j : Nat) (p : SetTable.Probe), p.dummy = none → (nth m p j).dummy = none
  | 0, _, h => h
  | j + 1, p, h => nth_clean m j (adv m p) (by unfold adv; split <;> exact h)
/-- THE SEARCH for a key, its first d steps being behind; f0 is the first free step -/
theorem seek (mk : Meek κ) (R : SetK κ s.heap c ms ents n tb) {x : Addr} {k : K} (hx : κ.is s.heap k x) (hr : κ.room A) {f0 : Nat} (hf0 : f0 < 10 * SetTable.turns tb.mask) (free : way tb.mask (κ.hash k) f0 ∉ tb.place.toList)
    (used : ∀ d, d < f0 → way tb.mask (κ.hash k) d ∈ tb.place.toList) {Q : SetFound → Shared → Prop} (yes : k ∈ ms.map (·.2) → Q (.there none) s) (no : k ∉ ms.map (·.2) → Q (.free (way tb.mask (κ.hash k) f0) false) s) :
    ∀ (fu d : Nat) (at_ : Option SetTable.Probe), at_.getD (tb.probeStart (κ.hash k)) = nth tb.mask (tb.probeStart (κ.hash k)) d → d ≤ f0 → f0 < d + fu →
      (∀ (d' i : Nat) (m : Addr × K), d' < d → tb.place.toList[i]? = some (way tb.mask (κ.hash k) d') → ms[i]? = some m → m.2 ≠ k) →
      wpAny (model P w) A (setSearchFrom c (.ref x) (κ.hash k) true fu at_) Q E s := by
  intro fu
  induction fu with
  | zero => intro d at_ _ h1 h2; omega
  | succ fu ih =>
    intro d at_ hat hd hfu past
    obtain ⟨ob, hob, hex, hdat⟩ := R.obj
    rw [setSearchFrom_succ]
    refine wpAny_bind (wpAny_setState_of hob hdat R.fit ?_)
    dsimp only
    refine wp_if_neg R.odd ?_
    try refine wpAny_bind (wpAny_pure ?_)
    have wy : ∀ j, (nth tb.mask (nth tb.mask (tb.probeStart (κ.hash k)) d) j).j = way tb.mask (κ.hash k) (d + j) := fun j => congrArg SetTable.Probe.j (nth_add tb.mask d _ j).symm
    have hashes : ∀ (i : Nat) (m : Addr × K), ms[i]? = some m → (ents[i]?.map (·.1)).getD 0 = κ.hash m.2 := fun i m h => by rw [R.ent h]; rfl
    have inside : ∀ {i j : Nat}, tb.place.toList[i]? = some j → ∃ m, ms[i]? = some m := fun {i j} h => by
      have l : i < ms.length := by rw [← R.plc]; exact (List.getElem?_eq_some_iff.mp h).1
      exact ⟨ms[i], List.getElem?_eq_getElem l⟩
    have ans := go_spec tb R.tbk.ris R.tbk.dm (fun i => (ents[i]?.map (·.1)).getD 0) (κ.hash k) (10 * SetTable.turns tb.mask) (f0 - d) (nth tb.mask (tb.probeStart (κ.hash k)) d) (nth_clean tb.mask d _ rfl) (by omega)
      (fun j hj => by rw [wy]; exact used (d + j) (by omega)) (by rw [wy, show d + (f0 - d) = f0 by omega]; exact free)
    rcases ans with ⟨j, i, hj, hi, hh, before, pr⟩ | ⟨before, pr⟩
    · -- one with the same hash
      rw [wy] at hi
      obtain ⟨m, hm⟩ := inside hi
      have hmem : m ∈ ms := List.mem_of_getElem? hm
      have pr' : tb.probe (fun i => (ents[i]?.map (·.1)).getD 0) (κ.hash k) (at_.getD (tb.probeStart (κ.hash k))) = some (.candidate (way tb.mask (κ.hash k) (d + j)) i (nth tb.mask (tb.probeStart (κ.hash k)) (d + (j + 1)))) := by
        rw [hat, ← wy, nth_add]
        exact pr
      rw [pr']
      dsimp only
      have past' : m.2 ≠ k → ∀ (d' i' : Nat) (m' : Addr × K), d' < d + (j + 1) → tb.place.toList[i']? = some (way tb.mask (κ.hash k) d') → ms[i']? = some m' → m'.2 ≠ k := fun ne d' i' m' h1 h2 h3 => by
        rcases Nat.lt_or_ge d' d with a | a
        · exact past d' i' m' a h2 h3
        · rcases Nat.lt_or_ge d' (d + j) with b | b
          · intro e
            refine before (d' - d) i' (by omega) (by rw [wy, show d + (d' - d) = d' by omega]; exact h2) ?_
            show (ents[i']?.map (·.1)).getD 0 = κ.hash k
            rw [hashes i' m' h3, e]
          · have e1 : d' = d + j := by omega
            subst e1
            have s1 := slot_live R.tbk.ris hi
            have s2 := slot_live R.tbk.ris h2
            rw [s1] at s2
            injection s2 with s2
            subst s2
            rw [hm] at h3
            cases h3
            exact ne
      have go : wpAny (model P w) A (searchRest c (.ref x) (κ.hash k) true fu ents tb (way tb.mask (κ.hash k) (d + j)) i (nth tb.mask (tb.probeStart (κ.hash k)) (d + (j + 1)))) Q E s := by
        unfold searchRest
        rw [R.ent hm]
        dsimp only
        refine wpAny_bind (wpAny_holding (κ.eqBool hr (R.mem m hmem) hx ?_))
        refine wpAny_bind (wpAny_setState_of hob hdat R.fit ?_)
        dsimp only
        by_cases ek : m.2 = k
        · exact wp_if_pos (by simp [ek]) (wpAny_pure (yes (List.mem_map.mpr ⟨m, hmem, ek⟩)))
        · refine wp_if_neg (by simp [ek]) ?_
          try refine wpAny_bind (wpAny_pure ?_)
          rw [sameMem]
          dsimp only
          simp only [if_true, slot_live R.tbk.ris hi, R.ent hm]
          refine wpAny_bind (wpAny_isSame_ref_self (wpAny_bind (wpAny_pure ?_)))
          simp only [if_true]
          exact wp_if_neg (by simp [ek]) (ih (d + (j + 1)) _ rfl (by omega) (by omega) (past' ek))
      by_cases hl : tb.led = true
      · refine wp_if_neg (by simp [hl]) ?_
        try refine wpAny_bind (wpAny_pure ?_)
        exact go
      · refine wp_if_pos (by simp [hl]) ?_
        refine wpAny_bind (unseen mk hx ?_ _ fun y hy => ?_)
        · refine wp_if_neg (by decide) ?_
          try refine wpAny_bind (wpAny_pure ?_)
          exact go
        · obtain ⟨e, he, rfl⟩ := List.mem_map.mp hy
          have he2 : e ∈ ents.toList := by
            have : e ∈ ents ∧ e.1 = κ.hash k := by simpa using he
            simpa using this.1
          rw [R.lin] at he2
          obtain ⟨m', hm', rfl⟩ := List.mem_map.mp he2
          exact ⟨m'.2, m'.1, rfl, R.mem m' hm'⟩
    · -- a free place
      have pr' : tb.probe (fun i => (ents[i]?.map (·.1)).getD 0) (κ.hash k) (at_.getD (tb.probeStart (κ.hash k))) = some (.empty (way tb.mask (κ.hash k) f0) none) := by
        have e := wy (f0 - d)
        rw [show d + (f0 - d) = f0 by omega] at e
        rw [hat, ← e]
        exact pr
      rw [pr']
      dsimp only
      refine wpAny_pure (no fun hk => ?_)
      obtain ⟨m, hm, ek⟩ := List.mem_map.mp hk
      obtain ⟨i, hi, e0⟩ := List.getElem_of_mem hm
      have h0 : ms[i]? = some m := by rw [List.getElem?_eq_getElem hi, e0]
      have hl : i < tb.place.toList.length := by rw [R.plc]; exact hi
      have hp := List.getElem?_eq_getElem hl
      have hhs : (hashesOf κ ms)[i]? = some (κ.hash k) := by
        unfold hashesOf
        rw [List.getElem?_map, h0, ← ek]
        rfl
      obtain ⟨d', h1, h2⟩ := R.tbk.before free hhs hp
      rw [← h2] at hp
      rcases Nat.lt_or_ge d' d with a | a
      · exact past d' i m a hp h0 ek
      · refine before (d' - d) i (by omega) (by rw [wy, show d + (d' - d) = d' by omega]; exact hp) ?_
        show (ents[i]?.map (·.1)).getD 0 = κ.hash k
        rw [hashes i m h0, ek]
theorem seek_all (mk : Meek κ) (R : SetK κ s.heap c ms ents n tb) {x : Addr} {k : K} (hx : κ.is s.heap k x) (hr : κ.room A) {Q : SetFound → Shared → Prop} (yes : k ∈ ms.map (·.2) → Q (.there none) s)
    (no : ∀ f0, k ∉ ms.map (·.2) → way tb.mask (κ.hash k) f0 ∉ tb.place.toList → (∀ d, d < f0 → way tb.mask (κ.hash k) d ∈ tb.place.toList) → Q (.free (way tb.mask (κ.hash k) f0) false) s) :
    wpAny (model P w) A (setSearch c (.ref x) (κ.hash k) true) Q E s := by
  have gap := R.gap
  obtain ⟨f0, h1, h2, h3⟩ := R.tbk.first (by unfold hashesOf; rw [List.length_map]; omega) (κ.hash k)
  have bound : 10 * SetTable.turns tb.mask ≤ 1420 := by
    unfold SetTable.turns
    rcases R.tbk.mok with e | e | e <;> omega
  unfold setSearch
  exact seek mk R hx hr h1 h2 h3 yes (fun a => no f0 a h2 h3) 100000 0 none rfl (Nat.zero_le _) (by omega) fun d' i m h => absurd h (Nat.not_lt_zero _)
end
end PF
end
section
set_option linter.all false
set_option Elab.async false
set_option linter.all false
set_option maxRecDepth 100003
set_option maxHeartbeats 2000003
set_option autoImplicit false
namespace PF
open PySem PySem.Spec PyProof.Rows L2
theorem range_all {α : Type} : ∀ l : List α, (List.range l.length).filterMap (fun i => l[i]?) = l
  | [] => rfl
  | x :: l => by
    rw [List.length_cons, List.range_succ_eq_map, List.filterMap_cons_some (show (x :: l)[0]? = some x from rfl), List.filterMap_map]
    congr 1
    exact range_all l
theorem pick_all {α β : Type} {l : List α} {f : α → β} {g : Nat → β} (hg : ∀ (i : Nat) (x : α), l[i]? = some x → g i = f x) : ∀ is : List Nat, (∀ i ∈ is, i < l.length) → (is.filterMap fun i => l[i]?).map f = is.map g
  | [], _ => rfl
  | i :: is, h => by
    have hi := h i List.mem_cons_self
    have e := List.getElem?_eq_getElem hi
    rw [List.filterMap_cons_some e, List.map_cons, List.map_cons, pick_all hg is fun j hj => h j (List.mem_cons_of_mem _ hj), hg i _ e]
section
variable {P : Program} {w : World} {K : Type} [DecidableEq K] {κ : HeapKind P w K} {A : Around} {E : Value → Shared → Prop} {s : Shared} {c : Addr} {ms : List (Addr × K)} {ents : Array (Int × Value)} {n : Nat} {tb : SetTable}
theorem line_len (l : List (Addr × K)) : (lineOf κ l).length = l.length := by unfold lineOf; simp
theorem line_get {i : Nat} (e : ents.toList = lineOf κ ms) : ents[i]? = ms[i]?.map fun m => (κ.hash m.2, Value.ref m.1) := by
  rw [← Array.getElem?_toList, e]
  unfold lineOf
  rw [List.getElem?_map]
/-- told anew by another order -/
theorem reorder {order : Array Nat} (e : ents.toList = lineOf κ ms) (hp : order.toList.Perm (List.range ms.length)) :
    ∃ ms2, (order.filterMap (ents[·]?)).toList = lineOf κ ms2 ∧ ms2.Perm ms ∧ hashesOf κ ms2 = order.toList.map fun i => (ents.map (·.1)).getD i 0 := by
  refine ⟨order.toList.filterMap fun i => ms[i]?, ?_, ?_, ?_⟩
  · rw [Array.toList_filterMap]
    unfold lineOf
    rw [List.map_filterMap]
    congr 1
    funext i
    exact line_get e
  · have := hp.filterMap fun i => ms[i]?
    rwa [range_all] at this
  · unfold hashesOf
    refine pick_all (fun i m hm => ?_) _ fun i hi => List.mem_range.mp (hp.mem_iff.mp hi)
    have e1 : (ents.map (·.1))[i]? = some (κ.hash m.2) := by rw [Array.getElem?_map, line_get e, hm]; rfl
    simp [Array.getD_eq_getD_getElem?, e1]
/-- tuples stay while only the set changes -/
theorem Meek.but (mk : Meek κ) {h h' : Heap} {k : K} {x : Addr} {ob : Obj} (hx : κ.is h k x) (hob : h.get? c = some ob) (hd : ob.data = .set ents n tb) (sb : Heap.SameBut c h h') : κ.is h' k x :=
  mk.stay (fun b o vs m hb ho => (sb.2 b fun e => by
    subst e
    rw [hob] at hb
    cases hb
    rw [hd] at ho
    cases ho).trans hb) hx
/-- the table grows -/
theorem regrow (mk : Meek κ) {ob : Obj} (hob : s.heap.get? c = some ob) (hex : ob.ExactSet) (hd : ob.data = .set ents n tb) (lin : ents.toList = lineOf κ ms) (plc : tb.place.size = ents.size) (dm : tb.dummies = #[]) (fill : ents.size ≤ tb.mask) (uni : (ms.map (·.2)).Nodup) (mem : ∀ m ∈ ms, κ.is s.heap m.2 m.1)
    (few : ms.length < 64) {want M : Nat} (hM : SetTable.sizeAbove want - 1 = M) (ok : MaskOk M) (small : SetTable.sizeAbove want ≤ 128) (gap : ms.length * 5 < M * 3) {Q : Unit → Shared → Prop}
    (q : ∀ hp ms' ents' n' tb', Heap.SameBut c s.heap hp → SetK κ hp c ms' ents' n' tb' → ms'.Perm ms → Q () { s with heap := hp }) : wpAny (model P w) A (setRelay c want) Q E s := by
  have cnt : ents.size = ms.length := by
    have e := congrArg List.length lin
    rw [line_len] at e
    simpa using e
  have fit : tb.fits ents.size = true := by
    unfold SetTable.fits SetTable.fill
    rw [dm]
    simp only [Bool.and_eq_true, beq_iff_eq, decide_eq_true_eq, Array.size_empty]
    omega
  obtain ⟨tb', order, er, hp, tbk, em, _, _, _⟩ := relaid_ok tb (hs := ents.map (·.1)) (wanted := want) hM ok (by rw [Array.size_map]; omega)
  rw [Array.size_map, cnt] at hp
  obtain ⟨ms2, l2, p2, h2⟩ := reorder lin hp
  rw [← h2] at tbk
  have sz : (order.filterMap (ents[·]?)).size = ents.size := by
    have e := congrArg List.length l2
    rw [line_len, p2.length_eq, ← cnt, Array.length_toList] at e
    exact e
  rw [setRelay_eq]
  refine wpAny_bind (wpAny_setState_of hob hd fit ?_)
  dsimp only
  refine wp_if_neg (by rw [sizeLine_eq]; omega) ?_
  try refine wpAny_bind (wpAny_pure ?_)
  rw [er]
  dsimp only
  refine wpAny_bind ?_
  refine wp_if_neg (by rw [sz]; simp) ?_
  try refine wpAny_bind (wpAny_pure ?_)
  refine wpAny_pure ?_
  dsimp only
  refine wpAny_storeSet_of hob hd ?_ (by rw [sz, cnt, sizeLine_eq]; omega)
  have sb : Heap.SameBut c s.heap (s.heap.update c (Obj.putSet (order.filterMap (ents[·]?)) tb')) := Heap.SameBut.update ..
  refine q _ ms2 _ (n + 1) tb' sb ⟨⟨_, store_at hob hd, ⟨hex.1, hex.2.1, hex.2.2⟩, rfl⟩, l2, tbk, (p2.map (·.2)).nodup_iff.mpr uni, fun m hm => mk.but (mem m (p2.mem_iff.mp hm)) hob hd sb, ?_, ?_⟩ p2
  · rw [p2.length_eq, em]; exact gap
  · rw [p2.length_eq]; exact few
theorem mid_perm {α : Type} (l : List α) (i : Nat) (x : α) : (l.take i ++ x :: l.drop i).Perm (x :: l) := by
  have e := List.perm_middle (a := x) (l₁ := l.take i) (l₂ := l.drop i)
  rwa [List.take_append_drop] at e
/-- PUTTING IN -/
theorem put_in (mk : Meek κ) (R : SetK κ s.heap c ms ents n tb) {x : Addr} {k : K} (hx : κ.is s.heap k x) (hr : κ.room A) (few : ms.length + 1 < 64) {Q : Bool → Shared → Prop}
    (q : ∀ b hp ms' ents' n' tb', Heap.SameBut c s.heap hp → SetK κ hp c ms' ents' n' tb' → ((k ∈ ms.map (·.2) ∧ ms' = ms) ∨ (k ∉ ms.map (·.2) ∧ ms'.Perm ((x, k) :: ms))) → Q b { s with heap := hp }) :
    wpAny (model P w) A (setAddHashed c (.ref x) (κ.hash k)) Q E s := by
  obtain ⟨ob, hob, hex, hd⟩ := R.obj
  have cnt := R.cnt
  have gap := R.gap
  unfold setAddHashed
  refine wpAny_holding ?_
  rw [show (100000 : Nat) = 99999 + 1 from rfl, setAddHashedIn_succ]
  refine wpAny_bind (wpAny_setState_of hob hd R.fit ?_)
  dsimp only
  refine wp_if_neg (by simp [byScan, Value.scannable]) ?_
  try refine wpAny_bind (wpAny_pure ?_)
  refine wpAny_bind (seek_all mk R hx hr (fun hk => ?_) fun f0 hk free used => ?_)
  · dsimp only
    exact wpAny_pure (q false s.heap ms ents n tb (Heap.SameBut.refl c s.heap) R (.inl ⟨hk, rfl⟩))
  · dsimp only
    refine wpAny_bind (wpAny_setState_of hob hd R.fit ?_)
    dsimp only
    obtain ⟨a1, a2, a3, a4, a5, a6, a7, a8, a9⟩ := R.tbk.put free used
    have hl : (hashesOf κ ms).length = ms.length := by unfold hashesOf; simp
    generalize hpt : tb.put (way tb.mask (κ.hash k) f0) = pt at a1 a3 a4 a9 ⊢
    obtain ⟨t1, i⟩ := pt
    dsimp only at a1 a3 a4 a9 ⊢
    subst a1
    generalize SetTable.below tb.place (way tb.mask (κ.hash k) f0) = i at a2 a3 ⊢
    have pm := mid_perm ms i (x, k)
    have ln : (ms.take i ++ (x, k) :: ms.drop i).length = ms.length + 1 := pm.length_eq
    have lin1 : (SetTable.insertAt ents i (κ.hash k, Value.ref x)).toList = lineOf κ (ms.take i ++ (x, k) :: ms.drop i) := by
      rw [SetTable.toList_insertAt, R.lin]
      unfold lineOf
      rw [List.map_append, List.map_cons, List.map_take, List.map_drop]
    have hh1 : hashesOf κ (ms.take i ++ (x, k) :: ms.drop i) = (hashesOf κ ms).take i ++ κ.hash k :: (hashesOf κ ms).drop i := by
      unfold hashesOf
      rw [List.map_append, List.map_cons, List.map_take, List.map_drop]
    rw [← hh1] at a3
    have uni1 : ((ms.take i ++ (x, k) :: ms.drop i).map (·.2)).Nodup := (pm.map (·.2)).nodup_iff.mpr (List.nodup_cons.mpr ⟨hk, R.uni⟩)
    generalize SetTable.insertAt ents i (κ.hash k, Value.ref x) = ents1 at lin1 ⊢
    generalize ms.take i ++ (x, k) :: ms.drop i = ms1 at pm ln lin1 a3 uni1
    have cnt1 : ents1.size = ms.length + 1 := by
      have e := congrArg List.length lin1
      rw [line_len, ln] at e
      simpa using e
    -- whatever becomes of `plain`
    have rest : ∀ t2 : SetTable, t2.place = t1.place → t2.dummies = t1.dummies → t2.mask = t1.mask → wpAny (model P w) A (do
        storeSet c ents1 t2
        if !false && t2.tooFull then setRelay c (SetTable.grown (ents.size + 1))
        return true) Q E s := fun t2 e1 e2 e3 => by
      have tbk2 : L2.TabOk t2 (hashesOf κ ms1) := by
        obtain ⟨b1, b2, b3, b4, b5, b6⟩ := a3
        exact ⟨by rw [e1]; exact b1, by rw [e2]; exact b2, by rw [e1]; exact b3, by rw [e3]; exact b4, by rw [e1, e3]; exact b5, by rw [e1, e3]; exact b6⟩
      refine wpAny_bind (wpAny_storeSet_of hob hd ?_ (by rw [cnt1, sizeLine_eq]; omega))
      have sb : Heap.SameBut c s.heap (s.heap.update c (Obj.putSet ents1 t2)) := Heap.SameBut.update ..
      have ho1 := store_at (es' := ents1) (t' := t2) hob hd
      generalize s.heap.update c (Obj.putSet ents1 t2) = hp1 at sb ho1 ⊢
      have mem1 : ∀ m ∈ ms1, κ.is hp1 m.2 m.1 := fun m hm => by
        rcases List.mem_cons.mp (pm.mem_iff.mp hm) with e | hm
        · rw [e]; exact mk.but hx hob hd sb
        · exact mk.but (R.mem m hm) hob hd sb
      have em : t2.mask = tb.mask := e3.trans a4
      have full : t2.fill = ms.length + 1 := by
        unfold SetTable.fill at a9 ⊢
        rw [e1, e2, a9, hl]
      by_cases hf : t2.tooFull = true
      · first
          | (refine wpAny_bind ?_; refine wp_if_pos (by simp [hf]) ?_)
          | (refine wp_if_pos (by simp [hf]) ?_; refine wpAny_bind ?_)
        have hge : (ms.length + 1) * 5 ≥ t2.mask * 3 := by
          have h := hf
          unfold SetTable.tooFull at h
          rw [decide_eq_true_eq, full] at h
          exact h
        rw [cnt]
        have plc1 : t2.place.size = ents1.size := by
          have h := tbk2.sz
          unfold hashesOf at h
          rw [List.length_map, ln] at h
          rw [h, cnt1]
        have two : (tb.mask = 7 ∧ ms.length = 4) ∨ (tb.mask = 31 ∧ ms.length = 18) := by
          rcases R.tbk.mok with e | e | e
          · rw [em, e] at hge; rw [e] at gap; exact .inl ⟨e, by omega⟩
          · rw [em, e] at hge; rw [e] at gap; exact .inr ⟨e, by omega⟩
          · rw [em, e] at hge; omega
        have go : ∀ M, SetTable.sizeAbove (SetTable.grown (ms.length + 1)) - 1 = M → MaskOk M → SetTable.sizeAbove (SetTable.grown (ms.length + 1)) ≤ 128 → (ms.length + 1) * 5 < M * 3 →
            wpAny (model P w) A (setRelay c (SetTable.grown (ms.length + 1))) (fun _ s' => wpAny (model P w) A (pure true) Q E s') E { s with heap := hp1 } := fun M h1 h2 h3 h4 => by
          refine regrow (s := { s with heap := hp1 }) mk ho1 ⟨hex.1, hex.2.1, hex.2.2⟩ rfl lin1 plc1 tbk2.dm (by rw [cnt1, em]; omega) uni1 mem1 (by omega) h1 h2 h3 (by rw [ln]; exact h4) ?_
          intro hp2 ms2 ents2 n2 tb2 sb2 R2 pm2
          exact wpAny_pure (q true hp2 ms2 ents2 n2 tb2 (sb.trans sb2) R2 (.inr ⟨hk, pm2.trans pm⟩))
        rcases two with ⟨_, e⟩ | ⟨_, e⟩
        · exact go 31 (by rw [e, size_20]) (.inr (.inl rfl)) (by rw [e, size_20]; decide) (by omega)
        · exact go 127 (by rw [e, size_76]) (.inr (.inr rfl)) (by rw [e, size_76]; decide) (by omega)
      · first
          | refine wp_if_neg (by simp [hf]) ?_
          | (refine wpAny_bind ?_; refine wp_if_neg (by simp [hf]) ?_; refine wpAny_pure ?_)
        refine wpAny_pure (q true hp1 ms1 ents1 (n + 1) t2 sb ⟨⟨_, ho1, ⟨hex.1, hex.2.1, hex.2.2⟩, rfl⟩, lin1, tbk2, uni1, mem1, ?_, by omega⟩ (.inr ⟨hk, pm⟩))
        have h := hf
        unfold SetTable.tooFull at h
        rw [decide_eq_true_eq, full] at h
        omega
    by_cases pl : t1.plain = true
    · first
        | (refine wpAny_bind ?_; refine wp_if_pos pl ?_)
        | (refine wp_if_pos pl ?_; refine wpAny_bind ?_)
      refine mk.byv hx fun bv => ?_
      cases bv with
      | true =>
        simp only [if_true]
        exact rest t1 rfl rfl rfl
      | false =>
        simp only [Bool.false_eq_true, if_false]
        exact rest { t1 with plain := false } rfl rfl rfl
    · first
        | (refine wpAny_bind ?_; refine wp_if_neg pl ?_)
        | (refine wp_if_neg pl ?_; refine wpAny_bind ?_)
      refine wpAny_pure ?_
      simp only [if_true]
      exact rest t1 rfl rfl rfl
end
end PF
end
section
set_option linter.all false
set_option Elab.async false
set_option linter.all false
set_option maxRecDepth 100003
set_option maxHeartbeats 4000003
set_option autoImplicit false
namespace PF
open PySem PySem.Spec PyProof.Rows L2
section
variable {P : Program} {w : World} {K : Type} [DecidableEq K] {κ : HeapKind P w K} {A : Around} {E : Value → Shared → Prop} {s : Shared}
theorem SetK.keep (mk : Meek κ) {h h' : Heap} {c : Addr} {ms : List (Addr × K)} {ents : Array (Int × Value)} {n : Nat} {tb : SetTable} (R : SetK κ h c ms ents n tb) (hc : ∀ o, h.get? c = some o → h'.get? c = some o) (hm : ∀ m ∈ ms, κ.is h' m.2 m.1) : SetK κ h' c ms ents n tb := by
  obtain ⟨ob, hob, r⟩ := R.obj
  exact ⟨⟨ob, hc ob hob, r⟩, R.lin, R.tbk, R.uni, hm, R.gap, R.few⟩
/-- nothing yet -/
theorem setK_nil {h : Heap} {c : Addr} (ho : h.get? c = some { cls := .type "set", dict := none, data := .set #[] 0 (.fresh 0 0 (!w.params.followText "set-order")) }) : SetK κ h c [] #[] 0 (.fresh 0 0 (!w.params.followText "set-order")) :=
  ⟨⟨_, ho, ⟨rfl, rfl, rfl⟩, rfl⟩, rfl, ⟨List.Pairwise.nil, rfl, rfl, .inl rfl, fun x hx => (nomatch hx), fun i h j hi => by simp [hashesOf] at hi⟩, List.nodup_nil, fun _ h => (nomatch h), by show 0 * 5 < 7 * 3; decide, by show 0 < 64; decide⟩
/-- what the first i have brought -/
structure Brought (ks : List (Addr × K)) (i : Nat) (ms : List (Addr × K)) : Prop where
  sub : ∀ m ∈ ms, m ∈ ks.take i
  all : ∀ m ∈ ks.take i, m.2 ∈ ms.map (·.2)
  len : ms.length ≤ i
theorem Brought.next {ks ms ms' : List (Addr × K)} {i : Nat} {m : Addr × K} (g : Brought ks i ms) (e : ks[i]? = some m) (h : (m.2 ∈ ms.map (·.2) ∧ ms' = ms) ∨ (m.2 ∉ ms.map (·.2) ∧ ms'.Perm (m :: ms))) : Brought ks (i + 1) ms' := by
  have et : ks.take (i + 1) = ks.take i ++ [m] := by rw [List.take_add_one, e]; rfl
  rcases h with ⟨hm, rfl⟩ | ⟨hm, pm⟩
  · refine ⟨fun x hx => by rw [et]; exact List.mem_append_left _ (g.sub x hx), fun x hx => ?_, Nat.le_succ_of_le g.len⟩
    rw [et] at hx
    rcases List.mem_append.mp hx with z | z
    · exact g.all x z
    · rw [List.mem_singleton.mp z]; exact hm
  · refine ⟨fun x hx => ?_, fun x hx => ?_, by rw [pm.length_eq, List.length_cons]; exact Nat.succ_le_succ g.len⟩
    · rw [et]
      rcases List.mem_cons.mp (pm.mem_iff.mp hx) with z | z
      · rw [z]; exact List.mem_append_right _ (List.mem_singleton.mpr rfl)
      · exact List.mem_append_left _ (g.sub x z)
    · rw [(pm.map (·.2)).mem_iff, List.map_cons]
      rw [et] at hx
      rcases List.mem_append.mp hx with z | z
      · exact List.mem_cons_of_mem _ (g.all x z)
      · rw [List.mem_singleton.mp z]; exact List.mem_cons_self
/-- the loop behind set(..) -/
theorem fill_loop (mk : Meek κ) {J : Addr} {fp wr : List Addr} {G : Array GenState → Array GenState → Prop} {n : Nat} {Pv : Nat → Value → Prop} {St : Nat → Shared → Prop} {R : Result → Shared → Prop}
    (W : WalksS P w A.in1 J fp wr G n Pv St) {c : Addr} (hcf : c ∉ fp) (ks : List (Addr × K)) (hn : n = ks.length) (few : ks.length < 64) (val : ∀ i v, Pv i v → ∃ m, ks[i]? = some m ∧ v = .ref m.1)
    (h0 : Heap) (hk : ∀ m ∈ ks, κ.is h0 m.2 m.1) (hc0 : h0.get? c = none) (hw0 : ∀ b ∈ wr, h0.get? b = none) (hr : κ.room A.in1) :
    ∀ (k i : Nat) (s : Shared), n - i = k → i ≤ n → St i s → (∀ b o, h0.get? b = some o → s.heap.get? b = some o) → (∃ ms ents m tb, SetK κ s.heap c ms ents m tb ∧ Brought ks i ms) →
      (∀ s' ms ents m tb, Moved (c :: wr) G s s' → SetK κ s'.heap c ms ents m tb → Brought ks n ms → (∀ b o, h0.get? b = some o → s'.heap.get? b = some o) → R (.ok (.ret .none)) s') →
      codeAny (model P w) A (.builtin "set.update.loop" ⟨[.ref c, .ref J], []⟩) R s := by
  have hcw : c ∉ wr := fun h => hcf (W.sub _ h)
  have up : ∀ b ∈ wr, b ∈ c :: wr := fun b hb => List.mem_cons_of_mem _ hb
  have old : ∀ {s s' : Shared}, Moved wr G s s' → (∀ b o, h0.get? b = some o → s.heap.get? b = some o) → ∀ b o, h0.get? b = some o → s'.heap.get? b = some o := fun hm hkp b o e =>
    hm.heap b o (fun hb => by rw [hw0 b hb] at e; cases e) (hkp b o e)
  have tup : ∀ {h' : Heap}, (∀ b o, h0.get? b = some o → h'.get? b = some o) → ∀ m ∈ ks, κ.is h' m.2 m.1 := fun hkp m hm => mk.stay (fun b o vs n hb _ => hkp b o hb) (hk m hm)
  intro k
  induction k with
  | zero =>
    intro i s ek hi hst hkp ⟨ms, ents, m, tb, hS, g⟩ fin
    have hin : i = n := by omega
    subst hin
    refine codeAny_builtin F.entry_set_update_loop ?_
    rw [Around.under_plainId F.plain_set_update_loop _]
    show wpAny _ A.in1 (pyNext (.ref J) >>= _) _ _ s
    refine wpAny_bind (W.done s _ _ hst fun s' hm => ?_)
    show wpAny _ A.in1 (ret Value.none) _ _ s'
    have hkp' := old hm hkp
    exact wpAny_pure (fin s' ms ents m tb (hm.mono up) (hS.keep mk (fun o e => hm.heap c o hcw e) fun x hx => tup hkp' x (List.mem_of_mem_take (g.sub x hx))) g hkp')
  | succ k ih =>
    intro i s ek hi hst hkp ⟨ms, ents, m, tb, hS, g⟩ fin
    have hlt : i < n := by omega
    refine codeAny_builtin F.entry_set_update_loop ?_
    rw [Around.under_plainId F.plain_set_update_loop _]
    show wpAny _ A.in1 (pyNext (.ref J) >>= _) _ _ s
    refine wpAny_bind (W.item i s _ _ hlt hst fun v s' hP hst' hm => ?_)
    obtain ⟨x, hx, rfl⟩ := val i v hP
    have hkp' := old hm hkp
    have hS' : SetK κ s'.heap c ms ents m tb := hS.keep mk (fun o e => hm.heap c o hcw e) fun y hy => tup hkp' y (List.mem_of_mem_take (g.sub y hy))
    have hxk : κ.is s'.heap x.2 x.1 := tup hkp' x (List.mem_of_getElem? hx)
    show wpAny _ A.in1 (holding [Value.ref x.1] (setAdd c (.ref x.1)) >>= _) _ _ s'
    refine wpAny_bind (wpAny_holding ?_)
    unfold setAdd
    refine wpAny_holding ?_
    refine wpAny_bind (κ.pyHash hr hxk ?_)
    refine put_in (s := { s' with toks := s'.toks + κ.draws x.2 }) mk hS' hxk hr (by have := g.len; omega) fun b h' ms' ents' m' tb' sb hS2 hh => ?_
    have g' : Brought ks (i + 1) ms' := g.next hx hh
    have hkp2 : ∀ b o, h0.get? b = some o → h'.get? b = some o := fun b o e => (sb.2 b (fun z => by rw [z, hc0] at e; cases e)).trans (hkp' b o e)
    refine wpAny_pure ⟨plainId_quiet F.plain_set_update_loop _, ih (i + 1) _ (by omega) hlt (W.frame _ s' _ _ hst' (Nat.le_add_right _ _) fun b hb o e => ?_) hkp2 ⟨ms', ents', m', tb', hS2, g'⟩ fun s'' ms2 ents2 m2 tb2 hm'' hS'' g'' hkp'' => ?_⟩
    · rw [sb.2 b (fun z : b = c => hcf (by rw [← z]; exact hb))]; exact e
    · refine fin s'' ms2 ents2 m2 tb2 (Moved.trans W.gtrans ((hm.mono up).then_heap (Nat.le_add_right _ _) fun b o hb e => ?_) hm'') hS'' g'' hkp''
      rw [sb.2 b (fun z : b = c => hb (by rw [z]; exact List.mem_cons_self))]; exact e
/-- an empty set as it is made -/
def set0 (w : World) : Obj := { cls := .type "set", dict := none, data := .set #[] 0 (.fresh 0 0 (!w.params.followText "set-order")) }
/-- set(x), x a tuple of such -/
theorem set_of (mk : Meek κ) {l : Addr} {items : Array Value} (ks : List (Addr × K)) {Q : Value → Shared → Prop} (hh : A.handled = none) (hl : s.heap.IsTuple l items) (hit : items.toList = ks.map fun m => Value.ref m.1)
    (hk : ∀ m ∈ ks, κ.is s.heap m.2 m.1) (few : ks.length < 64) (hr : κ.room A.in1.in1.in1)
    (q : ∀ (h' : Heap) (tk : Nat) ms ents m tb, SetK κ h' s.heap.objs.size ms ents m tb → Brought ks ks.length ms → (∀ b o, s.heap.get? b = some o → h'.get? b = some o) → Q (.ref s.heap.objs.size) { s with heap := h', toks := tk }) :
    wpAny (model P w) A (call (.type "set") [.ref l]) Q E s := by
  have cnt : items.size = ks.length := by
    have e := congrArg List.length hit
    simpa using e
  obtain ⟨cc, tl, hmro⟩ := F.called_set.mro
  have f1 := F.called_set.made
  have f2 := F.called_set.sub
  refine wpAny_call (codeAny_of_tree ?_)
  show wpAny _ _ (callAny (.type "set") _) _ _ _
  refine wpAny_pure ⟨Code.quiet_builtin _ (by decide +kernel), codeAny_builtin F.entry_type_call ?_⟩
  rw [Around.under_plain (weight_type_call_type "set" [.ref l] []) rfl]
  have f3 := F.called_set.notType
  have f4 := F.called_set.canCreate
  have f5 := F.typeCall_set_1 (.ref l)
  repeat (any_goals (first | assumption | wp_step))
  refine codeAny_mono (code_set_led1 (.ref l) (E := E) (Q₁ := fun ob s1 => ob = .ref s.heap.objs.size ∧ s1 = { s with heap := s.heap.push (set0 w) }) ⟨rfl, rfl⟩) fun r s1 hr1 => ?_
  cases r with
  | error e => exact hr1
  | ok fl =>
    cases fl with
    | ret ob =>
      obtain ⟨rfl, rfl⟩ := hr1
      have hS : (s.heap.push (set0 w)).get? s.heap.objs.size = some (set0 w) := Heap.get?_push_size _ rfl
      have hT : Shared.TypeIs { s with heap := s.heap.push (set0 w) } (.ref s.heap.objs.size) "set" := ⟨_, hS, rfl⟩
      have f6 := F.called_set.init.lookup
      have f7 := F.called_set.init.bind (.ref s.heap.objs.size)
      repeat (any_goals (first | assumption | wp_step))
      refine codeAny_mono (codeAny_call_builtin (R := wants (fun r s2 => r = .none ∧ ∃ h' tk ms ents m tb, s2 = { s with heap := h', toks := tk } ∧ SetK κ h' s.heap.objs.size ms ents m tb ∧ Brought ks ks.length ms ∧
          (∀ b o, s.heap.get? b = some o → h'.get? b = some o)) E) F.called_set.init.plain F.entry_set_init (check_set_init_1 hT ?_)) fun r2 s2 hr2 => ?_
      · obtain ⟨ol, hol, hcl, nl, hdl⟩ := hl
        obtain ⟨oc, od, odat, os⟩ := ol
        simp only at hcl hdl
        subst hcl; subst hdl
        have hol' : (s.heap.push (set0 w)).get? l = some { cls := .type "tuple", dict := od, data := .seq items nl, slots := os } := Heap.get?_push_of_some _ hol
        have f8 := F.sub_tuple_set
        have f9 := F.sub_tuple_frozenset
        have f10 : (Value.type "tuple" == Value.type "dict") = false := by decide
        have hl1 : (s.heap.push (set0 w)).IsTuple l items := ⟨_, hol', rfl, nl, rfl⟩
        unfold Builtin.«set.__init__» noKeywords Builtin.Frozenset.updateFrom
        generalize hPI : pyIter = PI
        wp_walk
        subst hPI
        refine wpAny_pyIter_tuple hl1 ?_
        refine wpAny_bind (wpAny_runValue ?_)
        have hlS : l < s.heap.objs.size := Heap.lt_size hol
        have hh3 : A.in1.in1.in1.handled = none := by simp [hh]
        have szp : (s.heap.push (set0 w)).objs.size = s.heap.objs.size + 1 := Heap.size_push ..
        have hneI : l ≠ (s.heap.push (set0 w)).objs.size := by rw [szp]; exact Nat.ne_of_lt (Nat.lt_succ_of_lt hlS)
        have hSf : s.heap.objs.size ∉ [(s.heap.push (set0 w)).objs.size, l] := by
          simp only [List.mem_cons, List.not_mem_nil, or_false, not_or, szp]
          exact ⟨Nat.ne_of_lt (Nat.lt_succ_self _), Nat.ne_of_gt hlS⟩
        have val : ∀ (i : Nat) (v : Value), items[i]? = some v → ∃ m, ks[i]? = some m ∧ v = .ref m.1 := fun i v hv => by
          rw [← Array.getElem?_toList, hit, List.getElem?_map] at hv
          obtain ⟨m, e1, e2⟩ := Option.map_eq_some_iff.mp hv
          exact ⟨m, e1, e2.symm⟩
        have gone : ∀ b, s.heap.objs.size ≤ b → s.heap.get? b = none := fun b hb => by
          cases e : s.heap.get? b with
          | none => rfl
          | some o => exact absurd (Nat.lt_of_lt_of_le (Heap.lt_size e) hb) (Nat.lt_irrefl _)
        refine fill_loop mk (Walks.tuple hh3 _ l hneI items).toS hSf ks cnt few val s.heap hk (gone _ (Nat.le_refl _)) (fun b hb => gone b (by
            rw [List.mem_singleton.mp hb, szp]
            exact Nat.le_succ _)) hr (items.size - 0) 0 _ (by omega) (Nat.zero_le _)
          ⟨⟨_, Heap.get?_push_size _ rfl, rfl, rfl⟩, (hl1.push _)⟩ (fun b o e => Heap.get?_push_of_some _ (Heap.get?_push_of_some _ e)) ?hS0 ?hR
        case hS0 =>
          have hget : ((s.heap.push (set0 w)).push { cls := .type "tuple_iterator", data := .fields #[.ref l, .int 0 0] }).get? s.heap.objs.size = some (set0 w) := Heap.get?_push_of_some _ hS
          exact ⟨[], #[], 0, _, setK_nil hget, ⟨fun _ h => (nomatch h), fun m h => by simp at h, Nat.le_refl _⟩⟩
        case hR =>
          intro s' ms ents m tb hm hS' g' hkp
          obtain ⟨h', g2, d', tk', os'⟩ := s'
          have eg : g2 = s.gens := hm.gens
          have ed : d' = s.drawn := hm.drawn
          have eo : os' = s.os := hm.os
          subst eg; subst ed; subst eo
          show wpAny _ _ _ _ _ _
          refine wpAny_pure ?_
          show wpAny _ _ (ret Value.none) _ _ _
          rw [cnt] at g'
          exact wpAny_pure ⟨rfl, h', tk', ms, ents, m, tb, rfl, hS', g', hkp⟩
      · cases r2 with
        | error e => exact hr2
        | ok fl2 =>
          cases fl2 with
          | ret r =>
            obtain ⟨rfl, h', tk, ms, ents, m, tb, rfl, hS', g', hk'⟩ := hr2
            repeat (any_goals (first | assumption | wp_step))
            exact q _ _ _ _ _ _ hS' g' hk'
          | _ => exact hr2.elim
    | _ => exact hr1.elim
end
end PF
end
section
set_option linter.all false
set_option Elab.async false
set_option linter.all false
set_option maxRecDepth 100003
set_option maxHeartbeats 2000003
set_option autoImplicit false
namespace PF
open PySem PySem.Spec PyProof.Rows L2
mutual
theorem keyN_inj : ∀ {a b : D}, a.plain = true → b.plain = true → keyN a = keyN b → a = b
  | .non, b, _, hb, h => by cases b <;> simp [keyN] at h <;> first | rfl | (simp [D.plain] at hb)
  | .bl x, b, ha, _, _ => by simp [D.plain] at ha
  | .int i, b, _, hb, h => by
    cases b with
    | int j => simp [keyN] at h; rw [h]
    | bl x => simp [D.plain] at hb
    | _ => simp [keyN] at h
  | .str s, b, _, hb, h => by
    cases b with
    | str t => simp [keyN] at h; rw [strOf_inj h]
    | _ => simp [keyN] at h
  | .tup ds, b, ha, hb, h => by
    cases b with
    | tup es =>
      simp only [keyN, NestedKey.tup.injEq] at h
      unfold D.plain at ha hb
      rw [keyNs_inj ha hb h]
    | _ => simp [keyN] at h
  | .ref n, b, ha, _, _ => by simp [D.plain] at ha
theorem keyNs_inj : ∀ {a b : List D}, D.plains a = true → D.plains b = true → keyNs a = keyNs b → a = b
  | [], b, _, _, h => by
    cases b with
    | nil => rfl
    | cons _ _ => simp [keyNs] at h
  | x :: xs, b, ha, hb, h => by
    cases b with
    | nil => simp [keyNs] at h
    | cons y ys =>
      simp only [keyNs, List.cons.injEq] at h
      unfold D.plains at ha hb
      rw [Bool.and_eq_true] at ha hb
      rw [keyN_inj ha.1 hb.1 h.1, keyNs_inj ha.2 hb.2 h.2]
end
mutual
theorem keyN_depth : ∀ d : D, (keyN d).depth = d.deep
  | .non => rfl
  | .bl _ => rfl
  | .int _ => rfl
  | .str _ => rfl
  | .tup ds => by
    unfold keyN D.deep NestedKey.depth
    rw [keyNs_depth ds]
  | .ref _ => rfl
theorem keyNs_depth : ∀ ds : List D, NestedKey.depthAll (keyNs ds) = D.deeps ds
  | [] => rfl
  | d :: ds => by
    unfold keyNs D.deeps NestedKey.depthAll
    rw [keyN_depth d, keyNs_depth ds]
end
section
variable {X : Cx} {pins : List (Addr × Obj)} {σ : L2.St} {M : List Addr} {H : Hp} {s : Shared}
mutual
theorem nested_of (I : Inv X pins σ H s) : ∀ {d : D} {v : V} {u : Value}, RelD X.K M H d v → RelV v u → d.plain = true → NestedIs s.heap (keyN d) u
  | .non, _, _, h, r, _ => by
    unfold RelD at h
    subst h
    cases r
    exact .none
  | .bl b, _, _, _, _, p => by simp [D.plain] at p
  | .int i, _, _, h, r, _ => by
    unfold RelD at h
    subst h
    obtain ⟨t, rfl⟩ := r
    exact .int i t
  | .str x, _, _, h, r, _ => by
    unfold RelD at h
    subst h
    obtain ⟨t, rfl⟩ := r
    exact .text _ t
  | .tup ds, _, _, h, r, p => by
    unfold RelD at h
    obtain ⟨a, vs, rfl, ht, hd⟩ := h
    cases r
    obtain ⟨its, rv, ⟨o, ho, hc, n, hdat⟩, _⟩ := I.tuple ht
    unfold D.plain at p
    unfold keyN
    exact .tup ho hc hdat (by simpa using nesteds_of I hd rv p)
  | .ref _, _, _, _, _, p => by simp [D.plain] at p
theorem nesteds_of (I : Inv X pins σ H s) : ∀ {ds : List D} {vs : List V} {us : List Value}, RelDs X.K M H ds vs → Vals vs us → D.plains ds = true → NestedAll s.heap (keyNs ds) us
  | [], _, _, h, r, _ => by
    unfold RelDs at h
    subst h
    cases r
    exact .nil
  | d :: ds, _, _, h, r, p => by
    unfold RelDs at h
    obtain ⟨v, q, rfl, h1, h2⟩ := h
    cases r with
    | cons r1 r2 =>
      unfold D.plains at p
      rw [Bool.and_eq_true] at p
      unfold keyNs
      exact .cons (nested_of I h1 r1 p.1) (nesteds_of I h2 r2 p.2)
end
end
theorem nd_len {α : Type} [DecidableEq α] {a b : List α} (ha : a.Nodup) (hb : b.Nodup) (h : ∀ x, x ∈ a ↔ x ∈ b) : a.length = b.length := ((List.perm_ext_iff_of_nodup ha hb).mpr h).length_eq
section
variable {X : Cx} {pins : List (Addr × Obj)} {σ : L2.St} {M : List Addr} {H : Hp} {s : Shared}
theorem tups_of (I : Inv X pins σ H s) : ∀ {ds : List D} {vs : List V} {us : List Value}, RelDs X.K M H ds vs → Vals vs us → ds.all tupK = true →
    ∃ ks : List (Addr × NestedKey), us = ks.map (fun m => Value.ref m.1) ∧ ks.map (·.2) = ds.map keyN ∧ ∀ m ∈ ks, (nestedKind X.prog X.w).is s.heap m.2 m.1
  | [], _, _, h, r, _ => by
    unfold RelDs at h
    subst h
    cases r
    exact ⟨[], rfl, rfl, fun _ h => nomatch h⟩
  | d :: ds, _, _, h, r, p => by
    unfold RelDs at h
    obtain ⟨v, q, rfl, h1, h2⟩ := h
    cases r with
    | cons r1 r2 =>
      rw [List.all_cons, Bool.and_eq_true] at p
      obtain ⟨p1, p2⟩ := p
      obtain ⟨ks, e1, e2, e3⟩ := tups_of I h2 r2 p2
      unfold tupK at p1
      rw [Bool.and_eq_true, Bool.and_eq_true] at p1
      obtain ⟨⟨pt, pp⟩, pd⟩ := p1
      cases d with
      | tup es =>
        have hn := nested_of I h1 r1 pp
        have h1' := h1
        unfold RelD at h1'
        obtain ⟨a, vs', rfl, ht, _⟩ := h1'
        cases r1
        refine ⟨(a, keyN (.tup es)) :: ks, by rw [List.map_cons, e1], by rw [List.map_cons, List.map_cons, e2], fun m hm => ?_⟩
        rcases List.mem_cons.mp hm with z | z
        · rw [z]
          exact ⟨hn, by rw [keyN_depth]; exact of_decide_eq_true pd⟩
        · exact e3 m z
      | _ => cases pt
end
/-- a set of so many, as len asks for it -/
def LenSet (a : Addr) (N : Nat) (h : Heap) : Prop := ∃ ob es ep t, h.get? a = some ob ∧ ob.ExactSet ∧ ob.data = .set es ep t ∧ t.fits es.size = true ∧ es.size = N ∧ N < 64
def LenO (a : Addr) (N : Nat) : HO := .ext (LenSet a N)
theorem lenO_new {P : Program} {w : World} {H : Hp} {h : Heap} {a : Addr} {N : Nat} (R : LenSet a N h) : ObjOk P w H h a (LenO a N) := by
  have ⟨ob, es, ep, t, ho, r⟩ := R
  refine ⟨R, ⟨ob, ho⟩, fun h1 h2 p k => ?_⟩
  have ⟨ob', es', ep', t', ho', r'⟩ : LenSet a N h1 := p
  exact ⟨ob', es', ep', t', k ob' ho', r'⟩
section
variable {nm : Nm} {X : Cx}
def rSetN (K : PySem.W.Frag) : List V → Hp → VK → Prop := fun xs H Q => ∃ (M : List Addr) (a : Addr) (ds : List D) (vs : List V), xs = [.ref a] ∧ SqT K H a vs ∧ RelDs K M H ds vs ∧ ds.length < 64 ∧ ds.all tupK = true ∧
  ∀ p : Addr, H p = none → Q (.ref p) (upd H p (LenO p (dedup ds).length))
theorem cr_setN (hu : X.A.units + 64 < cLine) (hc : X.calm = true) : CallR X (.type "set") (rSetN X.K) := by
  intro pins s σ H xs us Q I r h
  obtain ⟨M, a, ds, vs, rfl, ha, hd, hl, hall, q⟩ := h
  rw [Vals.ref1 r]
  obtain ⟨its, rv, ht, hz⟩ := I.tuple ha
  obtain ⟨ks, e1, e2, e3⟩ := tups_of I hd rv hall
  obtain ⟨o, ho, hcl, n, hdat⟩ := ht
  have lk : ks.length = ds.length := by
    have := congrArg List.length e2
    simpa using this
  refine set_of nested_meek ks (I.ok.hd hc) ⟨o, ho, hcl, n, hdat⟩ (by simpa using e1) e3 (by omega) (by show _ + 8 < cLine; simp only [Around.in1_units]; omega) fun h' tk ms ents m tb R g k => ?_
  have cnt := R.cnt
  have eN : ms.length = (dedup ds).length := by
    have plain : ∀ d ∈ ds, d.plain = true := fun d hd => by
      have := List.all_eq_true.mp hall d hd
      unfold tupK at this
      rw [Bool.and_eq_true, Bool.and_eq_true] at this
      exact this.1.2
    have n2 : ((dedup ds).map keyN).Nodup := List.pairwise_map.mpr (List.Pairwise.imp_of_mem (fun {x y} hx hy hne e => hne (keyN_inj (plain x (dedup_mem.mp hx)) (plain y (dedup_mem.mp hy)) e)) (dedup_nodup ds))
    have hm : ∀ x, x ∈ ms.map (·.2) ↔ x ∈ (dedup ds).map keyN := fun x => by
      have em : x ∈ (dedup ds).map keyN ↔ x ∈ ks.map (·.2) := by
        rw [e2]
        constructor
        · intro z
          obtain ⟨d, hd, e⟩ := List.mem_map.mp z
          exact List.mem_map.mpr ⟨d, dedup_mem.mp hd, e⟩
        · intro z
          obtain ⟨d, hd, e⟩ := List.mem_map.mp z
          exact List.mem_map.mpr ⟨d, dedup_mem.mpr hd, e⟩
      rw [em]
      constructor
      · intro z
        obtain ⟨y, hy, e⟩ := List.mem_map.mp z
        exact List.mem_map.mpr ⟨y, List.mem_of_mem_take (g.sub y hy), e⟩
      · intro z
        obtain ⟨y, hy, e⟩ := List.mem_map.mp z
        rw [← e]
        exact g.all y (by rw [List.take_length]; exact hy)
    have := nd_len R.uni n2 hm
    simpa using this
  have hset : LenSet s.heap.objs.size (dedup ds).length h' := by
    obtain ⟨ob, hob, hex, hdt⟩ := R.obj
    have few := R.few
    exact ⟨ob, ents, m, tb, hob, hex, hdt, R.fit, by rw [cnt, eN], by omega⟩
  exact ⟨.ref s.heap.objs.size, upd H s.heap.objs.size (LenO s.heap.objs.size (dedup ds).length), I.laid (t' := tk) k (Nat.le_refl _) (lenO_new hset), rfl, q _ (I.hok.fresh (Nat.le_refl _))⟩
def rLenN : List V → Hp → VK → Prop := fun xs H Q => ∃ (a : Addr) (N : Nat), xs = [.ref a] ∧ H a = some (LenO a N) ∧ Q (.int N) H
theorem cr_lenN : CallR X (.builtin "len") rLenN := by
  intro pins s σ H xs us Q I r h
  obtain ⟨a, N, rfl, ha, q⟩ := h
  rw [Vals.ref1 r]
  have R : LenSet a N s.heap := (I.hok a _ ha).1
  obtain ⟨ob, es, ep, t, ho, hex, hd, hf, hn, few⟩ := R
  refine call_len_set ho hex hd hf (by rw [hn]; omega) ⟨.int N, H, I.tok _, ⟨_, by rw [hn]⟩, q⟩
theorem wd_lenSet {a : Expr} {f : E} {p p2 pos pos2 : Pos} (hu : X.A.units + 64 < cLine) (hc : X.calm = true) (hg : Gl X "len") (hm : X.mg "len" = none) (hg2 : Gl X "set") (hm2 : X.mg "set" = none) (ha : PX nm X a f) (na : starEach [a] X.env = (false, eval a X.env) :: starEach [] X.env) (hp : (backTo pos2 (starEach [] X.env)).any (·.1) = false)
    (na2 : starEach [.Call (.Name "set" p2) [a] [] pos2] X.env = (false, eval (.Call (.Name "set" p2) [a] [] pos2) X.env) :: starEach [] X.env) (hp2 : (backTo pos (starEach [] X.env)).any (·.1) = false) :
    PX nm X (.Call (.Name "len" p) [.Call (.Name "set" p2) [a] [] pos2] [] pos) (eCall fLenSet (aCons f aNil)) := by
  have hs : PE X (.Call (.Name "set" p2) [a] [] pos2) (tCB (rSetN X.K) (tCons (rE nm X f) tNil)) := pe_callTy (cr_setN hu hc) hg2 hm2 bv_set (pa_cons ha pa_nil na) (by decide +kernel) (by decide +kernel) na hp
  refine PE.imp (pe_callB cr_lenN hg hm PySem.boot_len (pa_cons hs pa_nil na2) (by decide +kernel) (by decide +kernel) na2 hp2) fun σ H Q ⟨M, ρ, S, d, S', rs, re, h, k⟩ => ?_
  unfold eCall at h
  obtain ⟨xs, S1, h1, h⟩ := bind_inv h
  unfold aCons at h1
  obtain ⟨x, S2, h2, h1⟩ := bind_inv h1
  unfold aNil at h1
  obtain ⟨ys, S3, h3, h1⟩ := bind_inv h1
  cases h3
  cases h1
  refine rE.go rs re h2 fun M1 H1 v e1 r1 q1 => ?_
  unfold fLenSet at h
  split at h
  · rename_i ds ex
    cases ex
    split at h
    · rename_i c
      cases h
      obtain ⟨a, vs, rfl, ht, qa⟩ := q1.tup
      refine ⟨M1, a, ds, vs, rfl, ht, qa, c.1, c.2, fun p hpn => ?_⟩
      have e2 : Ext M1 H1 M1 (upd H1 p (LenO p (dedup ds).length)) := Ext.tup hpn
      refine ⟨p, _, rfl, upd_same, ?_⟩
      exact k _ _ _ (e1.trans e2) (r1.tup hpn) (by unfold RelD; rfl)
    · cases h
  · cases h
end
end PF
end
section
set_option linter.all false
set_option Elab.async false
set_option linter.all false
set_option maxRecDepth 100003
set_option maxHeartbeats 4000003
set_option autoImplicit false
namespace PF
open PySem PySem.Spec PyProof.Rows L2
section
variable {P : Program} {w : World} {A : Around} {E : Value → Shared → Prop} {s : Shared}
end
section
variable {nm : Nm} {X : Cx}
def rSetL (K : PySem.W.Frag) (w : World) : List V → Hp → VK → Prop := fun xs H Q => ∃ (a : Addr) (ns : List Int), xs = [.ref a] ∧ SqL K H a (ns.map V.int) ∧ ns.length < 64 ∧
  ∀ (p : Addr) (c : Nat), H p = none → c ≤ ns.length → Q (.ref p) (upd H p (SetO w p (fun j => decide (j ∈ ns)) c))
end
end PF
end
section
set_option linter.all false
set_option Elab.async false
set_option linter.all false
set_option maxRecDepth 100003
set_option maxHeartbeats 2000003
set_option autoImplicit false
namespace PF
open PySem L2
section
variable {nm : Nm} {X : Cx} {M M' : List Addr} {H H' : Hp} {S S' S1 : Sto} {ρ : Env} {σ : L2.St} {Q : VK} {d : D}
theorem RelKs.key {K : PySem.W.Frag} : ∀ {kvs : List (D × D)} {ps : List (Key × V)} {i : Nat} {k : Key} {v : V}, RelKs K M H kvs ps → ps[i]? = some (k, v) → (kvs.map (·.1))[i]? = some (keyD k)
  | [], _, _, _, _, h, e => by have z : _ = [] := h; subst z; simp at e
  | p :: _, _, 0, _, _, h, e => by
    obtain ⟨k', v', q, rfl, hk, _, h⟩ := h
    simp at e
    simp [hk, e.1]
  | _ :: _, _, i + 1, _, _, h, e => by
    obtain ⟨k', v', q, rfl, hk, _, h⟩ := h
    simp only [List.getElem?_cons_succ] at e
    simpa using RelKs.key h e
end
end PF
end
section
set_option linter.all false
set_option Elab.async false
set_option linter.all false
set_option maxRecDepth 100003
set_option maxHeartbeats 2000003
set_option autoImplicit false
namespace PF
open PySem PySem.Spec PyProof.Rows L2
section
variable {nm : Nm} {X : Cx} {M M' : List Addr} {H H' : Hp} {S S' S1 : Sto} {ρ : Env} {σ : L2.St} {Q : VK} {d : D}
theorem rel_strs {K : PySem.W.Frag} : ∀ (ys : List (List Nat)), RelDs K M H (ys.map D.str) ((ys.map strOf).map V.str)
  | [] => .nil
  | y :: ys => .cons (by unfold RelD; rfl) (rel_strs ys)
end
end PF
end
section
set_option linter.all false
set_option Elab.async false
set_option linter.all false
set_option maxRecDepth 100003
set_option maxHeartbeats 2000003
set_option autoImplicit false
namespace PF
open PySem PySem.Spec PyProof.Rows L2
mutual
theorem hash_dry : ∀ (d : D) (w w' : World), d.dry = true → (keyN d).hash w = (keyN d).hash w'
  | .non, _, _, _ => rfl
  | .bl _, _, _, _ => rfl
  | .int _, _, _, _ => rfl
  | .str _, _, _, h => by cases h
  | .tup ds, w, w', h => by
    unfold keyN NestedKey.hash
    rw [hashes_dry ds w w' h]
  | .ref _, _, _, _ => rfl
theorem hashes_dry : ∀ (ds : List D) (w w' : World), D.drys ds = true → NestedKey.hashes w (keyNs ds) = NestedKey.hashes w' (keyNs ds)
  | [], _, _, _ => rfl
  | d :: ds, w, w', h => by
    unfold D.drys at h
    rw [Bool.and_eq_true] at h
    unfold keyNs NestedKey.hashes
    rw [hash_dry d w w' h.1, hashes_dry ds w w' h.2]
end
theorem keyT_tup {d : D} (h : keyT d = true) : ∃ ds, d = .tup ds ∧ d.plain = true ∧ d.deep ≤ 8 ∧ d.dry = true := by
  unfold keyT tupK at h
  rw [Bool.and_eq_true, Bool.and_eq_true, Bool.and_eq_true] at h
  obtain ⟨⟨⟨h1, h2⟩, h3⟩, h4⟩ := h
  cases d with
  | tup ds => exact ⟨ds, rfl, h2, of_decide_eq_true h3, h4⟩
  | _ => cases h1
theorem RelX.len {K : PySem.W.Frag} {M : List Addr} {H : Hp} : ∀ {kvs : List (D × D)} {xs : List (Int × Addr)}, RelX K M H kvs xs → kvs.length = xs.length
  | [], _, h => by have e : _ = [] := h; subst e; rfl
  | _ :: _, _, h => by
    obtain ⟨_, _, q, rfl, _, _, _, _, h⟩ := h
    simp [RelX.len h]
theorem RelX.snoc {K : PySem.W.Frag} {M : List Addr} {H : Hp} {k : D} {h : Int} {b : Addr} (hk : keyT k = true) (hr : RelD K M H k (.ref b)) (hh : ∀ w : World, (keyN k).hash w = h) : ∀ {kvs : List (D × D)} {xs : List (Int × Addr)}, RelX K M H kvs xs → RelX K M H (kvs ++ [(k, .bl true)]) (xs ++ [(h, b)])
  | [], _, q => by have e : _ = [] := q; subst e; exact ⟨h, b, [], rfl, rfl, hk, hr, hh, rfl⟩
  | _ :: _, _, q => by
    obtain ⟨h1, b1, q1, rfl, e1, e2, e3, e4, q⟩ := q
    exact ⟨h1, b1, _, rfl, e1, e2, e3, e4, RelX.snoc hk hr hh q⟩
/-- the entries as the library tells them -/
def xsT : List (D × D) → List (Int × Addr) → List (NestedKey × Addr × Value)
  | p :: r, x :: xs => (keyN p.1, x.2, .bool true) :: xsT r xs
  | _, _ => []
theorem ditO_new {P : Program} {w : World} {H : Hp} {h : Heap} {a : Addr} {xs : List (Int × Addr)} (R : DitP a xs h) : ObjOk P w H h a (DitO a xs) := by
  have ⟨ob, es, ep, ho, r⟩ := R
  refine ⟨R, ⟨ob, ho⟩, fun h1 h2 p k => ?_⟩
  have ⟨ob', es', ep', ho', r'⟩ : DitP a xs h1 := p
  exact ⟨ob', es', ep', k ob' ho', r'⟩
section
variable {X : Cx} {pins : List (Addr × Obj)} {σ : L2.St} {M : List Addr} {H : Hp} {s : Shared} {a : Addr}
theorem key_is (I : Inv X pins σ H s) {k : D} {b : Addr} (hk : keyT k = true) (hr : RelD X.K M H k (.ref b)) : (nestedKind X.prog X.w).is s.heap (keyN k) b := by
  obtain ⟨ds, rfl, hp, hd, _⟩ := keyT_tup hk
  exact ⟨nested_of I hr (show RelV (.ref b) (.ref b) from rfl) hp, by rw [keyN_depth]; exact hd⟩
theorem xsT_map {P : Program} {w : World} {K : PySem.W.Frag} : ∀ {kvs : List (D × D)} {xs : List (Int × Addr)}, RelX K M H kvs xs → (xsT kvs xs).map (entryOfKey (nestedKind P w)) = xs.map fun x => (⟨x.1, .ref x.2, .bool true⟩ : DictEntry)
  | [], _, h => by have e : _ = [] := h; subst e; rfl
  | _ :: _, _, h => by
    obtain ⟨h1, b1, q1, rfl, e1, e2, e3, e4, q⟩ := h
    show entryOfKey (nestedKind P w) _ :: _ = _
    rw [List.map_cons, xsT_map q]
    congr 1
    show (⟨(keyN _).hash w, _, _⟩ : DictEntry) = _
    rw [e4]
theorem xsT_is (I : Inv X pins σ H s) : ∀ {kvs : List (D × D)} {xs : List (Int × Addr)}, RelX X.K M H kvs xs → ∀ x ∈ xsT kvs xs, (nestedKind X.prog X.w).is s.heap x.1 x.2.1
  | [], _, h, x, hx => by have e : _ = [] := h; subst e; cases hx
  | _ :: _, _, h, x, hx => by
    obtain ⟨h1, b1, q1, rfl, e1, e2, e3, e4, q⟩ := h
    rcases List.mem_cons.mp hx with rfl | hx
    · exact key_is I e2 e3
    · exact xsT_is I q x hx
theorem xsT_keys {K : PySem.W.Frag} : ∀ {kvs : List (D × D)} {xs : List (Int × Addr)}, RelX K M H kvs xs → (xsT kvs xs).map (·.1) = kvs.map fun p => keyN p.1
  | [], _, h => by have e : _ = [] := h; subst e; rfl
  | _ :: _, _, h => by
    obtain ⟨h1, b1, q1, rfl, e1, e2, e3, e4, q⟩ := h
    show _ :: _ = _
    rw [List.map_cons, xsT_keys q]
theorem RelX.plain {K : PySem.W.Frag} : ∀ {kvs : List (D × D)} {xs : List (Int × Addr)}, RelX K M H kvs xs → ∀ p ∈ kvs, p.1.plain = true
  | [], _, _, p, hp => nomatch hp
  | _ :: _, _, h, p, hp => by
    obtain ⟨h1, b1, q1, rfl, e1, e2, e3, e4, q⟩ := h
    rcases List.mem_cons.mp hp with rfl | hp
    · obtain ⟨_, _, z, _⟩ := keyT_tup e2; exact z
    · exact RelX.plain q p hp
/-- the dict as it stands -/
theorem dit_heap (I : Inv X pins σ H s) {xs : List (Int × Addr)} {kvs : List (D × D)} (ha : H a = some (DitO a xs)) (q : RelX X.K M H kvs xs) (nd : (kvs.map (·.1)).Nodup) : (a == sysModules) = false ∧ s.heap.DictOfH (nestedKind X.prog X.w) a (xsT kvs xs) ∧ xs.length ≤ sizeLine := by
  obtain ⟨o, es, ep, ho, hx, hd, he, hs, hz⟩ : DitP a xs s.heap := (I.hok a _ ha).1
  refine ⟨hs, ⟨o, es, ep, ho, hx, hd, by rw [he, xsT_map q], xsT_is I q, ?_⟩, hz⟩
  rw [xsT_keys q]
  have e : (kvs.map fun p => keyN p.1) = (kvs.map (·.1)).map keyN := by rw [List.map_map]; rfl
  rw [e]
  refine List.pairwise_map.mpr (List.Pairwise.imp_of_mem (fun {x y} hx hy hne e => hne ?_) nd)
  obtain ⟨p, hp, rfl⟩ := List.mem_map.mp hx
  obtain ⟨r, hr, rfl⟩ := List.mem_map.mp hy
  exact keyN_inj (RelX.plain q p hp) (RelX.plain q r hr) e
theorem xsT_at {K : PySem.W.Frag} {k : D} (hk : k.plain = true) : ∀ {kvs : List (D × D)} {xs : List (Int × Addr)}, RelX K M H kvs xs → (atKey (xsT kvs xs) (keyN k)).isSome = (dget kvs k).isSome
  | [], _, h => by have e : _ = [] := h; subst e; rfl
  | p :: r, _, h => by
    have hpl := RelX.plain h p List.mem_cons_self
    obtain ⟨h1, b1, q1, rfl, e1, e2, e3, e4, q⟩ := h
    have ih := xsT_at hk q
    unfold atKey dget at *
    have ex : xsT (p :: r) ((h1, b1) :: q1) = (keyN p.1, b1, Value.bool true) :: xsT r q1 := rfl
    rw [ex]
    rw [List.find?_cons, List.find?_cons]
    by_cases c : p.1 = k
    · rw [decide_eq_true (show (keyN p.1, b1, Value.bool true).1 = keyN k by rw [← c]), decide_eq_true c]
      rfl
    · rw [decide_eq_false (show ¬ (keyN p.1, b1, Value.bool true).1 = keyN k from fun e => c (keyN_inj hpl hk e)), decide_eq_false c]
      exact ih
end
section
variable {X : Cx} {o i e value : Expr} {pos pos' tpos : Pos} {td ty tv : TE}
/-- k not in d -/
def tTNot (K : PySem.W.Frag) (ty td : TE) : TE := fun σ H Q => ty σ H fun y H1 => td σ H1 fun x H2 => ∃ a b M kvs xs k, x = .ref a ∧ y = .ref b ∧ H2 a = some (DitO a xs) ∧ RelX K M H2 kvs xs ∧ (kvs.map (·.1)).Nodup ∧ keyT k = true ∧ RelD K M H2 k (.ref b) ∧ Q (.bl (!(dget kvs k).isSome)) H2
theorem pc_tnot (hu : X.A.units + 64 < cLine) (hi : PE X i ty) (ho : PE X o td) : PC X .NotIn i o (tTNot X.K ty td) := by
  refine ⟨fun pins s σ H Q I h => ?_⟩
  refine thn (hi.run pins s σ H _ I h) fun iv s1 ⟨y, H1, I1, ry, q1⟩ => thn (ho.run pins s1 σ H1 _ I1 q1) fun u s2 ⟨x, H2, I2, rx, a, b, M, kvs, xs, k, ex, ey, ha, hq, nd, hk, hr, q2⟩ => ?_
  subst ex ey
  obtain rfl : u = Value.ref a := rx
  obtain rfl : iv = Value.ref b := ry
  obtain ⟨hs, hm, hz⟩ := dit_heap I2 ha hq nd
  obtain ⟨_, _, hp, _⟩ := keyT_tup hk
  refine wpAny_notIn_heap (show _ + 8 < cLine by simp only [Around.in1_units]; omega) (key_is I2 hk hr) hs hm ?_
  rw [xsT_at hp hq]
  exact ⟨.bl _, H2, I2.tok _, rfl, q2⟩
/-- d[k] = True -/
def sTPut (K : PySem.W.Frag) (td ty tv : TE) : TS := fun D σ H => tv σ H fun v H1 => td σ H1 fun x H2 => ty σ H2 fun y H3 => ∃ a b M kvs xs k h, x = .ref a ∧ y = .ref b ∧ v = .bl true ∧ H3 a = some (DitO a xs) ∧ RelX K M H3 kvs xs ∧ (kvs.map (·.1)).Nodup ∧ keyT k = true ∧ RelD K M H3 k (.ref b) ∧ (∀ w : World, (keyN k).hash w = h) ∧ dget kvs k = none ∧ xs.length < sizeLine ∧
  D.nx σ (upd H3 a (DitO a (xs ++ [(h, b)])))
theorem ps_tput (hu : X.A.units + 64 < cLine) (ho : PE X o td) (hi : PE X i ty) (hv : PE X value tv) (hs : swapsWith value (some (.Subscript o i pos')) pos.line X.env = pure false) :
    PS X (.Assign [.Subscript o i pos'] value pos) (sTPut X.K td ty tv) := by
  refine ⟨fun pins s σ H D I h => ?_⟩
  refine wpAny_Assign_Subscript (thn (hv.run pins s σ H _ I h) fun r s1 ⟨v, H1, I1, rv, q1⟩ => thn (ho.run pins s1 σ H1 _ I1 q1) fun u s2 ⟨x, H2, I2, rx, q2⟩ => thn (hi.run pins s2 σ H2 _ I2 q2) fun iv s3 ⟨y, H3, I3, ry, a, b, M, kvs, xs, k, hh, ex, ey, ev, ha, hq, nd, hk, hr, hw, hn, hl, q3⟩ => ?_) hs
  subst ex ey ev
  obtain rfl : u = Value.ref a := rx
  obtain rfl : iv = Value.ref b := ry
  obtain rfl : r = Value.bool true := rv
  obtain ⟨hsy, hm, hz⟩ := dit_heap I3 ha hq nd
  obtain ⟨_, _, hp, _⟩ := keyT_tup hk
  have hlen : (xsT kvs xs).length = xs.length := by
    have := congrArg List.length (xsT_map (P := X.prog) (w := X.w) hq)
    simpa using this
  have hat : atKey (xsT kvs xs) (keyN k) = none := by
    have := xsT_at hp hq
    rw [hn] at this
    cases hx : atKey (xsT kvs xs) (keyN k) with
    | none => rfl
    | some _ => rw [hx] at this; cases this
  refine wpAny_setItem_heap (hsz := by rw [hlen]; exact hz) (show _ + 8 < cLine by simp only [Around.in1_units]; omega) (key_is I3 hk hr) hm fun h' hm' hsb => ?_
  rw [storedH_new hat] at hm'
  obtain ⟨o', es', ep', ho', hx', hd', he', _, _⟩ := hm'
  have new : DitP a (xs ++ [(hh, b)]) h' := by
    refine ⟨o', es', ep', ho', hx', hd', ?_, hsy, by rw [List.length_append]; simp; omega⟩
    rw [he', List.map_append, List.map_append, xsT_map hq]
    congr 1
    show [(⟨(keyN k).hash X.w, _, _⟩ : DictEntry)] = _
    rw [hw]
    rfl
  exact ⟨σ, _, I3.write (x := a) (e := a) (t' := s3.toks + (nestedKind X.prog X.w).draws (keyN k)) (by rw [ha]; exact True.intro) (.inl rfl) (fun b q hb z => (hsb.2 b hb).trans z) ⟨o', ho'⟩ (ditO_new new), q3⟩
/-- {k: True} -/
def tTOne (K : PySem.W.Frag) (tk tv : TE) : TE := fun σ H Q => ∀ p, H p = none → tk σ (upd H p (DitO p [])) fun x H1 => tv σ H1 fun y H2 => H2 p = some (DitO p []) ∧ ∃ M k b h, x = .ref b ∧ y = .bl true ∧ keyT k = true ∧ RelD K M H2 k (.ref b) ∧ (∀ w : World, (keyN k).hash w = h) ∧ Q (.ref p) (upd H2 p (DitO p [(h, b)]))
theorem dit_empty (h : Heap) (hb : sysModules < h.objs.size) : DitP h.objs.size [] (h.push { cls := .type "dict", data := .dict #[] }) :=
  ⟨_, #[], 0, Heap.get?_push_size _ rfl, ⟨rfl, rfl, rfl⟩, rfl, rfl, beq_eq_false_iff_ne.mpr (Ne.symm (Nat.ne_of_lt hb)), Nat.zero_le _⟩
theorem pe_tone {k v : Expr} (hu : X.A.units + 64 < cLine) (hk : PE X k ty) (hv : PE X v tv) : PE X (.Dict [some k] [v] pos) (tTOne X.K ty tv) := by
  refine ⟨fun pins s σ H Q I q => ?_⟩
  have hn := I.hok.fresh (Nat.le_refl s.heap.objs.size)
  have I1 := I.laid (a := s.heap.objs.size) (o := DitO s.heap.objs.size []) (h' := s.heap.push { cls := .type "dict", data := .dict #[] }) (t' := s.toks) (fun _ _ q => Heap.get?_push_of_some _ q) (Nat.le_refl _) (ditO_new (dit_empty s.heap I.big))
  have hshape := zip_pairTrees [some k] [v] X.env pos rfl rfl
  have hlen := pairTrees_length [some k] [v] X.env pos rfl rfl
  rw [arm_eval_Dict, hshape, dictDisplay_pairs (pairTrees [some k] [v] X.env pos) (by intro he; rw [he] at hlen; cases hlen) (by rw [hlen]; show 1 < 17; decide)]
  refine wpAny_bind (wpAny_standAt (wpAny_bind (wpAny_subDictH (knd := nestedKind X.prog X.w) (show _ + 8 < cLine by omega) (by rw [hlen]; show 1 ≤ 15; decide) ?_)))
  refine pairTrees_cons_walk (thn (hk.run pins _ σ _ _ I1 (q _ hn)) fun u s1 ⟨x, H1, I1', rx, q1⟩ => thn (hv.run pins s1 σ H1 _ I1' q1) fun w2 s2 ⟨y, H2, I2, ry, hp, M, kd, b, hh, ex, ey, hkt, hr, hw, q2⟩ => pairTrees_nil_walk ?_)
  subst ex ey
  obtain rfl : u = Value.ref b := rx
  obtain rfl : w2 = Value.bool true := ry
  obtain ⟨hsy, hm, hz⟩ := dit_heap (M := M) (kvs := []) I2 hp rfl List.nodup_nil
  refine ⟨[(keyN kd, b, .bool true)], ⟨rfl, rfl, key_is I2 hkt hr, trivial⟩, hm, fun h' tk hm' hsb => wpAny_pure ?_⟩
  have hm' : h'.DictOfH (nestedKind X.prog X.w) s.heap.objs.size [(keyN kd, b, .bool true)] := hm'
  obtain ⟨o', es', ep', ho', hx', hd', he', _, _⟩ := hm'
  have new : DitP s.heap.objs.size [(hh, b)] h' := by
    refine ⟨o', es', ep', ho', hx', hd', ?_, hsy, by show 1 ≤ sizeLine; decide⟩
    rw [he']
    show [(⟨(keyN kd).hash X.w, _, _⟩ : DictEntry)] = _
    rw [hw]
    rfl
  exact ⟨.ref s.heap.objs.size, _, I2.write (x := s.heap.objs.size) (e := s.heap.objs.size) (t' := tk) (by rw [hp]; exact True.intro) (.inl rfl) (fun b q hb z => (hsb.2 b hb).trans z) ⟨o', ho'⟩ (ditO_new new), rfl, q2⟩
end
end PF
namespace PF
open PySem PySem.Spec PyProof.Rows L2
section
variable {nm : Nm} {X : Cx} {M M' : List Addr} {H H' : Hp} {S S' S1 : Sto} {ρ : Env} {σ : L2.St} {Q : VK} {d : D}
theorem dit_of {n : Nat} {kvs : List (D × D)} (h : ditOf n S = some kvs) : S[n]? = some (.dit kvs) := by unfold ditOf at h; split at h <;> cases h; assumption
theorem dit_rel (rs : RelS nm X.K X.mg M S H) {n : Nat} {a : Addr} {kvs : List (D × D)} (hn : M[n]? = some a) (h : ditOf n S = some kvs) : ∃ xs, H a = some (DitO a xs) ∧ RelX X.K M H kvs xs ∧ (kvs.map (·.1)).Nodup := rs.obj n a _ hn (dit_of h)
theorem key_addr {x : D} {v : V} (hk : keyT x = true) (q : RelD X.K M H x v) : ∃ b, v = .ref b := by
  obtain ⟨ds, rfl, _⟩ := keyT_tup hk
  obtain ⟨a, vs, rfl, _⟩ := q.tup
  exact ⟨a, rfl⟩
theorem key_hash {x : D} (hk : keyT x = true) : ∃ h : Int, ∀ w : World, (keyN x).hash w = h := by
  obtain ⟨ds, rfl, _, _, hd⟩ := keyT_tup hk
  by_cases hw : Nonempty World
  · exact ⟨(keyN (.tup ds)).hash (Classical.choice hw), fun w => hash_dry _ w (Classical.choice hw) hd⟩
  · exact ⟨0, fun w => absurd ⟨w⟩ hw⟩
theorem pxt_tnot {i o : Expr} {f g : E} {pos : Pos} (hu : X.A.units + 64 < cLine) (hi : PX nm X i f) (ho : PX nm X o g) (hm : behindInMarks .NotIn o = false) : PXT nm X (.Compare i [.NotIn] [o] pos) (tE (e2 gNotInT f g)) :=
  pxt_b (pt_cmp (pc_tnot hu hi ho) hm) fun σ H Q ⟨M, ρ, S, d, S', rs, re, h, k⟩ => by
    unfold e2 at h
    obtain ⟨x, S1, h1, h⟩ := bind_inv h
    obtain ⟨y, S2, h2, h⟩ := bind_inv h
    refine rE.go rs re h1 fun M1 H1 vx e1 r1 q1 => ?_
    refine rE.go r1 (re.ext rs e1) h2 fun M2 H2 vy e2 r2 q2 => ?_
    have q1 := RelD.ext r1 e2 q1
    unfold gNotInT at h
    cases y with
    | ref n =>
      dsimp only at h
      split at h
      · rename_i kvs ek
        split at h
        · rename_i c
          cases h
          obtain ⟨a, rfl, ha⟩ := q2.ref
          obtain ⟨xs, ka, qa, nd⟩ := dit_rel r2 ha ek
          obtain ⟨b, rfl⟩ := key_addr c q1
          exact ⟨a, b, M2, kvs, xs, x, rfl, rfl, ka, qa, nd, c, q1, (k.ext (e1.trans e2)).here r2 .mkB⟩
        · cases h
      · cases h
    | _ => cases h
theorem pxs_tput {o i v : Expr} {fo fi fv : E} {pos pos' : Pos} (hu : X.A.units + 64 < cLine) (ho : PX nm X o fo) (hi : PX nm X i fi) (hv : PX nm X v fv) (hs : swapsWith v (some (.Subscript o i pos')) pos.line X.env = pure false) :
    PXS nm X (.Assign [.Subscript o i pos'] v pos) (sDit fo fi fv) :=
  PS.imp (ps_tput hu ho hi hv hs) fun σ H D ⟨M, ρ, S, r, S', rs, re, h, k⟩ => by
    unfold sDit at h
    obtain ⟨x, S1, h1, h⟩ := bind_inv h
    obtain ⟨a, S2, h2, h⟩ := bind_inv h
    obtain ⟨y, S3, h3, h⟩ := bind_inv h
    refine rE.go rs re h1 fun M1 H1 vx e1 r1 q1 => ?_
    refine rE.go r1 (re.ext rs e1) h2 fun M2 H2 va e2 r2 q2 => ?_
    refine rE.go r2 ((re.ext rs e1).ext r1 e2) h3 fun M3 H3 vy e3 r3 q3 => ?_
    have q1 := RelD.ext r2 e3 (RelD.ext r1 e2 q1)
    have q2 := RelD.ext r2 e3 q2
    have re3 := ((re.ext rs e1).ext r1 e2).ext r2 e3
    have kk := k.ext ((e1.trans e2).trans e3)
    split at h
    · rename_i S4 e4
      cases h
      unfold setDit at e4
      cases a with
      | ref n =>
        dsimp only at e4
        split at e4
        · rename_i kvs ek
          split at e4
          · rename_i c
            cases e4
            obtain ⟨c1, c2, c3, c4⟩ := c
            subst c2
            obtain ⟨p, rfl, hp⟩ := q2.ref
            obtain ⟨xs, ka, qa, nd⟩ := dit_rel r3 hp ek
            obtain ⟨b, rfl⟩ := key_addr c1 q3
            obtain ⟨hh, hw⟩ := key_hash c1
            refine ⟨p, b, M3, kvs, xs, y, hh, rfl, rfl, q1.bl, ka, qa, nd, c1, q3, hw, c4, by rw [← qa.len, ← LIM_eq]; exact c3, ?_⟩
            have ex : Ext M3 H3 M3 (upd H3 p (DitO p (xs ++ [(hh, b)]))) := Ext.set (List.mem_of_getElem? hp) ka (fun _ _ z => nomatch z)
            have nd2 : ((kvs ++ [(y, PF.D.bl true)]).map (·.1)).Nodup := by
              rw [List.map_append]
              refine List.nodup_append.mpr ⟨nd, by simp, fun z hz w hw2 e => ?_⟩
              have e2 : w = y := by simpa using hw2
              rw [e, e2] at hz
              obtain ⟨q, hq, eq⟩ := List.mem_map.mp hz
              unfold dget at c4
              rw [Option.map_eq_none_iff, List.find?_eq_none] at c4
              exact c4 q hq (by simp [eq])
            have qa2 : RelX X.K M3 (upd H3 p (DitO p (xs ++ [(hh, b)]))) kvs xs := RelX.mo (ex.mo r3) qa
            exact kk _ _ _ ex (r3.set hp ka (fun _ _ z => nomatch z) ⟨_, upd_same, qa2.snoc c1 (RelD.ext r3 ex q3) hw, nd2⟩) (re3.ext r3 ex)
          · cases e4
        · cases e4
      | _ => cases e4
    · cases h
theorem px_tone {k v : Expr} {fk fv : E} {pos : Pos} (hu : X.A.units + 64 < cLine) (hk : PX nm X k fk) (hv : PX nm X v fv) : PX nm X (.Dict [some k] [v] pos) (eDit1 fk fv) :=
  PE.imp (pe_tone hu hk hv) fun σ H Q ⟨M, ρ, S, d, S', rs, re, h, k⟩ => by
    unfold eDit1 at h
    obtain ⟨x, S1, h1, h⟩ := bind_inv h
    obtain ⟨y, S2, h2, h⟩ := bind_inv h
    split at h
    · rename_i c
      obtain ⟨c1, c2⟩ := c
      subst c2
      cases h
      intro p hp0
      have e0 : Ext M H M (upd H p (DitO p [])) := Ext.tup hp0
      have r0 : RelS nm X.K X.mg M S (upd H p (DitO p [])) := rs.tup hp0
      have np : p ∉ M := rs.fresh hp0
      refine rE.go r0 (re.ext rs e0) h1 fun M1 H1 vx e1 r1 q1 => ?_
      refine rE.go r1 ((re.ext rs e0).ext r0 e1) h2 fun M2 H2 vy e2 r2 q2 => ?_
      obtain ⟨hp2, np2⟩ := (e1.trans e2).kept np
      have q1 := RelD.ext r1 e2 q1
      obtain ⟨b, rfl⟩ := key_addr c1 q1
      obtain ⟨hh, hw⟩ := key_hash c1
      refine ⟨hp2, M2, x, b, hh, rfl, q2.bl, c1, q1, hw, ?_⟩
      have mo := Mo.adopt (K := X.K) (M := M2) (o := DitO p [(hh, b)]) hp2 (fun _ z => nomatch z) (fun _ _ z => nomatch z)
      refine k _ _ _ (Ext.adopt hp0 (e1.trans e2) np) (r2.adopt np2 hp2 (fun _ z => nomatch z) (fun _ _ z => nomatch z) ⟨[(hh, b)], upd_same, ⟨hh, b, [], rfl, rfl, c1, RelD.mo mo q1, hw, rfl⟩, by simp⟩) ?_
      unfold RelD
      exact ⟨p, rfl, r2.last⟩
    · cases h
end
end PF
end
section
set_option linter.all false
set_option Elab.async false
set_option linter.all false
set_option maxRecDepth 100003
set_option maxHeartbeats 2000003
set_option autoImplicit false
namespace PF
open PySem L2
/-- no list stands in what the top has left -/
def noList (K : PySem.W.Frag) : Bool := K.all fun p => match p.2.cls with
  | .type c => !decide (c = "list")
  | _ => true
theorem noList_ok {K : PySem.W.Frag} (h : noList K = true) {a : Addr} {o : Obj} (l : K.lookup a = some o) : o.cls ≠ .type "list" := by
  unfold noList at h
  have m : ∃ b, (b, o) ∈ K := by
    induction K with
    | nil => cases l
    | cons p r ih =>
      obtain ⟨b, u⟩ := p
      rw [List.all_cons, Bool.and_eq_true] at h
      unfold List.lookup at l
      split at l
      · cases l; exact ⟨b, List.mem_cons_self⟩
      · obtain ⟨c, hc⟩ := ih h.2 l
        exact ⟨c, List.mem_cons_of_mem _ hc⟩
  obtain ⟨b, hb⟩ := m
  have z := List.all_eq_true.mp h _ hb
  intro e
  simp [e] at z
theorem rel_script {K : PySem.W.Frag} {M : List Addr} {H : Hp} : ∀ is : List Int, RelDs K M H (is.map D.int) (is.map V.int)
  | [] => .nil
  | i :: is => .cons .mkI (rel_script is)
theorem law_sp {nm : Nm} {K : PySem.W.Frag} {mg : Str → Option Value} {f : Fn} {H : Hp} {a : Addr} {ns : List Int} {E : XK} (hK : noList K = true) (hO : Only H) (hS : SqL K H a (ns.map V.int)) (h : ∃ S', f [.ref 0] [.rol (ns.map D.int)] = .ok (.bl true) S') :
    spF nm K mg 1 f [.ref a] H (fun v _ => v = .bl true) E := by
  obtain ⟨S', h⟩ := h
  have hf : ∃ o, H a = some (.frz o (.lst (ns.map V.int))) := by
    rcases hS with (h | h) | ⟨o, its, n, h1, h2, _⟩
    · rcases hO a with e | ⟨o, xs, e⟩
      · rw [h] at e; cases e
      · rw [h] at e; cases e
    · exact h
    · exact absurd h2 (noList_ok hK h1)
  obtain ⟨o, hf⟩ := hf
  refine ⟨[a], [.rol (ns.map D.int)], [.ref 0], .bl true, S', ⟨rfl, by simp, fun n b ob h1 h2 => ?_⟩, ?_, rfl, h, fun M' H' v e r q => q.bl⟩
  · cases n with
    | zero => cases h1; cases h2; exact ⟨o, _, hf, rel_script ns⟩
    | succ n => cases h1
  · refine .cons ?_ .nil
    unfold RelD
    exact ⟨a, rfl, rfl⟩
theorem walk_pf {l : PySem.W.OpenLaw} {n k : Nat} {q : Program} {loose : List Str} {XP : (Str → Option Value) → Heap → Prop} {YP : World → Heap → Prop} {d : DefRec} {K : Params → PySem.W.Frag} {nm : Nm} {f : Fn} {x : Str}
    (hn : l.most = some n) (hn2 : n ≤ sizeLine) (hdf : d.params.defaults = []) (hr : Room k callerA)
    (hY : ∀ (w : World) (h : Heap), YP w h → (K w.params).In h) (hK : ∀ w : World, noList (K w.params) = true)
    (F : ∀ (w : World) (mg : Str → Option Value) (fa : Addr) (h : Heap), (K w.params).In h → h.Ns mainGlobals mg → mg d.name = some (.ref fa) →
      ∃ fd : FuncData, (∀ (s : Shared) (u : Value), BindsTo s fd ⟨[u], []⟩ [(x, u)]) ∧
        ∀ base : Heap, (K w.params).In base → base.Ns mainGlobals mg → FnOk l.prog w (K w.params) mg base CX0 k fa fd [x] (spF nm (K w.params) mg 1 f))
    (law : ∀ ns : List Int, ns.length ≤ n → ∃ S', f [.ref 0] [.rol (ns.map D.int)] = .ok (.bl true) S') :
    PySem.W.WalkO q loose XP YP l.row.toRowW d [] (fun f vs => PySem.call f vs) :=
  L2.walk_ofE hn hn2 hdf hr (fun w mg fa h Y G hmg => by
    obtain ⟨fd, hb, F⟩ := F w mg fa h (hY w h Y) G hmg
    exact ⟨K w.params, fd, _, hY w h Y, hb, fun H a ns hl hO hS => law_sp (hK w) hO hS (law ns hl), F⟩) (fun _ _ _ _ z => z)
theorem fn_bad {nm : Nm} {P : Program} {w : World} {K : PySem.W.Frag} {mg : Str → Option Value} {base : Heap} {k : Nat} {f : Addr} {fd : FuncData} {ps : List Str} : FnOk P w K mg base CX0 k f fd ps (spF nm K mg ps.length fun _ _ => .bad) :=
  ⟨fun vs H Q E h => len_arg h, fun A outer s H args us vs Q E hr he hb hv hs => by obtain ⟨_, _, _, _, _, _, _, _, h, _⟩ := hs; cases h⟩
theorem at_mk {K : PySem.W.Frag} {h : Heap} {mg : Str → Option Value} {x qual : Str} {st : Stmt} {f : Addr} {ps : List Str} {oc : Value} {od an : Option Addr} {osl : Array (Option Value)} {kV doc pm cdv ct : Value} (X : K.In h) (G : h.Ns mainGlobals mg)
    (a : PySem.W.nsIn K mainGlobals x = some (some (.ref f))) (l : K.lookup f = some ⟨oc, od, .func (PySem.W.fnOf x qual (defArgs st) (defBody st) (defScope st) .none kV doc pm an cdv ct), osl⟩)
    (c : PySem.W.codeIn K cdv qual = true) (k : PySem.W.keepIn K (.ref f) = true)
    (hb : ∀ (kV doc pm : Value) (an : Option Addr) (cdv ct : Value) (us : List Value), us.length = ps.length → bindArgs (PySem.W.fnOf x qual (defArgs st) (defBody st) (defScope st) .none kV doc pm an cdv ct) ⟨us, []⟩ = pure (ps.zip us)) :
    ∃ fd, Fun K x qual st f fd ∧ mg x = some (.ref f) ∧ PySem.W.keepIn K (.ref f) = true ∧ Binds K fd ps [] :=
  ⟨_, fun_mk l c k, PySem.W.mg_of X G a, k, (fun_mk l c k).binds hb⟩
theorem atM_mk {K : PySem.W.Frag} {x qual : Str} {st : Stmt} {f C : Addr} {ps : List Str} {oc : Value} {od an : Option Addr} {osl : Array (Option Value)} {kV doc pm cdv ct : Value}
    (a : PySem.W.findIn K (.ref C) x = some (some (.ref f))) (i : PySem.W.isFn K (.ref f) = true) (l : K.lookup f = some ⟨oc, od, .func (PySem.W.fnOf x qual (defArgs st) (defBody st) (defScope st) .none kV doc pm an cdv ct), osl⟩)
    (c : PySem.W.codeIn K cdv qual = true) (k : PySem.W.keepIn K (.ref f) = true)
    (hb : ∀ (kV doc pm : Value) (an : Option Addr) (cdv ct : Value) (us : List Value), us.length = ps.length → bindArgs (PySem.W.fnOf x qual (defArgs st) (defBody st) (defScope st) .none kV doc pm an cdv ct) ⟨us, []⟩ = pure (ps.zip us)) :
    ∃ fd, Fun K x qual st f fd ∧ Meth K C x f ∧ Binds K fd ps [] :=
  ⟨_, fun_mk l c k, ⟨a, i, k⟩, (fun_mk l c k).binds hb⟩
theorem glI_mk {K : PySem.W.Frag} {h : Heap} {mg : Str → Option Value} {x : Str} {i : Int} {t : Tok} (X : K.In h) (G : h.Ns mainGlobals mg) (a : PySem.W.nsIn K mainGlobals x = some (some (.int i t))) : GlI mg x i := ⟨t, PySem.W.mg_of X G a⟩
theorem glS_mk {K : PySem.W.Frag} {h : Heap} {mg : Str → Option Value} {x y : Str} {s : List Nat} {t : Tok} (X : K.In h) (G : h.Ns mainGlobals mg) (e : strOf s = y) (a : PySem.W.nsIn K mainGlobals x = some (some (.str y t))) : GlS mg x s := ⟨t, by rw [e]; exact PySem.W.mg_of X G a⟩
def strsR : List (List Nat) → List Value → Prop
  | [], vs => vs = []
  | s :: r, vs => ∃ t q, vs = .str (strOf s) t :: q ∧ strsR r q
theorem strs_vals {ss : List (List Nat)} : ∀ {vs : List Value}, strsR ss vs → Vals (ss.map fun s => V.str (strOf s)) vs := by
  induction ss with
  | nil => intro vs h; have e : vs = [] := h; subst e; exact .nil
  | cons s r ih =>
    intro vs h
    obtain ⟨t, q, rfl, h⟩ := h
    exact .cons ⟨t, rfl⟩ (ih h)
theorem glT_mk {K : PySem.W.Frag} {h : Heap} {mg : Str → Option Value} {x : Str} {ss : List (List Nat)} {b : Addr} {its : Array Value} {od : Option Addr} {n : Nat} {sl : Array (Option Value)} (X : K.In h) (G : h.Ns mainGlobals mg) (a : PySem.W.nsIn K mainGlobals x = some (some (.ref b)))
    (l : K.lookup b = some ⟨.type "tuple", od, .seq its n, sl⟩) (hz : its.size ≤ 1000) (hs : strsR ss its.toList) : GlT K mg x (ss.map D.str) := by
  refine ⟨b, ss.map fun s => V.str (strOf s), PySem.W.mg_of X G a, fun H => .inr ⟨_, its, n, l, rfl, rfl, by rw [sizeLine_eq]; omega, strs_vals hs⟩, fun M H => ?_⟩
  induction ss generalizing its with
  | nil => exact .nil
  | cons s r ih => exact .cons .mkS (rel_strs r)
where rel_strs {K : PySem.W.Frag} {M : List Addr} {H : Hp} : ∀ ss : List (List Nat), RelDs K M H (ss.map D.str) (ss.map fun s => V.str (strOf s))
  | [] => .nil
  | s :: r => .cons .mkS (rel_strs r)
theorem glD_mk {K : PySem.W.Frag} {w : World} {h : Heap} {mg : Str → Option Value} {x : Str} {t : List (D × D)} {b : Addr} {es : Array DictEntry} {n : Nat} (X : K.In h) (G : h.Ns mainGlobals mg) (a : PySem.W.nsIn K mainGlobals x = some (some (.ref b)))
    (l : K.lookup b = some ⟨.type "dict", none, .dict es n, #[]⟩) (lo : (b == sysModules) = false) (hk : PySem.W.KeysLit w.params es.toList) (ht : TabEs t es.toList) : GlD K w mg x t := ⟨b, PySem.W.mg_of X G a, es, n, ⟨l, hk, lo⟩, ht⟩
end PF
end
section
set_option linter.all false
set_option autoImplicit false
set_option maxRecDepth 100003
namespace PG
open PF
abbrev z_put : List Nat := [112, 117, 116]
abbrev z_copy : List Nat := [99, 111, 112, 121]
abbrev z_less : List Nat := [108, 101, 115, 115]
abbrev z_take : List Nat := [116, 97, 107, 101]
abbrev z_add : List Nat := [97, 100, 100]
abbrev z_call : List Nat := [99, 97, 108, 108]
abbrev z_say : List Nat := [115, 97, 121]
abbrev z_if : List Nat := [105, 102]
abbrev z_end : List Nat := [101, 110, 100]
abbrev z_go : List Nat := [103, 111]
abbrev z_long : List Nat := [108, 111, 110, 103]
abbrev z_d : List Nat := [100]
abbrev z_a : List Nat := [97]
abbrev z_n : List Nat := [110]
abbrev z_r : List Nat := [114]
abbrev z_dn : List Nat := [100, 110]
abbrev z_da : List Nat := [100, 97]
abbrev z_daa : List Nat := [100, 97, 97]
abbrev z_ar : List Nat := [97, 114]
abbrev z_empty : List Nat := []
abbrev z_box : List Nat := [98, 111, 120]
abbrev z_slot : List Nat := [115, 108, 111, 116]
abbrev z_load : List Nat := [108, 111, 97, 100]
abbrev z_store : List Nat := [115, 116, 111, 114, 101]
abbrev z_swap : List Nat := [115, 119, 97, 112]
abbrev z_b : List Nat := [98]
abbrev z_s : List Nat := [115]
abbrev z_bb : List Nat := [98, 98]
abbrev z_sb : List Nat := [115, 98]
abbrev z_bs : List Nat := [98, 115]
def t_MOVES : List (D × D) := [(.str z_copy, .str z_bb), (.str z_swap, .str z_bb), (.str z_store, .str z_sb), (.str z_load, .str z_bs)]
def t_SHAPES : List (D × D) := [(.str z_put, .str z_dn), (.str z_copy, .str z_da), (.str z_add, .str z_daa), (.str z_take, .str z_daa), (.str z_less, .str z_daa), (.str z_call, .str z_da), (.str z_say, .str z_a), (.str z_if, .str z_ar), (.str z_go, .str z_r), (.str z_end, .str z_empty)]
def b__law_begun : St := sSeq (sSet 1 (eC (.int 0)))
  (sSeq (sFor (iSeq (eVar 0)) (PF.gName 2) (sSet 1 (e2 gMod (e2 gAdd (e2 gAdd (e2 gMul (eVar 1) (eC (.int 48271))) (e2 gMul (e2 gMod (eVar 2) (eC (.int 2147483647))) (eC (.int 69621)))) (eC (.int 11))) (eC (.int 2147483647)))))
  (sRet (eLst (aCons (eCall fList (aCons (eVar 0) (aNil))) (aCons (e2 gMul (eVar 1) (eCall fInt (aCons (e2 gGt (eCall fLen (aCons (eVar 0) (aNil))) (eC (.int 2))) (aNil)))) (aNil))))))
def f__law_begun : Fn := fn 3 b__law_begun
def b__law_take : St := sSeq (sIf (tE (e2 gEq (e2 gIx (eVar 0) (eC (.int 0))) (eLst (aNil)))) (sSeq (sSub (eVar 0) (eC (.int 1)) (e2 gMod (e2 gMul (e2 gIx (eVar 0) (eC (.int 1))) (eC (.int 48271))) (eC (.int 2147483647))))
  (sRet (e2 gMod (e2 gFdiv (e2 gIx (eVar 0) (eC (.int 1))) (eC (.int 7))) (eVar 1)))) (sNext))
  (sSeq (sSet 2 (e2 gIx (e2 gIx (eVar 0) (eC (.int 0))) (eC (.int 0))))
  (sSeq (sSub (e2 gIx (eVar 0) (eC (.int 0))) (eC (.int 0)) (e2 gFdiv (eVar 2) (eVar 1)))
  (sSeq (sIf (PF.tOr (tE (e2 gEq (e2 gIx (e2 gIx (eVar 0) (eC (.int 0))) (eC (.int 0))) (eC (.int 0)))) (tE (e2 gEq (e2 gIx (e2 gIx (eVar 0) (eC (.int 0))) (eC (.int 0))) (e1 gNeg (eC (.int 1)))))) (sExpr (eM1 mPop (e2 gIx (eVar 0) (eC (.int 0))) (eC (.int 0)))) (sNext))
  (sRet (e2 gMod (eVar 2) (eVar 1))))))
def f__law_take : Fn := fn 3 b__law_take
def b__law_row : St := sSeq (sSet 4 (eCall f__law_take (aCons (eVar 0) (aCons (eC (.int 15)) (aNil)))))
  (sSeq (sPar [5, 6, 7] (aCons (eCall f__law_take (aCons (eVar 0) (aCons (eVar 1) (aNil)))) (aCons (eCall f__law_take (aCons (eVar 0) (aCons (eVar 1) (aNil)))) (aCons (eCall f__law_take (aCons (eVar 0) (aCons (eVar 1) (aNil)))) (aNil)))))
  (sSeq (sIf (tE (e2 gLt (eVar 4) (eC (.int 2)))) (sRet (eTup (aCons (eC (.str z_put)) (aCons (eVar 5) (aCons (e2 gIx (eLst (aCons (eCall f__law_take (aCons (eVar 0) (aCons (eC (.int 1000)) (aNil)))) (aCons (eCall f__law_take (aCons (eVar 0) (aCons (eC (.int 3)) (aNil)))) (aNil)))) (eCall f__law_take (aCons (eVar 0) (aCons (eC (.int 2)) (aNil))))) (aNil)))))) (sNext))
  (sSeq (sIf (tE (e2 gLt (eVar 4) (eC (.int 4)))) (sRet (eTup (aCons (eC (.str z_copy)) (aCons (eVar 5) (aCons (eVar 6) (aNil)))))) (sNext))
  (sSeq (sIf (tE (e2 gLt (eVar 4) (eC (.int 7)))) (sRet (eTup (aCons (e2 gIx (eLst (aCons (eC (.str z_add)) (aCons (eC (.str z_take)) (aCons (eC (.str z_less)) (aNil))))) (e2 gSub (eVar 4) (eC (.int 4)))) (aCons (eVar 5) (aCons (eVar 6) (aCons (eVar 7) (aNil))))))) (sNext))
  (sSeq (sIf (tE (e2 gLt (eVar 4) (eC (.int 9)))) (sRet (eTup (aCons (eC (.str z_call)) (aCons (eVar 5) (aCons (eVar 6) (aNil)))))) (sNext))
  (sSeq (sIf (tE (e2 gLt (eVar 4) (eC (.int 12)))) (sRet (eTup (aCons (eC (.str z_say)) (aCons (eVar 6) (aNil))))) (sNext))
  (sSeq (sSet 8 (eCall f__law_take (aCons (eVar 0) (aCons (eVar 2) (aNil)))))
  (sSeq (sIf (tE (e2 gLt (eVar 4) (eC (.int 14)))) (sRet (eTup (aCons (eC (.str z_if)) (aCons (eVar 6) (aCons (e2 gIx (eLst (aCons (eVar 8) (aCons (eCall fMin (aCons (e2 gSub (eVar 2) (eC (.int 1))) (aCons (e2 gAdd (e2 gAdd (eVar 3) (eC (.int 1))) (e2 gMod (eVar 8) (eC (.int 4)))) (aNil)))) (aNil)))) (eCall f__law_take (aCons (eVar 0) (aCons (eC (.int 2)) (aNil))))) (aNil)))))) (sNext))
  (sRet (e2 gIx (eLst (aCons (eTup (aCons (eC (.str z_go)) (aCons (eCall fMin (aCons (e2 gSub (eVar 2) (eC (.int 1))) (aCons (e2 gAdd (e2 gAdd (eVar 3) (eC (.int 1))) (e2 gMod (eVar 8) (eC (.int 3)))) (aNil)))) (aNil)))) (aCons (eTup (aCons (eC (.str z_go)) (aCons (eVar 8) (aNil)))) (aCons (eTup (aCons (eC (.str z_end)) (aNil))) (aNil))))) (eCall f__law_take (aCons (eVar 0) (aCons (eC (.int 3)) (aNil))))))))))))))
def f__law_row : Fn := fn 9 b__law_row
def b_is_number : St := sRet (eAnd (e1 (gIs .int) (eVar 0)) (eAnd (eNot (e1 (gIs .bool) (eVar 0))) (eChain gLe gLe (eVar 1) (eVar 0) (eVar 2))))
def f_is_number : Fn := fn 3 b_is_number
def b_is_row : St := sSeq (sIf (PF.tOr (PF.tNot (tE (e1 (gIs .tup) (eVar 0)))) (PF.tOr (tE (e2 gEq (eCall fLen (aCons (eVar 0) (aNil))) (eC (.int 0)))) (PF.tNot (tE (e1 (gIs .str) (e2 gIx (eVar 0) (eC (.int 0)))))))) (sRet (eC (.bl false))) (sNext))
  (sSeq (sSet 3 (e2 (kGet t_SHAPES) (e2 gIx (eVar 0) (eC (.int 0))) (eC .non)))
  (sSeq (sIf (PF.tOr (tE (e1 gIsN (eVar 3))) (tE (e2 gNe (eCall fLen (aCons (eVar 0) (aNil))) (e2 gAdd (eCall fLen (aCons (eVar 3) (aNil))) (eC (.int 1)))))) (sRet (eC (.bl false))) (sNext))
  (sSeq (sSet 4 (eDict [(eC (.str z_d), e2 gSub (eVar 1) (eC (.int 1))), (eC (.str z_a), e2 gSub (eVar 1) (eC (.int 1))), (eC (.str z_n), e2 gSub (eC (.int 1000)) (eC (.int 1))), (eC (.str z_r), e2 gSub (eVar 2) (eC (.int 1)))]))
  (sRet (e2 gEq (eComp (iRange1 (eCall fLen (aCons (eVar 3) (aNil)))) [5] (PF.gName 5) (PF.tNot (tE (eCall f_is_number (aCons (e2 gIx (eVar 0) (e2 gAdd (eVar 5) (eC (.int 1)))) (aCons (eC (.int 0)) (aCons (e2 gDx (eVar 4) (e2 gIx (eVar 3) (eVar 5))) (aNil))))))) (eVar 5)) (eLst (aNil)))))))
def f_is_row : Fn := fn 6 b_is_row
def b_need_program : St := sSeq (sIf (PF.tOr (PF.tNot (tE (e1 (gIs .tup) (eVar 0)))) (PF.tOr (tE (e2 gNe (eCall fLen (aCons (eVar 0) (aNil))) (eC (.int 3)))) (PF.tNot (tE (eCall f_is_number (aCons (e2 gIx (eVar 0) (eC (.int 1))) (aCons (eC (.int 1)) (aCons (eC (.int 8)) (aNil))))))))) (sRaise 0 aNil) (sNext))
  (sSeq (sAsg (PF.gTup [1, 2, 3]) (eVar 0))
  (sSeq (sIf (PF.tOr (PF.tNot (tE (eCall f_is_number (aCons (eVar 1) (aCons (eC (.int 0)) (aCons (eVar 2) (aNil))))))) (PF.tOr (PF.tNot (tE (e1 (gIs .tup) (eVar 3)))) (tE (e2 gEq (eCall fLen (aCons (eVar 3) (aNil))) (eC (.int 0)))))) (sRaise 0 aNil) (sNext))
  (sFor (iEnum (eVar 3)) (PF.gTup [4, 5]) (sIf (PF.tOr (tE (e2 gGe (eVar 4) (eC (.int 24)))) (PF.tNot (tE (eCall f_is_row (aCons (eVar 5) (aCons (eVar 2) (aCons (eCall fMin (aCons (eCall fLen (aCons (eVar 3) (aNil))) (aCons (eC (.int 24)) (aNil)))) (aNil)))))))) (sRaise 0 aNil) (sNext)))))
def f_need_program : Fn := fn 6 b_need_program
def b_need_given : St := sSeq (sIf (PF.tOr (PF.tNot (tE (e1 (gIs .tup) (eVar 1)))) (tE (e2 gNe (eCall fLen (aCons (eVar 1) (aNil))) (e2 gIx (eVar 0) (eC (.int 0)))))) (sRaise 0 aNil) (sNext))
  (sIf (tE (e2 gNe (eComp (iSeq (eVar 1)) [2] (PF.gName 2) (PF.tNot (tE (eCall f_is_number (aCons (eVar 2) (aCons (eC (.int 0)) (aCons (e2 gSub (eC (.int 1000)) (eC (.int 1))) (aNil))))))) (eVar 2)) (eLst (aNil)))) (sRaise 0 aNil) (sNext))
def f_need_given : Fn := fn 3 b_need_given
def b_need_fuel : St := sIf (PF.tNot (tE (eCall f_is_number (aCons (eVar 0) (aCons (eC (.int 0)) (aCons (eC (.int 1000)) (aNil))))))) (sRaise 0 aNil) (sNext)
def f_need_fuel : Fn := fn 1 b_need_fuel
def b_Run___init__ : St := sSeq (sFld 0 0 (eVar 0) (eVar 1))
  (sSeq (sFld 0 1 (eVar 0) (eC (.int 0)))
  (sSeq (sFld 0 2 (eVar 0) (eLst (aNil)))
  (sFld 0 3 (eVar 0) (eC (.int 0)))))
def f_Run___init__ : Fn := fn 2 b_Run___init__
def b_Run_is_over : St := sRet (eOr (e2 gGe (e1 (gFld 0 1) (eVar 0)) (eCall fLen (aCons (e1 (gFld 0 0) (eVar 0)) (aNil)))) (e2 gEq (e2 gIx (e2 gIx (e1 (gFld 0 0) (eVar 0)) (e1 (gFld 0 1) (eVar 0))) (eC (.int 0))) (eC (.str z_end))))
def f_Run_is_over : Fn := fn 1 b_Run_is_over
def b_makes : St := sRet (e2 gNotIn (e2 gIx (eVar 0) (eC (.int 0))) (eTup (aCons (eC (.str z_say)) (aCons (eC (.str z_if)) (aCons (eC (.str z_go)) (aCons (eC (.str z_end)) (aNil)))))))
def f_makes : Fn := fn 1 b_makes
def b_called : St := sRet (e2 gMod (e2 gAdd (e2 gAdd (e2 gMul (e2 gMul (eVar 0) (eVar 0)) (eC (.int 7))) (eVar 0)) (eC (.int 3))) (eC (.int 1000)))
def f_called : Fn := fn 1 b_called
def b_reckoned : St := sSeq (sIf (tE (e2 gEq (eVar 0) (eC (.str z_less)))) (sRet (eCall fInt (aCons (e2 gLt (eVar 1) (eVar 2)) (aNil)))) (sNext))
  (sRet (e2 gMod (eIf (tE (e2 gEq (eVar 0) (eC (.str z_add)))) (e2 gAdd (eVar 1) (eVar 2)) (e2 gSub (eVar 1) (eVar 2))) (eC (.int 1000))))
def f_reckoned : Fn := fn 3 b_reckoned
def b_told_by : St := sSeq (sIf (tE (e2 gEq (e2 gIx (eVar 0) (eC (.int 0))) (eC (.str z_put)))) (sRet (e2 gIx (eVar 0) (eC (.int 2)))) (sNext))
  (sSeq (sIf (tE (e2 gEq (e2 gIx (eVar 0) (eC (.int 0))) (eC (.str z_call)))) (sRet (eCall f_called (aCons (e2 gIx (eVar 1) (eC (.int 0))) (aNil)))) (sNext))
  (sRet (eIf (tE (e2 gEq (e2 gIx (eVar 0) (eC (.int 0))) (eC (.str z_copy)))) (e2 gIx (eVar 1) (eC (.int 0))) (eCall f_reckoned (aCons (e2 gIx (eVar 0) (eC (.int 0))) (aCons (e2 gIx (eVar 1) (eC (.int 0))) (aCons (e2 gIx (eVar 1) (eC (.int 1))) (aNil))))))))
def f_told_by : Fn := fn 2 b_told_by
def b_Run_go : St := sSeq (sSet 2 (e2 gIx (e1 (gFld 0 0) (eVar 0)) (e1 (gFld 0 1) (eVar 0))))
  (sSeq (sFld 0 3 (eVar 0) (e2 gAdd (e1 (gFld 0 3) (eVar 0)) (eC (.int 1))))
  (sSeq (sFld 0 1 (eVar 0) (e2 gAdd (e1 (gFld 0 1) (eVar 0)) (eC (.int 1))))
  (sSeq (sIf (tE (e2 gEq (e2 gIx (eVar 2) (eC (.int 0))) (eC (.str z_say)))) (sExpr (eM1 mAppend (e1 (gFld 0 2) (eVar 0)) (e2 gIx (eVar 1) (eC (.int 0))))) (sNext))
  (sSeq (sIf (tE (e2 gEq (e2 gIx (eVar 2) (eC (.int 0))) (eC (.str z_go)))) (sFld 0 1 (eVar 0) (e2 gIx (eVar 2) (eC (.int 1)))) (sNext))
  (sIf (PF.tAnd (tE (e2 gEq (e2 gIx (eVar 2) (eC (.int 0))) (eC (.str z_if)))) (tE (e2 gNe (e2 gIx (eVar 1) (eC (.int 0))) (eC (.int 0))))) (sFld 0 1 (eVar 0) (e2 gIx (eVar 2) (eC (.int 2)))) (sNext))))))
def f_Run_go : Fn := fn 3 b_Run_go
def b_Run_told : St := sRet (eTup (aCons (e1 (gFld 0 2) (eVar 0)) (aCons (eIf (tE (eMeth 0 f_Run_is_over (eVar 0) aNil)) (eC (.tup [.str z_end])) (eC (.tup [.str z_long]))) (aCons (e1 (gFld 0 3) (eVar 0)) (aNil)))))
def f_Run_told : Fn := fn 1 b_Run_told
def b_run : St := sSeq (sExpr (eCall f_need_program (aCons (eVar 0) (aNil))))
  (sSeq (sExpr (eCall f_need_given (aCons (eVar 0) (aCons (eVar 1) (aNil)))))
  (sSeq (sExpr (eCall f_need_fuel (aCons (eVar 2) (aNil))))
  (sSeq (sSet 3 (e2 gAdd (eCall fList (aCons (eVar 1) (aNil))) (e2 gMul (eLst (aCons (eC (.int 0)) (aNil))) (e2 gSub (e2 gIx (eVar 0) (eC (.int 1))) (e2 gIx (eVar 0) (eC (.int 0)))))))
  (sSeq (sSet 4 (eMake 0 f_Run___init__ (aCons (e2 gIx (eVar 0) (eC (.int 2))) (aNil))))
  (sSeq (sWhile (PF.tAnd (PF.tNot (tE (eMeth 0 f_Run_is_over (eVar 4) aNil))) (tE (e2 gLt (e1 (gFld 0 3) (eVar 4)) (eVar 2)))) (sSeq (sSet 5 (e2 gIx (e1 (gFld 0 0) (eVar 4)) (e1 (gFld 0 1) (eVar 4))))
  (sSeq (sIf (tE (eCall f_makes (aCons (eVar 5) (aNil)))) (sSub (eVar 3) (e2 gIx (eVar 5) (eC (.int 1))) (eCall f_told_by (aCons (eVar 5) (aCons (eIf (tE (e2 gNe (e2 gIx (eVar 5) (eC (.int 0))) (eC (.str z_put)))) (eComp (iSeq (eSlice (eVar 5) (oSome (eC (.int 2))) (oNone))) [6] (PF.gName 6) (tYes) (e2 gIx (eVar 3) (eVar 6))) (eLst (aNil))) (aNil))))) (sNext))
  (sExpr (eMeth 0 f_Run_go (eVar 4) (aCons (eIf (tE (e2 gIn (e2 gIx (eVar 5) (eC (.int 0))) (eTup (aCons (eC (.str z_say)) (aCons (eC (.str z_if)) (aNil)))))) (eLst (aCons (e2 gIx (eVar 3) (e2 gIx (eVar 5) (eC (.int 1)))) (aNil))) (eLst (aNil))) (aNil)))))))
  (sRet (eMeth 0 f_Run_told (eVar 4) aNil)))))))
def f_run : Fn := fn 7 b_run
def b__law_alike (F0 : Fn) : St := sSeq (sIf (tE (e1 gIsN (eVar 1))) (sRet (e1 gIsN (eVar 0))) (sNext))
  (sSeq (sIf (tE (e1 (gIs .bool) (eVar 1))) (sRet (eAnd (e1 (gIs .bool) (eVar 0)) (e2 gEq (eVar 0) (eVar 1)))) (sNext))
  (sSeq (sIf (tE (e1 (gIs .int) (eVar 1))) (sRet (eAnd (e1 (gIs .int) (eVar 0)) (eAnd (eNot (e1 (gIs .bool) (eVar 0))) (e2 gEq (eVar 0) (eVar 1))))) (sNext))
  (sSeq (sIf (tE (e1 (gIs .str) (eVar 1))) (sRet (eAnd (e1 (gIs .str) (eVar 0)) (e2 gEq (eVar 0) (eVar 1)))) (sNext))
  (sSeq (sIf (PF.tOr (tE (e2 gNe (e1 (gIs .tup) (eVar 1)) (e1 (gIs .tup) (eVar 0)))) (tE (e2 gNe (e1 (gIs .lst) (eVar 1)) (e1 (gIs .lst) (eVar 0))))) (sRet (eC (.bl false))) (sNext))
  (sSeq (sIf (tE (e2 gNe (eCall fLen (aCons (eVar 0) (aNil))) (eCall fLen (aCons (eVar 1) (aNil))))) (sRet (eC (.bl false))) (sNext))
  (sSeq (sFor (iRange1 (eCall fLen (aCons (eVar 1) (aNil)))) (PF.gName 2) (sIf (PF.tNot (tE (eCall F0 (aCons (e2 gIx (eVar 0) (eVar 2)) (aCons (e2 gIx (eVar 1) (eVar 2)) (aNil)))))) (sRet (eC (.bl false))) (sNext)))
  (sRet (eC (.bl true)))))))))
def f__law_alike : Nat → Fn
  | 0 => fun _ _ => .bad
  | k + 1 => fn 3 (b__law_alike (f__law_alike k))
def b__law_frame : St := sSeq (sSet 1 (e2 gIx (eLst (aCons (e2 gAdd (eC (.int 3)) (eCall f__law_take (aCons (eVar 0) (aCons (eC (.int 4)) (aNil))))) (aCons (e2 gAdd (eC (.int 3)) (eCall f__law_take (aCons (eVar 0) (aCons (eC (.int 4)) (aNil))))) (aCons (e2 gAdd (eC (.int 1)) (eCall f__law_take (aCons (eVar 0) (aCons (eC (.int 6)) (aNil))))) (aNil))))) (eCall f__law_take (aCons (eVar 0) (aCons (eC (.int 3)) (aNil))))))
  (sSeq (sSet 2 (e2 gIx (eLst (aCons (eC (.int 8)) (aCons (eCall f__law_take (aCons (eVar 0) (aCons (eC (.int 9)) (aNil)))) (aNil)))) (eCall f__law_take (aCons (eVar 0) (aCons (eC (.int 2)) (aNil))))))
  (sRet (eTup (aCons (eVar 1) (aCons (eVar 2) (aCons (eCall fTuple (aCons (eComp (iRange1 (eVar 1)) [3] (PF.gName 3) (tE (e2 gEq (eCall f__law_take (aCons (eVar 0) (aCons (eC (.int 3)) (aNil)))) (eC (.int 0)))) (eVar 3)) (aNil))) (aNil)))))))
def f__law_frame : Fn := fn 4 b__law_frame
def b_need_frame : St := sSeq (sIf (PF.tOr (PF.tNot (tE (e1 (gIs .tup) (eVar 0)))) (tE (e2 gNe (eCall fLen (aCons (eVar 0) (aNil))) (eC (.int 3))))) (sRaise 0 aNil) (sNext))
  (sSeq (sAsg (PF.gTup [1, 2, 3]) (eVar 0))
  (sSeq (sIf (PF.tOr (PF.tNot (tE (eCall f_is_number (aCons (eVar 1) (aCons (eC (.int 1)) (aCons (eC (.int 6)) (aNil))))))) (PF.tOr (PF.tNot (tE (eCall f_is_number (aCons (eVar 2) (aCons (eC (.int 0)) (aCons (eC (.int 8)) (aNil))))))) (PF.tNot (tE (e1 (gIs .tup) (eVar 3)))))) (sRaise 0 aNil) (sNext))
  (sIf (PF.tOr (tE (e2 gNe (eComp (iSeq (eVar 3)) [4] (PF.gName 4) (PF.tNot (tE (eCall f_is_number (aCons (eVar 4) (aCons (eC (.int 0)) (aCons (e2 gSub (eVar 1) (eC (.int 1))) (aNil))))))) (eVar 4)) (eLst (aNil)))) (tE (e2 gNe (eCall fList (aCons (eVar 3) (aNil))) (eCall fSortedSet (aCons (eVar 3) aNil))))) (sRaise 0 aNil) (sNext))))
def f_need_frame : Fn := fn 5 b_need_frame
def b_is_place : St := sSeq (sIf (PF.tOr (PF.tNot (tE (e1 (gIs .tup) (eVar 0)))) (PF.tOr (tE (e2 gNe (eCall fLen (aCons (eVar 0) (aNil))) (eC (.int 2)))) (PF.tNot (tE (e1 (gIs .str) (e2 gIx (eVar 0) (eC (.int 0)))))))) (sRet (eC (.bl false))) (sNext))
  (sRet (eCall f_is_number (aCons (e2 gIx (eVar 0) (eC (.int 1))) (aCons (eC (.int 0)) (aCons (e2 gSub (eGet (eDict [(eC (.str z_box), e2 gIx (eVar 1) (eC (.int 0))), (eC (.str z_slot), e2 gIx (eVar 1) (eC (.int 1)))]) (e2 gIx (eVar 0) (eC (.int 0))) (eC (.int 0))) (eC (.int 1))) (aNil))))))
def f_is_place : Fn := fn 2 b_is_place
def b_is_move : St := sSeq (sIf (PF.tOr (PF.tNot (tE (e1 (gIs .tup) (eVar 0)))) (PF.tOr (tE (e2 gNe (eCall fLen (aCons (eVar 0) (aNil))) (eC (.int 3)))) (PF.tOr (PF.tNot (tE (e1 (gIs .str) (e2 gIx (eVar 0) (eC (.int 0)))))) (tE (e1 (kNotIn t_MOVES) (e2 gIx (eVar 0) (eC (.int 0)))))))) (sRet (eC (.bl false))) (sNext))
  (sSeq (sSet 2 (eDict [(eC (.str z_b), e2 gSub (e2 gIx (eVar 1) (eC (.int 0))) (eC (.int 1))), (eC (.str z_s), e2 gSub (e2 gIx (eVar 1) (eC (.int 1))) (eC (.int 1)))]))
  (sRet (e2 gEq (eComp (iRange1 (eC (.int 2))) [3] (PF.gName 3) (PF.tNot (tE (eCall f_is_number (aCons (e2 gIx (eVar 0) (e2 gAdd (eVar 3) (eC (.int 1)))) (aCons (eC (.int 0)) (aCons (e2 gDx (eVar 2) (e2 gIx (e1 (kIx t_MOVES) (e2 gIx (eVar 0) (eC (.int 0)))) (eVar 3))) (aNil))))))) (eVar 3)) (eLst (aNil)))))
def f_is_move : Fn := fn 4 b_is_move
def b_are_moves : St := sSeq (sIf (PF.tOr (PF.tNot (tE (e1 (gIs .tup) (eVar 0)))) (tE (e2 gGt (eCall fLen (aCons (eVar 0) (aNil))) (eC (.int 6))))) (sRet (eC (.bl false))) (sNext))
  (sRet (e2 gEq (eComp (iSeq (eVar 0)) [2] (PF.gName 2) (PF.tNot (tE (eCall f_is_move (aCons (eVar 2) (aCons (eVar 1) (aNil)))))) (eVar 2)) (eLst (aNil))))
def f_are_moves : Fn := fn 3 b_are_moves
def b_names_of : St := sRet (eCall fTuple (aCons (eComp (iZip (eSlice (eVar 0) (oSome (eC (.int 1))) (oNone)) (e1 (kIx t_SHAPES) (e2 gIx (eVar 0) (eC (.int 0))))) [1, 2] (PF.gTup [1, 2]) (tE (e2 gIn (eVar 2) (eC (.str z_da)))) (eVar 1)) (aNil)))
def f_names_of : Fn := fn 3 b_names_of
def b_is_group : St := sSeq (sIf (PF.tOr (PF.tNot (tE (e1 (gIs .tup) (eVar 0)))) (PF.tOr (tE (e2 gNe (eCall fLen (aCons (eVar 0) (aNil))) (eC (.int 3)))) (PF.tNot (tE (eCall f_are_moves (aCons (e2 gIx (eVar 0) (eC (.int 0))) (aCons (eVar 2) (aNil)))))))) (sRet (eC (.bl false))) (sNext))
  (sSeq (sIf (PF.tOr (PF.tNot (tE (e1 (gIs .tup) (e2 gIx (eVar 0) (eC (.int 1)))))) (tE (e2 gNe (eCall fLen (aCons (e2 gIx (eVar 0) (eC (.int 1))) (aNil))) (eCall fLen (aCons (eCall f_names_of (aCons (eVar 1) (aNil))) (aNil)))))) (sRet (eC (.bl false))) (sNext))
  (sSeq (sIf (tE (e2 gNe (eComp (iSeq (e2 gIx (eVar 0) (eC (.int 1)))) [3] (PF.gName 3) (PF.tNot (tE (eCall f_is_number (aCons (eVar 3) (aCons (eC (.int 0)) (aCons (e2 gSub (e2 gIx (eVar 2) (eC (.int 0))) (eC (.int 1))) (aNil))))))) (eVar 3)) (eLst (aNil)))) (sRet (eC (.bl false))) (sNext))
  (sRet (eAnd (eCall f_are_moves (aCons (e2 gIx (eVar 0) (eC (.int 2))) (aCons (eVar 2) (aNil)))) (eOr (e2 gEq (e2 gIx (eVar 0) (eC (.int 2))) (eTup (aNil))) (e2 gNotIn (e2 gIx (eVar 1) (eC (.int 0))) (eTup (aCons (eC (.str z_go)) (aCons (eC (.str z_if)) (aCons (eC (.str z_end)) (aNil)))))))))))
def f_is_group : Fn := fn 4 b_is_group
def b_need_choice : St := sSeq (sIf (PF.tOr (PF.tNot (tE (e1 (gIs .tup) (eVar 2)))) (PF.tOr (tE (e2 gNe (eCall fLen (aCons (eVar 2) (aNil))) (eC (.int 2)))) (PF.tNot (tE (e1 (gIs .tup) (e2 gIx (eVar 2) (eC (.int 0)))))))) (sRaise 0 aNil) (sNext))
  (sSeq (sAsg (PF.gTup [3, 4]) (eVar 2))
  (sSeq (sIf (PF.tOr (tE (e2 gNe (eCall fLen (aCons (eVar 3) (aNil))) (e2 gIx (eVar 0) (eC (.int 0))))) (tE (e2 gNe (eComp (iSeq (eVar 3)) [7] (PF.gName 7) (PF.tNot (tE (eCall f_is_place (aCons (eVar 7) (aCons (eVar 1) (aNil)))))) (eVar 7)) (eLst (aNil))))) (sRaise 0 aNil) (sNext))
  (sSeq (sIf (PF.tOr (tE (e2 gNe (eCall fLenSet (aCons (eVar 3) aNil)) (eCall fLen (aCons (eVar 3) (aNil))))) (PF.tNot (tE (e1 (gIs .tup) (eVar 4))))) (sRaise 0 aNil) (sNext))
  (sSeq (sFor (iEnum (eVar 4)) (PF.gTup [5, 6]) (sIf (PF.tOr (tE (e2 gGe (eVar 5) (eCall fLen (aCons (e2 gIx (eVar 0) (eC (.int 2))) (aNil))))) (PF.tNot (tE (eCall f_is_group (aCons (eVar 6) (aCons (e2 gIx (e2 gIx (eVar 0) (eC (.int 2))) (eVar 5)) (aCons (eVar 1) (aNil)))))))) (sRaise 0 aNil) (sNext)))
  (sIf (tE (e2 gNe (eCall fLen (aCons (eVar 4) (aNil))) (eCall fLen (aCons (e2 gIx (eVar 0) (eC (.int 2))) (aNil))))) (sRaise 0 aNil) (sNext))))))
def f_need_choice : Fn := fn 8 b_need_choice
def b_Junk___init__ : St := sSeq (sFld 1 4 (eVar 0) (eVar 1))
  (sFld 1 5 (eVar 0) (eC (.int 0)))
def f_Junk___init__ : Fn := fn 2 b_Junk___init__
def b_Junk_next_one : St := sSeq (sFld 1 5 (eVar 0) (e2 gAdd (e1 (gFld 1 5) (eVar 0)) (eC (.int 1))))
  (sRet (eIf (tE (e2 gNe (e1 (gFld 1 4) (eVar 0)) (eLst (aNil)))) (e2 gIx (e1 (gFld 1 4) (eVar 0)) (e2 gMod (e2 gSub (e1 (gFld 1 5) (eVar 0)) (eC (.int 1))) (eCall fLen (aCons (e1 (gFld 1 4) (eVar 0)) (aNil))))) (eC (.int 0))))
def f_Junk_next_one : Fn := fn 1 b_Junk_next_one
def b_index_of : St := sRet (eIf (tE (e2 gEq (e2 gIx (eVar 0) (eC (.int 0))) (eC (.str z_box)))) (e2 gIx (eVar 0) (eC (.int 1))) (e2 gAdd (e2 gIx (eVar 1) (eC (.int 0))) (e2 gIx (eVar 0) (eC (.int 1)))))
def f_index_of : Fn := fn 2 b_index_of
def b_moved : St := sSeq (sSet 3 (eCall fList (aCons (eVar 0) (aNil))))
  (sSeq (sFor (iSeq (eVar 1)) (PF.gTup [4, 5, 6]) (sIf (tE (e2 gEq (eVar 4) (eC (.str z_swap)))) (sSub2 (eTup (aCons (e2 gIx (eVar 3) (eVar 6)) (aCons (e2 gIx (eVar 3) (eVar 5)) (aNil)))) (eVar 3) (eVar 5) (eVar 3) (eVar 6)) (sSeq (sSet 7 (eIf (tE (e2 gEq (eVar 4) (eC (.str z_store)))) (e2 gAdd (e2 gIx (eVar 2) (eC (.int 0))) (eVar 5)) (eVar 5)))
  (sSub (eVar 3) (eVar 7) (e2 gIx (eVar 3) (eIf (tE (e2 gEq (eVar 4) (eC (.str z_load)))) (e2 gAdd (e2 gIx (eVar 2) (eC (.int 0))) (eVar 6)) (eVar 6)))))))
  (sRet (eVar 3)))
def f_moved : Fn := fn 8 b_moved
def b_run_boxes : St := sSeq (sExpr (eCall f_need_program (aCons (eVar 0) (aNil))))
  (sSeq (sExpr (eCall f_need_frame (aCons (eVar 1) (aNil))))
  (sSeq (sExpr (eCall f_need_choice (aCons (eVar 0) (aCons (eVar 1) (aCons (eVar 2) (aNil))))))
  (sSeq (sExpr (eCall f_need_given (aCons (eVar 0) (aCons (eVar 3) (aNil)))))
  (sSeq (sExpr (eCall f_need_fuel (aCons (eVar 4) (aNil))))
  (sSeq (sIf (tE (e2 gNe (eComp (iSeq (eVar 5)) [9] (PF.gName 9) (PF.tNot (tE (eCall f_is_number (aCons (eVar 9) (aCons (eC (.int 0)) (aCons (e2 gSub (eC (.int 1000)) (eC (.int 1))) (aNil))))))) (eVar 9)) (eLst (aNil)))) (sRaise 0 aNil) (sNext))
  (sSeq (sSet 6 (eMake 1 f_Junk___init__ (aCons (eVar 5) (aNil))))
  (sSeq (sSet 7 (eComp (iRange1 (e2 gAdd (e2 gIx (eVar 1) (eC (.int 0))) (e2 gIx (eVar 1) (eC (.int 1))))) [8] (PF.gName 8) (tYes) (eMeth 1 f_Junk_next_one (eVar 6) aNil)))
  (sSeq (sFor (iZip (e2 gIx (eVar 2) (eC (.int 0))) (eVar 3)) (PF.gTup [8, 9]) (sSub (eVar 7) (eCall f_index_of (aCons (eVar 8) (aCons (eVar 1) (aNil)))) (eVar 9)))
  (sSeq (sSet 10 (eMake 0 f_Run___init__ (aCons (e2 gIx (eVar 0) (eC (.int 2))) (aNil))))
  (sSeq (sWhile (PF.tAnd (PF.tNot (tE (eMeth 0 f_Run_is_over (eVar 10) aNil))) (tE (e2 gLt (e1 (gFld 0 3) (eVar 10)) (eVar 4)))) (sSeq (sSet 11 (e2 gIx (e1 (gFld 0 0) (eVar 10)) (e1 (gFld 0 1) (eVar 10))))
  (sSeq (sAsg (PF.gTup [12, 13, 14]) (e2 gIx (e2 gIx (eVar 2) (eC (.int 1))) (e1 (gFld 0 1) (eVar 10))))
  (sSeq (sSet 7 (eCall f_moved (aCons (eVar 7) (aCons (eVar 12) (aCons (eVar 1) (aNil))))))
  (sSeq (sSet 15 (eComp (iSeq (eSlice (eVar 13) (oSome (eCall fInt (aCons (eCall f_makes (aCons (eVar 11) (aNil))) (aNil)))) (oNone))) [16] (PF.gName 16) (tYes) (e2 gIx (eVar 7) (eVar 16))))
  (sSeq (sIf (tE (e2 gEq (e2 gIx (eVar 11) (eC (.int 0))) (eC (.str z_call)))) (sFor (iSeq (e2 gIx (eVar 1) (eC (.int 2)))) (PF.gName 16) (sSub (eVar 7) (eVar 16) (eMeth 1 f_Junk_next_one (eVar 6) aNil))) (sNext))
  (sSeq (sIf (tE (eCall f_makes (aCons (eVar 11) (aNil)))) (sSub (eVar 7) (e2 gIx (eVar 13) (eC (.int 0))) (eCall f_told_by (aCons (eVar 11) (aCons (eVar 15) (aNil))))) (sNext))
  (sSeq (sSet 7 (eCall f_moved (aCons (eVar 7) (aCons (eVar 14) (aCons (eVar 1) (aNil))))))
  (sExpr (eMeth 0 f_Run_go (eVar 10) (aCons (eVar 15) (aNil))))))))))))
  (sRet (eMeth 0 f_Run_told (eVar 10) aNil))))))))))))
def f_run_boxes : Fn := fn 17 b_run_boxes
def b_first_held : St := sSeq (sSet 3 (e2 gMul (eLst (aCons (eTup (aNil)) (aNil))) (e2 gAdd (e2 gIx (eVar 1) (eC (.int 0))) (e2 gIx (eVar 1) (eC (.int 1))))))
  (sSeq (sFor (iEnum (e2 gIx (eVar 2) (eC (.int 0)))) (PF.gTup [4, 5]) (sSub (eVar 3) (eCall f_index_of (aCons (eVar 5) (aCons (eVar 1) (aNil)))) (eTup (aCons (eVar 4) (aNil)))))
  (sRet (eCall fTuple (aCons (eVar 3) (aNil)))))
def f_first_held : Fn := fn 6 b_first_held
def b_is_handed : St := sSeq (sSet 4 (eCall f_moved (aCons (eVar 2) (aCons (e2 gIx (eVar 1) (eC (.int 0))) (aCons (eVar 3) (aNil))))))
  (sSeq (sSet 5 (e2 gIx (eVar 1) (eC (.int 1))))
  (sSeq (sSet 6 (eCall fInt (aCons (eCall f_makes (aCons (eVar 0) (aNil))) (aNil))))
  (sRet (e2 gEq (eComp (iRange2 (eVar 6) (eCall fLen (aCons (eVar 5) (aNil)))) [7] (PF.gName 7) (tE (e2 gNotIn (e2 gIx (eVar 0) (e2 gAdd (eC (.int 1)) (eVar 7))) (e2 gIx (eVar 4) (e2 gIx (eVar 5) (eVar 7))))) (eVar 7)) (eLst (aNil))))))
def f_is_handed : Fn := fn 8 b_is_handed
def b_renamed : St := sSeq (sIf (tE (e2 gEq (eVar 1) (eVar 2))) (sRet (eVar 0)) (sNext))
  (sSeq (sSet 3 (eComp (iSeq (eVar 0)) [4] (PF.gName 4) (tE (e2 gNe (eVar 4) (eVar 1))) (eVar 4)))
  (sRet (eIf (tE (e2 gIn (eVar 2) (eVar 3))) (eCall fTuple (aCons (eCall fSortedI (aCons (e2 gAdd (eVar 3) (eLst (aCons (eVar 1) (aNil)))) (aNil))) (aNil))) (eCall fTuple (aCons (eVar 3) (aNil))))))
def f_renamed : Fn := fn 5 b_renamed
def b_held_behind : St := sSeq (sSet 4 (eCall f_is_handed (aCons (eVar 0) (aCons (eVar 1) (aCons (eVar 2) (aCons (eVar 3) (aNil)))))))
  (sSeq (sSet 5 (eCall f_moved (aCons (eVar 2) (aCons (e2 gIx (eVar 1) (eC (.int 0))) (aCons (eVar 3) (aNil))))))
  (sSeq (sSet 6 (e2 gIx (eVar 1) (eC (.int 1))))
  (sSeq (sIf (tE (e2 gEq (e2 gIx (eVar 0) (eC (.int 0))) (eC (.str z_copy)))) (sSeq (sSet 5 (eComp (iSeq (eVar 5)) [8] (PF.gName 8) (tYes) (eCall f_renamed (aCons (eVar 8) (aCons (e2 gIx (eVar 0) (eC (.int 1))) (aCons (e2 gIx (eVar 0) (eC (.int 2))) (aNil)))))))
  (sSub (eVar 5) (e2 gIx (eVar 6) (eC (.int 0))) (e2 gIx (eVar 5) (e2 gIx (eVar 6) (eC (.int 1)))))) (sIf (tE (eCall f_makes (aCons (eVar 0) (aNil)))) (sSeq (sSet 5 (eComp (iSeq (eVar 5)) [8] (PF.gName 8) (tYes) (eCall fTuple (aCons (eComp (iSeq (eVar 8)) [9] (PF.gName 9) (tE (e2 gNe (eVar 9) (e2 gIx (eVar 0) (eC (.int 1))))) (eVar 9)) (aNil)))))
  (sSeq (sFor (iSeq (eIf (tE (e2 gEq (e2 gIx (eVar 0) (eC (.int 0))) (eC (.str z_call)))) (e2 gIx (eVar 3) (eC (.int 2))) (eTup (aNil)))) (PF.gName 7) (sSub (eVar 5) (eVar 7) (eTup (aNil))))
  (sSub (eVar 5) (e2 gIx (eVar 6) (eC (.int 0))) (eIf (tE (eVar 4)) (eTup (aCons (e2 gIx (eVar 0) (eC (.int 1))) (aNil))) (eTup (aNil)))))) (sNext)))
  (sRet (eCall fTuple (aCons (eCall f_moved (aCons (eVar 5) (aCons (e2 gIx (eVar 1) (eC (.int 2))) (aCons (eVar 3) (aNil))))) (aNil)))))))
def f_held_behind : Fn := fn 10 b_held_behind
def b_behind_row : St := sSeq (sSet 3 (e2 gIx (e2 gIx (eVar 0) (eC (.int 2))) (eVar 1)))
  (sSeq (sIf (tE (e2 gEq (e2 gIx (eVar 3) (eC (.int 0))) (eC (.str z_if)))) (sRet (eLst (aCons (eTup (aCons (e2 gAdd (eVar 1) (eC (.int 1))) (aCons (e2 gAdd (eVar 2) (eLst (aCons (eC (.bl false)) (aNil)))) (aNil)))) (aCons (eTup (aCons (e2 gIx (eVar 3) (eC (.int 2))) (aCons (e2 gAdd (eVar 2) (eLst (aCons (eC (.bl true)) (aNil)))) (aNil)))) (aNil))))) (sNext))
  (sRet (eLst (aCons (eTup (aCons (eIf (tE (e2 gEq (e2 gIx (eVar 3) (eC (.int 0))) (eC (.str z_go)))) (e2 gIx (eVar 3) (eC (.int 1))) (e2 gAdd (eVar 1) (eC (.int 1)))) (aCons (eVar 2) (aNil)))) (aNil)))))
def f_behind_row : Fn := fn 4 b_behind_row
def b_checked_by : St := sSeq (sSet 3 (eCall f_first_held (aCons (eVar 0) (aCons (eVar 1) (aCons (eVar 2) (aNil))))))
  (sSeq (sSet 4 (eLst (aCons (eTup (aCons (eC (.int 0)) (aCons (eVar 3) (aCons (eLst (aNil)) (aNil))))) (aNil))))
  (sSeq (sSet 5 (eDit1 (eTup (aCons (eC (.int 0)) (aCons (eVar 3) (aNil)))) (eC (.bl true))))
  (sSeq (sWhile (tE (e2 gNe (eVar 4) (eLst (aNil)))) (sSeq (sSet 6 (eLst (aNil)))
  (sSeq (sFor (iSeq (eVar 4)) (PF.gTup [7, 8, 9]) (sSeq (sPar [10, 11] (aCons (e2 gIx (e2 gIx (eVar 0) (eC (.int 2))) (eVar 7)) (aCons (e2 gIx (e2 gIx (eVar 2) (eC (.int 1))) (eVar 7)) (aNil))))
  (sSeq (sIf (PF.tAnd (tE (e2 gIn (e2 gIx (eVar 10) (eC (.int 0))) (eTup (aCons (eC (.str z_say)) (aCons (eC (.str z_if)) (aNil)))))) (PF.tNot (tE (eCall f_is_handed (aCons (eVar 10) (aCons (eVar 11) (aCons (eVar 8) (aCons (eVar 1) (aNil))))))))) (sRet (eTup (aCons (eVar 9) (aCons (eVar 7) (aNil))))) (sNext))
  (sSeq (sSet 12 (eCall f_held_behind (aCons (eVar 10) (aCons (eVar 11) (aCons (eVar 8) (aCons (eVar 1) (aNil)))))))
  (sFor (iSeq (eIf (tE (e2 gNe (e2 gIx (eVar 10) (eC (.int 0))) (eC (.str z_end)))) (eCall f_behind_row (aCons (eVar 0) (aCons (eVar 7) (aCons (eVar 9) (aNil))))) (eLst (aNil)))) (PF.gTup [13, 14]) (sIf (PF.tAnd (tE (e2 gLt (eVar 13) (eCall fLen (aCons (e2 gIx (eVar 0) (eC (.int 2))) (aNil))))) (tE (e2 gNotInT (eTup (aCons (eVar 13) (aCons (eVar 12) (aNil)))) (eVar 5)))) (sSeq (sDit (eVar 5) (eTup (aCons (eVar 13) (aCons (eVar 12) (aNil)))) (eC (.bl true)))
  (sExpr (eM1 mAppend (eVar 6) (eTup (aCons (eVar 13) (aCons (eVar 12) (aCons (eVar 14) (aNil)))))))) (sNext)))))))
  (sSet 4 (eVar 6)))))
  (sRet (eC .non)))))
def f_checked_by : Fn := fn 15 b_checked_by
def b_checked : St := sSeq (sExpr (eCall f_need_program (aCons (eVar 0) (aNil))))
  (sSeq (sExpr (eCall f_need_frame (aCons (eVar 1) (aNil))))
  (sSeq (sExpr (eCall f_need_choice (aCons (eVar 0) (aCons (eVar 1) (aCons (eVar 2) (aNil))))))
  (sRet (eCall f_checked_by (aCons (eVar 0) (aCons (eVar 1) (aCons (eVar 2) (aNil))))))))
def f_checked : Fn := fn 3 b_checked
def b__law_program_v2 : St := sSeq (sSet 2 (e2 gAdd (eC (.int 1)) (eCall f__law_take (aCons (eVar 0) (aCons (eC (.int 3)) (aNil))))))
  (sSeq (sSet 3 (e2 gIx (eLst (aCons (eVar 2) (aCons (eCall f__law_take (aCons (eVar 0) (aCons (e2 gAdd (eVar 2) (eC (.int 1))) (aNil)))) (aNil)))) (eCall f__law_take (aCons (eVar 0) (aCons (eC (.int 2)) (aNil))))))
  (sSeq (sSet 4 (e2 gAdd (eC (.int 1)) (eCall f__law_take (aCons (eVar 0) (aCons (e2 gIx (eLst (aCons (eVar 1) (aCons (eCall fMin (aCons (eVar 1) (aCons (eC (.int 6)) (aNil)))) (aNil)))) (eCall f__law_take (aCons (eVar 0) (aCons (eC (.int 2)) (aNil))))) (aNil))))))
  (sRet (eTup (aCons (eVar 3) (aCons (eVar 2) (aCons (eCall fTuple (aCons (eComp (iRange1 (eVar 4)) [5] (PF.gName 5) (tYes) (eCall f__law_row (aCons (eVar 0) (aCons (eVar 2) (aCons (eVar 4) (aCons (eVar 5) (aNil))))))) (aNil))) (aNil))))))))
def f__law_program_v2 : Fn := fn 6 b__law_program_v2
def b_group_of : St := sSeq (sSet 1 (eCall f_names_of (aCons (eVar 0) (aNil))))
  (sSeq (sSet 2 (eIf (tE (eCall f_makes (aCons (eVar 0) (aNil)))) (eSlice (eVar 1) (oSome (eC (.int 1))) (oNone)) (eVar 1)))
  (sSeq (sSet 3 (eCall fTuple (aCons (eComp (iEnum (eVar 2)) [5, 6] (PF.gTup [5, 6]) (tYes) (eTup (aCons (eC (.str z_load)) (aCons (eVar 5) (aCons (eVar 6) (aNil)))))) (aNil))))
  (sSeq (sSet 4 (eTRg (iRange1 (eCall fLen (aCons (eVar 2) (aNil))))))
  (sSeq (sIf (PF.tNot (tE (eCall f_makes (aCons (eVar 0) (aNil))))) (sRet (eTup (aCons (eVar 3) (aCons (eVar 4) (aCons (eTup (aNil)) (aNil)))))) (sNext))
  (sRet (eTup (aCons (eVar 3) (aCons (e2 gAdd (eTup (aCons (eC (.int 2)) (aNil))) (eVar 4)) (aCons (eTup (aCons (eTup (aCons (eC (.str z_store)) (aCons (e2 gIx (eVar 1) (eC (.int 0))) (aCons (eC (.int 2)) (aNil))))) (aNil))) (aNil))))))))))
def f_group_of : Fn := fn 7 b_group_of
def b_made : St := sSeq (sExpr (eCall f_need_program (aCons (eVar 0) (aNil))))
  (sSeq (sExpr (eCall f_need_frame (aCons (eVar 1) (aNil))))
  (sSeq (sIf (PF.tOr (tE (e2 gLe (e2 gIx (eVar 1) (eC (.int 0))) (eC (.int 2)))) (tE (e2 gLt (e2 gIx (eVar 1) (eC (.int 1))) (e2 gIx (eVar 0) (eC (.int 1)))))) (sRaise 0 aNil) (sNext))
  (sSeq (sSet 2 (eCall fTuple (aCons (eComp (iRange1 (e2 gIx (eVar 0) (eC (.int 0)))) [3] (PF.gName 3) (tYes) (eTup (aCons (eC (.str z_slot)) (aCons (eVar 3) (aNil))))) (aNil))))
  (sRet (eTup (aCons (eVar 2) (aCons (eCall fTuple (aCons (eComp (iSeq (e2 gIx (eVar 0) (eC (.int 2)))) [4] (PF.gName 4) (tYes) (eCall f_group_of (aCons (eVar 4) (aNil)))) (aNil))) (aNil))))))))
def f_made : Fn := fn 5 b_made
def b__law_groups : St := sSeq (sSet 1 (eLst (aNil)))
  (sSeq (sFor (iSeq (e2 gIx (eVar 0) (eC (.int 2)))) (PF.gName 2) (sSeq (sSet 3 (eIf (tE (e2 gIn (e2 gIx (eVar 2) (eC (.int 0))) (eTup (aCons (eC (.str z_put)) (aCons (eC (.str z_go)) (aCons (eC (.str z_end)) (aNil))))))) (eLst (aNil)) (eCall fList (aCons (eSlice (eVar 2) (oSome (eC (.int 2))) (oNone)) (aNil)))))
  (sSeq (sIf (tE (e2 gIn (e2 gIx (eVar 2) (eC (.int 0))) (eTup (aCons (eC (.str z_say)) (aCons (eC (.str z_if)) (aNil)))))) (sSet 3 (eLst (aCons (e2 gIx (eVar 2) (eC (.int 1))) (aNil)))) (sNext))
  (sSeq (sSet 4 (eCall fTuple (aCons (eComp (iRange1 (eCall fLen (aCons (eVar 3) (aNil)))) [5] (PF.gName 5) (tYes) (eTup (aCons (eC (.str z_load)) (aCons (eVar 5) (aCons (e2 gIx (eVar 3) (eVar 5)) (aNil)))))) (aNil))))
  (sIf (tE (e2 gIn (e2 gIx (eVar 2) (eC (.int 0))) (eTup (aCons (eC (.str z_say)) (aCons (eC (.str z_if)) (aCons (eC (.str z_go)) (aCons (eC (.str z_end)) (aNil)))))))) (sExpr (eM1 mAppend (eVar 1) (eTup (aCons (eVar 4) (aCons (eTRg (iRange1 (eCall fLen (aCons (eVar 3) (aNil))))) (aCons (eTup (aNil)) (aNil))))))) (sExpr (eM1 mAppend (eVar 1) (eTup (aCons (eVar 4) (aCons (e2 gAdd (eTup (aCons (eC (.int 2)) (aNil))) (eTRg (iRange1 (eCall fLen (aCons (eVar 3) (aNil)))))) (aCons (eTup (aCons (eTup (aCons (eC (.str z_store)) (aCons (e2 gIx (eVar 2) (eC (.int 1))) (aCons (eC (.int 2)) (aNil))))) (aNil))) (aNil))))))))))))
  (sRet (eCall fTuple (aCons (eVar 1) (aNil)))))
def f__law_groups : Fn := fn 6 b__law_groups
def b_law_v9 : St := sSeq (sSet 1 (eCall f__law_begun (aCons (eVar 0) (aNil))))
  (sSeq (sFor (iRange1 (eC (.int 5))) (PF.gName 2) (sSeq (sSet 3 (eCall f__law_program_v2 (aCons (eVar 1) (aCons (eC (.int 10)) (aNil)))))
  (sSeq (sSet 3 (eTup (aCons (e2 gIx (eVar 3) (eC (.int 1))) (aCons (e2 gIx (eVar 3) (eC (.int 1))) (aCons (e2 gIx (eVar 3) (eC (.int 2))) (aNil))))))
  (sSeq (sSet 4 (e2 gAdd (eC (.int 3)) (eCall f__law_take (aCons (eVar 1) (aCons (eC (.int 4)) (aNil))))))
  (sSeq (sSet 5 (eTup (aCons (eVar 4) (aCons (e2 gAdd (e2 gIx (eVar 3) (eC (.int 1))) (eCall f__law_take (aCons (eVar 1) (aCons (e2 gSub (eC (.int 9)) (e2 gIx (eVar 3) (eC (.int 1)))) (aNil))))) (aCons (e2 gIx (eCall f__law_frame (aCons (eVar 1) (aNil))) (eC (.int 2))) (aNil))))))
  (sSeq (sSet 5 (eTup (aCons (eVar 4) (aCons (e2 gIx (eVar 5) (eC (.int 1))) (aCons (eCall fTuple (aCons (eComp (iSeq (e2 gIx (eVar 5) (eC (.int 2)))) [11] (PF.gName 11) (tE (e2 gLt (eVar 11) (eVar 4))) (eVar 11)) (aNil))) (aNil))))))
  (sSeq (sSet 6 (eCall f_made (aCons (eVar 3) (aCons (eVar 5) (aNil)))))
  (sSeq (sSet 7 (eCall fTuple (aCons (eComp (iRange1 (e2 gIx (eVar 3) (eC (.int 0)))) [10] (PF.gName 10) (tYes) (eTup (aCons (eC (.str z_slot)) (aCons (eVar 10) (aNil))))) (aNil))))
  (sSeq (sIf (PF.tOr (PF.tNot (tE (eCall (f__law_alike 12) (aCons (eVar 6) (aCons (eTup (aCons (eVar 7) (aCons (eCall f__law_groups (aCons (eVar 3) (aNil))) (aNil)))) (aNil)))))) (tE (e1 gNotN (eCall f_checked (aCons (eVar 3) (aCons (eVar 5) (aCons (eVar 6) (aNil)))))))) (sRet (eC (.bl false))) (sNext))
  (sSeq (sSet 8 (eCall fTuple (aCons (eComp (iRange1 (e2 gIx (eVar 3) (eC (.int 0)))) [10] (PF.gName 10) (tYes) (eCall f__law_take (aCons (eVar 1) (aCons (eC (.int 1000)) (aNil))))) (aNil))))
  (sSeq (sSet 9 (eComp (iRange1 (eCall f__law_take (aCons (eVar 1) (aCons (eC (.int 4)) (aNil))))) [10] (PF.gName 10) (tYes) (eCall f__law_take (aCons (eVar 1) (aCons (eC (.int 1000)) (aNil))))))
  (sIf (PF.tNot (tE (eCall (f__law_alike 12) (aCons (eCall f_run_boxes (aCons (eVar 3) (aCons (eVar 5) (aCons (eVar 6) (aCons (eVar 8) (aCons (eC (.int 300)) (aCons (eVar 9) (aNil)))))))) (aCons (eCall f_run (aCons (eVar 3) (aCons (eVar 8) (aCons (eC (.int 300)) (aNil))))) (aNil)))))) (sRet (eC (.bl false))) (sNext)))))))))))))
  (sRet (eC (.bl true))))
def f_law_v9 : Fn := fn 12 b_law_v9
end PG
end
section
set_option linter.all false
set_option autoImplicit false
set_option maxRecDepth 100003
namespace PF
def wp {α : Type} (o : Out α) (Q : α → Sto → Prop) : Prop := ∃ a S, o = .ok a S ∧ Q a S
section
variable {α β : Type} {o : Out α} {Q R : α → Sto → Prop} {S S' : Sto} {ρ : Env}
theorem wp_ok {a : α} : wp (.ok a S) Q = Q a S := by
  refine propext ⟨fun ⟨b, U, e, q⟩ => ?_, fun q => ⟨a, S, rfl, q⟩⟩
  cases e
  exact q
theorem wp_bad : wp (.bad : Out α) Q = False := propext ⟨fun ⟨_, _, e, _⟩ => (nomatch e), fun h => h.elim⟩
theorem wp_bind {k : α → M β} {P : β → Sto → Prop} : wp (o.bind k) P = wp o (fun a S => wp (k a S) P) := by
  refine propext ⟨fun ⟨b, U, e, q⟩ => ?_, fun ⟨a, U, e, b, V, e2, q⟩ => ?_⟩
  · cases o with
    | ok a V => exact ⟨a, V, rfl, b, U, e, q⟩
    | err x V => cases e
    | bad => cases e
  · subst e
    exact ⟨b, V, e2, q⟩
theorem wp_mono (h : wp o Q) (k : ∀ a S, Q a S → R a S) : wp o R := let ⟨a, S, e, q⟩ := h; ⟨a, S, e, k a S q⟩
theorem wp_ite {c : Prop} [Decidable c] {a b : Out α} : wp (if c then a else b) Q = if c then wp a Q else wp b Q := by split <;> rfl
variable {P : D → Sto → Prop}
theorem w_var {i : Nat} {d : D} (h : ρ[i]? = some (some d)) : wp (eVar i ρ S) P = P d S := by unfold eVar; rw [h]; exact wp_ok
theorem w_c {d : D} : wp (eC d ρ S) P = P d S := wp_ok
theorem w_e1 {g : D → M D} {a : E} : wp (e1 g a ρ S) P = wp (a ρ S) fun x S => wp (g x S) P := wp_bind
theorem w_e2 {g : D → D → M D} {a b : E} : wp (e2 g a b ρ S) P = wp (a ρ S) fun x S => wp (b ρ S) fun y S => wp (g x y S) P := by
  unfold e2
  rw [wp_bind]
  simp only [wp_bind]
theorem w_nil {P : List D → Sto → Prop} : wp (aNil ρ S) P = P [] S := wp_ok
theorem w_cons {P : List D → Sto → Prop} {a : E} {r : A} : wp (aCons a r ρ S) P = wp (a ρ S) fun x S => wp (r ρ S) fun xs S => P (x :: xs) S := by
  unfold aCons
  simp only [wp_bind, wp_ok]
theorem w_tup {a : A} : wp (eTup a ρ S) P = wp (a ρ S) fun xs S => P (.tup xs) S := by
  unfold eTup
  simp only [wp_bind, wp_ok]
theorem w_lst {a : A} : wp (eLst a ρ S) P = wp (a ρ S) fun xs S => P (.ref S.length) (S ++ [.lst xs]) := by
  unfold eLst alloc
  simp only [wp_bind, wp_ok]
theorem w_call {f : Fn} {a : A} : wp (eCall f a ρ S) P = wp (a ρ S) fun xs S => wp (f xs S) P := wp_bind
theorem w_if {t : T} {a b : E} : wp (eIf t a b ρ S) P = wp (t ρ S) fun c S => if c = true then wp (a ρ S) P else wp (b ρ S) P := by
  unfold eIf
  simp only [wp_bind, wp_ite]
theorem w_te {P : Bool → Sto → Prop} {a : E} : wp (tE a ρ S) P = wp (a ρ S) fun x S => ∃ c, x = .bl c ∧ P c S := by
  unfold tE
  rw [wp_bind]
  congr
  funext x S
  cases x <;> simp [wp_ok, wp_bad]
theorem w_and {a b : E} : wp (eAnd a b ρ S) P = wp (a ρ S) fun x S => ∃ c, x = .bl c ∧ if c = true then wp (b ρ S) P else P (.bl false) S := by
  unfold eAnd
  rw [wp_bind]
  congr
  funext x S
  cases x with
  | bl c => cases c <;> simp [wp_ok]
  | _ => simp [wp_bad]
theorem w_or {a b : E} : wp (eOr a b ρ S) P = wp (a ρ S) fun x S => ∃ c, x = .bl c ∧ if c = true then P (.bl true) S else wp (b ρ S) P := by
  unfold eOr
  rw [wp_bind]
  congr
  funext x S
  cases x with
  | bl c => cases c <;> simp [wp_ok]
  | _ => simp [wp_bad]
theorem w_not {a : E} : wp (eNot a ρ S) P = wp (a ρ S) fun x S => ∃ c, x = .bl c ∧ P (.bl (!c)) S := by
  unfold eNot
  rw [wp_bind]
  congr
  funext x S
  cases x <;> simp [wp_ok, wp_bad]
theorem w_tand {P : Bool → Sto → Prop} {a b : T} : wp (tAnd a b ρ S) P = wp (a ρ S) fun c S => if c = true then wp (b ρ S) P else P false S := by
  unfold tAnd
  simp only [wp_bind, wp_ite, wp_ok]
theorem w_tor {P : Bool → Sto → Prop} {a b : T} : wp (tOr a b ρ S) P = wp (a ρ S) fun c S => if c = true then P true S else wp (b ρ S) P := by
  unfold tOr
  simp only [wp_bind, wp_ite, wp_ok]
theorem w_tnot {P : Bool → Sto → Prop} {a : T} : wp (tNot a ρ S) P = wp (a ρ S) fun c S => P (!c) S := by
  unfold tNot
  simp only [wp_bind, wp_ok]
theorem w_tyes {P : Bool → Sto → Prop} : wp (tYes ρ S) P = P true S := wp_ok
theorem w_chain {g g' : D → D → M D} {a b c : E} : wp (eChain g g' a b c ρ S) P = wp (a ρ S) fun x S => wp (b ρ S) fun y S => wp (g x y S) fun z S => ∃ k, z = .bl k ∧ if k = true then wp (c ρ S) fun w S => wp (g' y w S) P else P (.bl false) S := by
  unfold eChain
  simp only [wp_bind]
  congr
  funext x S
  congr
  funext y S
  congr
  funext z S
  cases z with
  | bl k => cases k <;> simp [wp_ok, wp_bind]
  | _ => simp [wp_bad]
variable {Z : Fl × Env → Sto → Prop}
theorem w_next : wp (sNext ρ S) Z = Z (.nx, ρ) S := wp_ok
theorem w_seq {a b : St} : wp (sSeq a b ρ S) Z = wp (a ρ S) fun r S => match r.1 with
    | .nx => wp (b r.2 S) Z
    | f => Z (f, r.2) S := by
  unfold sSeq
  rw [wp_bind]
  congr
  funext r S
  cases r.1 <;> simp [wp_ok]
theorem w_set {i : Nat} {a : E} : wp (sSet i a ρ S) Z = wp (a ρ S) fun x S => Z (.nx, ρ.set i (some x)) S := by
  unfold sSet
  simp only [wp_bind, wp_ok]
theorem w_asg {g : G} {a : E} : wp (sAsg g a ρ S) Z = wp (a ρ S) fun x S => ∃ ρ1, g x ρ = some ρ1 ∧ Z (.nx, ρ1) S := by
  unfold sAsg
  rw [wp_bind]
  congr
  funext x S
  cases g x ρ <;> simp [wp_ok, wp_bad]
theorem w_par {is : List Nat} {a : A} : wp (sPar is a ρ S) Z = wp (a ρ S) fun xs S => ∃ ρ1, setAll is xs ρ = some ρ1 ∧ Z (.nx, ρ1) S := by
  unfold sPar
  rw [wp_bind]
  congr
  funext x S
  cases setAll is x ρ <;> simp [wp_ok, wp_bad]
theorem w_expr {a : E} : wp (sExpr a ρ S) Z = wp (a ρ S) fun _ S => Z (.nx, ρ) S := by
  unfold sExpr
  simp only [wp_bind, wp_ok]
theorem w_ret {a : E} : wp (sRet a ρ S) Z = wp (a ρ S) fun x S => Z (.rt x, ρ) S := by
  unfold sRet
  simp only [wp_bind, wp_ok]
theorem w_sif {t : T} {a b : St} : wp (sIf t a b ρ S) Z = wp (t ρ S) fun c S => if c = true then wp (a ρ S) Z else wp (b ρ S) Z := by
  unfold sIf
  simp only [wp_bind, wp_ite]
theorem w_break : wp (sBreak ρ S) Z = Z (.bk, ρ) S := wp_ok
theorem w_cont : wp (sCont ρ S) Z = Z (.ct, ρ) S := wp_ok
theorem w_sub {o i v : E} : wp (sSub o i v ρ S) Z = wp (v ρ S) fun x S => wp (o ρ S) fun a S => wp (i ρ S) fun k S => ∃ S1, setItem a k x S = some S1 ∧ Z (.nx, ρ) S1 := by
  unfold sSub
  simp only [wp_bind]
  congr
  funext x S
  congr
  funext a S
  congr
  funext k S
  cases setItem a k x S <;> simp [wp_ok, wp_bad]
theorem w_dct {o i v : E} : wp (sDct o i v ρ S) Z = wp (v ρ S) fun x S => wp (o ρ S) fun a S => wp (i ρ S) fun k S => ∃ S1, setDct a k x S = some S1 ∧ Z (.nx, ρ) S1 := by
  unfold sDct
  simp only [wp_bind]
  congr
  funext x S
  congr
  funext a S
  congr
  funext k S
  cases setDct a k x S <;> simp [wp_ok, wp_bad]
theorem w_fld {c f : Nat} {o v : E} : wp (sFld c f o v ρ S) Z = wp (v ρ S) fun x S => wp (o ρ S) fun a S => ∃ S1, setFld c f a x S = some S1 ∧ Z (.nx, ρ) S1 := by
  unfold sFld
  simp only [wp_bind]
  congr
  funext x S
  congr
  funext a S
  cases setFld c f a x S <;> simp [wp_ok, wp_bad]
theorem w_fn {n : Nat} {b : St} {xs : List D} : wp (fn n b xs S) P = (xs.length ≤ n ∧ wp (b (xs.map some ++ List.replicate (n - xs.length) none) S) fun r S => match r.1 with
    | .nx => P .non S
    | .rt d => P d S
    | _ => False) := by
  unfold fn
  split
  · rename_i c
    rw [wp_bind]
    simp only [c, true_and]
    congr
    funext r S
    cases r.1 <;> simp [wp_ok, wp_bad]
  · rename_i c
    simp [wp_bad, c]
theorem w_comp {i : I} {vs : List Nat} {g : G} {t : T} {e : E} : wp (eComp i vs g t e ρ S) P = wp (i ρ S) fun it S => wp (compLoop it g t e (wipe ρ vs) it.all S) fun ys S => ys.length ≤ LIM ∧ P (.ref S.length) (S ++ [.lst ys]) := by
  unfold eComp
  simp only [wp_bind]
  congr
  funext it S
  congr
  funext ys S
  split
  · rename_i c
    unfold alloc
    simp [wp_ok, c]
  · rename_i c
    simp [wp_bad, c]
theorem w_for {i : I} {g : G} {b : St} : wp (sFor i g b ρ S) Z = wp (i ρ S) fun it S => wp (forLoop it g b it.all ρ S) Z := wp_bind
theorem w_iseq {P : Iter → Sto → Prop} {a : E} : wp (iSeq a ρ S) P = wp (a ρ S) fun x S => ∃ ds, seqOf x S = some ds ∧ P ⟨chkOf x S, ds⟩ S := by
  unfold iSeq
  rw [wp_bind]
  congr
  funext x S
  cases seqOf x S <;> simp [wp_ok, wp_bad]
theorem w_range1 {P : Iter → Sto → Prop} {a : E} : wp (iRange1 a ρ S) P = wp (a ρ S) fun x S => ∃ j, x = .int j ∧ (-(2 ^ 62) ≤ j ∧ j < 2 ^ 62) ∧ P ⟨[], rangeD 0 j⟩ S := by
  unfold iRange1
  rw [wp_bind]
  congr
  funext x S
  cases x with
  | int j =>
    refine propext ⟨fun h => ?_, fun ⟨k, e, h, p⟩ => ?_⟩
    · dsimp only at h
      split at h
      · rename_i c; rw [wp_ok] at h; exact ⟨j, rfl, c, h⟩
      · rw [wp_bad] at h; exact h.elim
    · cases e
      dsimp only
      rw [if_pos h, wp_ok]
      exact p
  | _ => simp [wp_bad]
theorem w_enum {P : Iter → Sto → Prop} {a : E} : wp (iEnum a ρ S) P = wp (a ρ S) fun x S => ∃ ds, seqZ x S = some ds ∧ P ⟨chkOf x S, enumD 0 ds⟩ S := by
  unfold iEnum
  rw [wp_bind]
  congr
  funext x S
  cases seqZ x S <;> simp [wp_ok, wp_bad]
/-- a comprehension by its invariant: how many were walked, what is made, the store -/
theorem wp_loop {it : Iter} {g : G} {t : T} {e : E} (J : Nat → List D → Sto → Prop) (hs : ∀ k acc S, J k acc S → it.same S = true)
    (step : ∀ k x acc S, it.all[k]? = some x → J k acc S → ∃ ρ1, g x ρ = some ρ1 ∧ wp (t ρ1 S) fun b S1 => if b = true then wp (e ρ1 S1) fun y S2 => J (k + 1) (acc ++ [y]) S2 else J (k + 1) acc S1) (h0 : J 0 [] S) :
    wp (compLoop it g t e ρ it.all S) fun ys S' => J it.all.length ys S' := by
  have key : ∀ (xs : List D) (k : Nat) (acc : List D) (S : Sto), it.all = it.all.take k ++ xs → k + xs.length = it.all.length → J k acc S → wp (compLoop it g t e ρ xs S) fun ys S' => J it.all.length (acc ++ ys) S' := by
    intro xs
    induction xs with
    | nil =>
      intro k acc S e1 e2 h
      unfold compLoop
      rw [if_pos (hs _ _ _ h), wp_ok, List.append_nil]
      have : k = it.all.length := by simpa using e2
      rw [← this]
      exact h
    | cons x xs ih =>
      intro k acc S e1 e2 h
      have hx : it.all[k]? = some x := by
        have hk : (it.all.take k).length = k := by
          rw [List.length_take]
          rw [List.length_cons] at e2
          omega
        rw [e1, List.getElem?_append_right (by rw [hk]; exact Nat.le_refl _), hk, Nat.sub_self]
        rfl
      have e1' : it.all = it.all.take (k + 1) ++ xs := by
        rw [List.take_add_one, hx, List.append_assoc]
        exact e1
      obtain ⟨ρ1, eg, w⟩ := step k x acc S hx h
      unfold compLoop
      rw [if_pos (hs _ _ _ h), eg]
      simp only [wp_bind]
      refine wp_mono w fun b S1 w1 => ?_
      cases b with
      | true =>
        simp only [if_true] at w1 ⊢
        rw [wp_bind]
        refine wp_mono w1 fun y S2 j => ?_
        rw [wp_bind]
        refine wp_mono (ih (k + 1) _ S2 e1' (by rw [List.length_cons] at e2; omega) j) fun ys S3 j2 => ?_
        rw [wp_ok]
        rw [List.append_assoc] at j2
        exact j2
      | false =>
        simp only [Bool.false_eq_true, if_false] at w1 ⊢
        exact ih (k + 1) _ S1 e1' (by rw [List.length_cons] at e2; omega) w1
  exact key it.all 0 [] S (by simp) (by simp) h0
/-- a for by its invariant -/
theorem wp_for {it : Iter} {g : G} {b : St} (J : Nat → Env → Sto → Prop) (hs : ∀ k ρ S, J k ρ S → it.same S = true)
    (step : ∀ k x ρ S, it.all[k]? = some x → J k ρ S → ∃ ρ1, g x ρ = some ρ1 ∧ wp (b ρ1 S) fun r S1 => match r.1 with
      | .nx => J (k + 1) r.2 S1
      | .ct => J (k + 1) r.2 S1
      | .bk => Z (.nx, r.2) S1
      | .rt d => Z (.rt d, r.2) S1) (h0 : J 0 ρ S) (hd : ∀ ρ S, J it.all.length ρ S → Z (.nx, ρ) S) : wp (forLoop it g b it.all ρ S) Z := by
  have key : ∀ (xs : List D) (k : Nat) (ρ : Env) (S : Sto), it.all = it.all.take k ++ xs → k + xs.length = it.all.length → J k ρ S → wp (forLoop it g b xs ρ S) Z := by
    intro xs
    induction xs with
    | nil =>
      intro k ρ S e1 e2 h
      unfold forLoop
      rw [if_pos (hs _ _ _ h), wp_ok]
      have : k = it.all.length := by simpa using e2
      rw [this] at h
      exact hd _ _ h
    | cons x xs ih =>
      intro k ρ S e1 e2 h
      have hx : it.all[k]? = some x := by
        have hk : (it.all.take k).length = k := by
          rw [List.length_take]
          rw [List.length_cons] at e2
          omega
        rw [e1, List.getElem?_append_right (by rw [hk]; exact Nat.le_refl _), hk, Nat.sub_self]
        rfl
      have e1' : it.all = it.all.take (k + 1) ++ xs := by
        rw [List.take_add_one, hx, List.append_assoc]
        exact e1
      obtain ⟨ρ1, eg, w⟩ := step k x ρ S hx h
      unfold forLoop
      rw [if_pos (hs _ _ _ h), eg]
      simp only [wp_bind]
      refine wp_mono w fun r S1 w1 => ?_
      have el : k + 1 + xs.length = it.all.length := by rw [List.length_cons] at e2; omega
      split at w1
      · rename_i er; (try rw [er]); exact ih (k + 1) _ S1 e1' el w1
      · rename_i er; (try rw [er]); exact ih (k + 1) _ S1 e1' el w1
      · rename_i er; (try rw [er]); (try simp only [wp_ok]); exact w1
      · rename_i er; (try rw [er]); (try simp only [wp_ok]); exact w1
  exact key it.all 0 ρ S (by simp) (by simp) h0
/-- a while by its invariant J and measure -/
theorem wp_while {t : T} {b : St} (J : Nat → Env → Sto → Prop) (n : Nat) (hn : n < TURNS)
    (step : ∀ m ρ S, J m ρ S → wp (t ρ S) fun c S1 => if c = true then wp (b ρ S1) fun r S2 => match r.1 with
      | .nx => ∃ m', m' < m ∧ J m' r.2 S2
      | .ct => ∃ m', m' < m ∧ J m' r.2 S2
      | .bk => Z (.nx, r.2) S2
      | .rt d => Z (.rt d, r.2) S2 else Z (.nx, ρ) S1) (h0 : J n ρ S) : wp (sWhile t b ρ S) Z := by
  have key : ∀ (f m : Nat) (ρ : Env) (S : Sto), m < f → J m ρ S → wp (whileLoop t b f ρ S) Z := by
    intro f
    induction f with
    | zero => intro m ρ S h; omega
    | succ f ih =>
      intro m ρ S hm h
      unfold whileLoop
      rw [wp_bind]
      refine wp_mono (step m ρ S h) fun c S1 w => ?_
      cases c with
      | false =>
        simp only [Bool.false_eq_true, if_false] at w ⊢
        rw [wp_ok]
        exact w
      | true =>
        simp only [if_true] at w ⊢
        rw [wp_bind]
        refine wp_mono w fun r S2 w2 => ?_
        split at w2
        · rename_i er; (try rw [er]); obtain ⟨m', lt, j⟩ := w2; exact ih m' _ S2 (by omega) j
        · rename_i er; (try rw [er]); obtain ⟨m', lt, j⟩ := w2; exact ih m' _ S2 (by omega) j
        · rename_i er; (try rw [er]); (try simp only [wp_ok]); exact w2
        · rename_i er; (try rw [er]); (try simp only [wp_ok]); exact w2
  exact key TURNS n ρ S hn h0
end
/-- all but W as it was, more may stand behind -/
structure Keep (W : List Nat) (S S' : Sto) : Prop where
  len : S.length ≤ S'.length
  get : ∀ i, i < S.length → i ∉ W → S'[i]? = S[i]?
section
variable {W W' : List Nat} {S S' S2 U : Sto} {n i : Nat} {o u : MO}
theorem Keep.refl : Keep W S S := ⟨Nat.le_refl _, fun _ _ _ => rfl⟩
theorem Keep.trans (a : Keep W S S') (b : Keep W S' S2) : Keep W S S2 :=
  ⟨Nat.le_trans a.len b.len, fun i h n => (b.get i (Nat.lt_of_lt_of_le h a.len) n).trans (a.get i h n)⟩
theorem Keep.mono (a : Keep W S S') (h : ∀ i, i < S.length → i ∈ W → i ∈ W') : Keep W' S S' := ⟨a.len, fun i l n => a.get i l fun m => n (h i l m)⟩
theorem Keep.all (a : Keep [] S S') : Keep W S S' := a.mono fun _ _ m => nomatch m
theorem Keep.app : Keep W S (S ++ U) := ⟨by simp, fun i h _ => List.getElem?_append_left h⟩
theorem Keep.set (h : n ∈ W) : Keep W S (S.set n o) := ⟨by simp, fun i _ m => List.getElem?_set_ne fun e => m (by rw [← e]; exact h)⟩
theorem lt_of_get (h : S[i]? = some o) : i < S.length := (List.getElem?_eq_some_iff.mp h).1
theorem Keep.at (a : Keep W S S') (h : S[i]? = some o) (n : i ∉ W) : S'[i]? = some o := (a.get i (lt_of_get h) n).trans h
theorem get_app (h : S[i]? = some o) : (S ++ U)[i]? = some o := by rw [List.getElem?_append_left (lt_of_get h)]; exact h
theorem get_last : (S ++ [o])[S.length]? = some o := by simp
theorem get_set (h : i < S.length) : (S.set i o)[i]? = some o := by simp [h]
theorem get_ne (h : S[i]? = some o) (ne : n ≠ i) : (S.set n u)[i]? = some o := by rw [List.getElem?_set_ne ne]; exact h
/-- what is made behind is no old one -/
theorem Keep.new (a : Keep W S S') (h : ∀ i ∈ W, S.length ≤ i) : Keep [] S S' := a.mono fun i l m => absurd l (Nat.not_lt_of_le (h i m))
theorem lstOf_lst {ds : List D} (h : S[n]? = some (.lst ds)) : lstOf n S = some ds := by unfold lstOf; rw [h]
theorem wrOf_lst {ds : List D} (h : S[n]? = some (.lst ds)) : wrOf n S = some ds := by unfold wrOf; rw [h]
theorem insOf_ins {c : Nat} {fs : List (Nat × D)} (h : S[n]? = some (.ins c fs)) : insOf c n S = some fs := by unfold insOf; rw [h]; simp
end
section
variable {S : Sto} {P : D → Sto → Prop}
theorem w_add {i j : Int} : wp (gAdd (.int i) (.int j) S) P = P (.int (i + j)) S := wp_ok
theorem w_sub2 {i j : Int} : wp (gSub (.int i) (.int j) S) P = P (.int (i - j)) S := wp_ok
theorem w_mul {i j : Int} (h : (-(2 ^ 64) < i ∧ i < 2 ^ 64) ∨ (-(2 ^ 64) < j ∧ j < 2 ^ 64)) : wp (gMul (.int i) (.int j) S) P = P (.int (i * j)) S := by
  unfold gMul
  simp only [if_pos h, wp_ok]
theorem w_fdiv {i j : Int} (h : 0 < j ∧ j < 1073741824) : wp (gFdiv (.int i) (.int j) S) P = P (.int (i / j)) S := by
  unfold gFdiv
  simp only [if_pos h, wp_ok]
theorem w_mod {i j : Int} (h : 0 < j) : wp (gMod (.int i) (.int j) S) P = P (.int (i % j)) S := by
  unfold gMod
  simp only [if_pos h, wp_ok]
theorem w_neg {i : Int} : wp (gNeg (.int i) S) P = P (.int (-i)) S := wp_ok
theorem w_lt {i j : Int} : wp (gLt (.int i) (.int j) S) P = P (.bl (decide (i < j))) S := wp_ok
theorem w_le {i j : Int} : wp (gLe (.int i) (.int j) S) P = P (.bl (decide (i ≤ j))) S := wp_ok
theorem w_gt {i j : Int} : wp (gGt (.int i) (.int j) S) P = P (.bl (decide (j < i))) S := wp_ok
theorem w_ge {i j : Int} : wp (gGe (.int i) (.int j) S) P = P (.bl (decide (j ≤ i))) S := wp_ok
theorem w_eqS {i j : List Nat} : wp (gEq (.str i) (.str j) S) P = P (.bl (i == j)) S := wp_ok
theorem w_neS {i j : List Nat} : wp (gNe (.str i) (.str j) S) P = P (.bl (!(i == j))) S := wp_ok
theorem w_eq {x y : D} {b : Bool} (h : eqF S x y = some b) : wp (gEq x y S) P = P (.bl b) S := by unfold gEq; simp only [h, wp_ok]
theorem w_ne {x y : D} {b : Bool} (h : eqF S x y = some b) : wp (gNe x y S) P = P (.bl (!b)) S := by unfold gNe; simp only [h, wp_ok]
theorem w_isN {x : D} : wp (gIsN x S) P = P (.bl (decide (x = .non))) S := wp_ok
theorem w_notN {x : D} : wp (gNotN x S) P = P (.bl (!decide (x = .non))) S := wp_ok
theorem w_is {k : Kind} {x : D} {b : Bool} (h : isK k x S = some b) : wp (gIs k x S) P = P (.bl b) S := by unfold gIs; simp only [h, wp_ok]
theorem w_ixT {ds : List D} {i : Int} {d : D} (h : at? ds i = some d) : wp (gIx (.tup ds) (.int i) S) P = P d S := by unfold gIx; simp only [h, wp_ok]
theorem w_ixL {n : Nat} {ds : List D} {i : Int} {d : D} (h : lstOf n S = some ds) (h2 : at? ds i = some d) : wp (gIx (.ref n) (.int i) S) P = P d S := by unfold gIx; simp only [h, h2, wp_ok]
theorem w_ixS {s : List Nat} {i : Int} {c : Nat} (hl : s.length ≤ LIM) (h : at? s i = some c) : wp (gIx (.str s) (.int i) S) P = P (.str [c]) S := by unfold gIx; simp only [if_pos hl, h, wp_ok]
theorem w_dx {n : Nat} {kvs : List (D × D)} {k d : D} (h : dicOf n S = some kvs) (hk : keyOk k = true) (h2 : dget kvs k = some d) : wp (gDx (.ref n) k S) P = P d S := by unfold gDx; simp only [h, hk, h2, if_true, wp_ok]
theorem w_in {x y : D} {b : Bool} (h : inB x y S = some b) : wp (gIn x y S) P = P (.bl b) S := by unfold gIn; simp only [h, wp_ok]
theorem w_notIn {x y : D} {b : Bool} (h : inB x y S = some b) : wp (gNotIn x y S) P = P (.bl (!b)) S := by unfold gNotIn; simp only [h, wp_ok]
theorem w_gfld {c f n : Nat} {fs : List (Nat × D)} {d : D} (h : insOf c n S = some fs) (h2 : fget fs f = some d) : wp (gFld c f (.ref n) S) P = P d S := by unfold gFld; simp only [h, h2, wp_ok]
theorem w_lenT {ds : List D} : wp (fLen [.tup ds] S) P = P (.int ds.length) S := wp_ok
theorem w_lenL {n : Nat} {ds : List D} (h : lstOf n S = some ds) : wp (fLen [.ref n] S) P = P (.int ds.length) S := by unfold fLen; simp only [h, wp_ok]
theorem w_intB {b : Bool} : wp (fInt [.bl b] S) P = P (.int (b2i b)) S := wp_ok
theorem w_min2 {i j : Int} : wp (fMin [.int i, .int j] S) P = P (.int (if j < i then j else i)) S := wp_ok
theorem w_max2 {i j : Int} : wp (fMax [.int i, .int j] S) P = P (.int (if j > i then j else i)) S := wp_ok
theorem w_listOf {d : D} {ds : List D} (h : seqOf d S = some ds) : wp (fList [d] S) P = P (.ref S.length) (S ++ [.lst ds]) := by unfold fList; simp only [h, alloc, wp_ok]
theorem w_tupOf {d : D} {ds : List D} (h : seqOf d S = some ds) : wp (fTuple [d] S) P = P (.tup ds) S := by unfold fTuple; simp only [h, wp_ok]
theorem at0 {α : Type} {xs : List α} : at? xs 0 = xs[0]? := by
  unfold at? ixN
  cases xs with
  | nil => simp
  | cons x xs => simp
theorem at_nat {α : Type} {xs : List α} {n : Nat} : at? xs (n : Int) = xs[n]? := by
  unfold at? ixN
  by_cases h : n < xs.length
  · simp [h]
  · simp [h]
theorem at_lit {α : Type} {xs : List α} (n : Nat) (i : Int) (h : i = (n : Int)) : at? xs i = xs[n]? := by subst h; exact at_nat
end
end PF
end
section
set_option linter.all false
set_option autoImplicit false
set_option maxRecDepth 100003
namespace PF
/-- there is one, and so on with it -/
def on {α : Type} (o : Option α) (k : α → Prop) : Prop := ∃ a, o = some a ∧ k a
theorem on_some {α : Type} {a : α} {k : α → Prop} : on (some a) k = k a := propext ⟨fun ⟨b, e, h⟩ => by cases e; exact h, fun h => ⟨a, rfl, h⟩⟩
theorem on_none {α : Type} {k : α → Prop} : on (none : Option α) k = False := propext ⟨fun ⟨b, e, h⟩ => (nomatch e), fun h => h.elim⟩
theorem ex_bl {c : Bool} {k : Bool → Prop} : (∃ d, D.bl c = .bl d ∧ k d) = k c := propext ⟨fun ⟨d, e, h⟩ => by cases e; exact h, fun h => ⟨c, rfl, h⟩⟩
theorem ex_int {c : Int} {k : Int → Prop} : (∃ d, D.int c = .int d ∧ k d) = k c := propext ⟨fun ⟨d, e, h⟩ => by cases e; exact h, fun h => ⟨c, rfl, h⟩⟩
section
variable {S : Sto} {ρ : Env} {P : D → Sto → Prop}
theorem v_var {i : Nat} : wp (eVar i ρ S) P = on ρ[i]? fun o => on o fun d => P d S := by
  cases h : ρ[i]? with
  | none => unfold eVar; rw [h, on_none]; exact wp_bad
  | some o =>
    cases o with
    | none => unfold eVar; rw [h, on_some, on_none]; exact wp_bad
    | some d => rw [w_var h, on_some, on_some]
theorem v_asg {Z : Fl × Env → Sto → Prop} {g : G} {a : E} : wp (sAsg g a ρ S) Z = wp (a ρ S) fun x S => on (g x ρ) fun ρ1 => Z (.nx, ρ1) S := w_asg
theorem v_par {Z : Fl × Env → Sto → Prop} {is : List Nat} {a : A} : wp (sPar is a ρ S) Z = wp (a ρ S) fun xs S => on (setAll is xs ρ) fun ρ1 => Z (.nx, ρ1) S := w_par
theorem v_sub {Z : Fl × Env → Sto → Prop} {o i v : E} : wp (sSub o i v ρ S) Z = wp (v ρ S) fun x S => wp (o ρ S) fun a S => wp (i ρ S) fun k S => on (setItem a k x S) fun S1 => Z (.nx, ρ) S1 := w_sub
theorem v_dct {Z : Fl × Env → Sto → Prop} {o i v : E} : wp (sDct o i v ρ S) Z = wp (v ρ S) fun x S => wp (o ρ S) fun a S => wp (i ρ S) fun k S => on (setDct a k x S) fun S1 => Z (.nx, ρ) S1 := w_dct
theorem v_fld {Z : Fl × Env → Sto → Prop} {c f : Nat} {o v : E} : wp (sFld c f o v ρ S) Z = wp (v ρ S) fun x S => wp (o ρ S) fun a S => on (setFld c f a x S) fun S1 => Z (.nx, ρ) S1 := w_fld
theorem v_ixT {ds : List D} {i : Int} : wp (gIx (.tup ds) (.int i) S) P = on (at? ds i) fun d => P d S := by
  cases h : at? ds i with
  | none => unfold gIx; simp only [h, wp_bad, on_none]
  | some d => rw [w_ixT h, on_some]
theorem v_ixL {n : Nat} {i : Int} : wp (gIx (.ref n) (.int i) S) P = on (lstOf n S) fun ds => on (at? ds i) fun d => P d S := by
  cases h : lstOf n S with
  | none => unfold gIx; simp only [h, wp_bad, on_none]
  | some ds =>
    cases h2 : at? ds i with
    | none => unfold gIx; simp only [h, h2, wp_bad, on_none, on_some]
    | some d => rw [w_ixL h h2, on_some, h2, on_some]
theorem v_ixS {s : List Nat} {i : Int} (hl : s.length ≤ LIM) : wp (gIx (.str s) (.int i) S) P = on (at? s i) fun c => P (.str [c]) S := by
  cases h : at? s i with
  | none => unfold gIx; simp only [h, if_pos hl, wp_bad, on_none]
  | some d => rw [w_ixS hl h, on_some]
theorem v_dx {n : Nat} {k : D} (hk : keyOk k = true) : wp (gDx (.ref n) k S) P = on (dicOf n S) fun kvs => on (dget kvs k) fun d => P d S := by
  cases h : dicOf n S with
  | none => unfold gDx; simp only [h, wp_bad, on_none]
  | some kvs =>
    cases h2 : dget kvs k with
    | none => unfold gDx; simp only [h, h2, hk, if_true, wp_bad, on_none, on_some]
    | some d => rw [w_dx h hk h2, on_some, h2, on_some]
theorem v_eq {x y : D} : wp (gEq x y S) P = on (eqF S x y) fun b => P (.bl b) S := by
  cases h : eqF S x y with
  | none => unfold gEq; simp only [h, wp_bad, on_none]
  | some b => rw [w_eq h, on_some]
theorem v_ne {x y : D} : wp (gNe x y S) P = on (eqF S x y) fun b => P (.bl (!b)) S := by
  cases h : eqF S x y with
  | none => unfold gNe; simp only [h, wp_bad, on_none]
  | some b => rw [w_ne h, on_some]
theorem v_is {k : Kind} {x : D} : wp (gIs k x S) P = on (isK k x S) fun b => P (.bl b) S := by
  cases h : isK k x S with
  | none => unfold gIs; simp only [h, wp_bad, on_none]
  | some b => rw [w_is h, on_some]
theorem v_in {x y : D} : wp (gIn x y S) P = on (inB x y S) fun b => P (.bl b) S := by
  cases h : inB x y S with
  | none => unfold gIn; simp only [h, wp_bad, on_none]
  | some b => rw [w_in h, on_some]
theorem v_notIn {x y : D} : wp (gNotIn x y S) P = on (inB x y S) fun b => P (.bl (!b)) S := by
  cases h : inB x y S with
  | none => unfold gNotIn; simp only [h, wp_bad, on_none]
  | some b => rw [w_notIn h, on_some]
theorem v_gfld {c f n : Nat} : wp (gFld c f (.ref n) S) P = on (insOf c n S) fun fs => on (fget fs f) fun d => P d S := by
  cases h : insOf c n S with
  | none => unfold gFld; simp only [h, wp_bad, on_none]
  | some fs =>
    cases h2 : fget fs f with
    | none => unfold gFld; simp only [h, h2, wp_bad, on_none, on_some]
    | some d => rw [w_gfld h h2, on_some, h2, on_some]
theorem v_lenL {n : Nat} : wp (fLen [.ref n] S) P = on (lstOf n S) fun ds => P (.int ds.length) S := by
  cases h : lstOf n S with
  | none => unfold fLen; simp only [h, wp_bad, on_none]
  | some ds => rw [w_lenL h, on_some]
theorem v_lenS {s : List Nat} : wp (fLen [.str s] S) P = (s.length ≤ LIM ∧ P (.int s.length) S) := by
  unfold fLen
  by_cases h : s.length ≤ LIM
  · simp [h, wp_ok]
  · simp [h, wp_bad]
theorem v_listOf {d : D} : wp (fList [d] S) P = on (seqOf d S) fun ds => P (.ref S.length) (S ++ [.lst ds]) := by
  cases h : seqOf d S with
  | none => unfold fList; simp only [h, wp_bad, on_none]
  | some ds => rw [w_listOf h, on_some]
theorem v_tupOf {d : D} : wp (fTuple [d] S) P = on (seqOf d S) fun ds => P (.tup ds) S := by
  cases h : seqOf d S with
  | none => unfold fTuple; simp only [h, wp_bad, on_none]
  | some ds => rw [w_tupOf h, on_some]
theorem v_iseq {P : Iter → Sto → Prop} {a : E} : wp (iSeq a ρ S) P = wp (a ρ S) fun x S => on (seqOf x S) fun ds => P ⟨chkOf x S, ds⟩ S := w_iseq
theorem v_range1 {P : Iter → Sto → Prop} {a : E} : wp (iRange1 a ρ S) P = wp (a ρ S) fun x S => ∃ j, x = .int j ∧ (-(2 ^ 62) ≤ j ∧ j < 2 ^ 62) ∧ P ⟨[], rangeD 0 j⟩ S := w_range1
theorem v_enum {P : Iter → Sto → Prop} {a : E} : wp (iEnum a ρ S) P = wp (a ρ S) fun x S => on (seqZ x S) fun ds => P ⟨chkOf x S, enumD 0 ds⟩ S := w_enum
theorem v_m1 {g : D → D → M D} {o a : E} : wp (eM1 g o a ρ S) P = wp (o ρ S) fun x S => isL x S = true ∧ wp (a ρ S) fun y S => wp (g x y S) P := by
  unfold eM1
  rw [wp_bind]
  congr
  funext x S
  by_cases h : isL x S = true
  · simp [h, wp_bind]
  · simp [h, wp_bad]
theorem v_append {n : Nat} {v : D} : wp (mAppend (.ref n) v S) P = on (wrOf n S) fun ds => ds.length < LIM ∧ P .non (S.set n (.lst (ds ++ [v]))) := by
  unfold mAppend
  cases h : wrOf n S with
  | none => simp only [h, on_none, wp_bad]
  | some ds =>
    by_cases c : ds.length < LIM
    · simp only [h, on_some, c, if_true, true_and, wp_ok]
    · simp only [h, on_some, c, if_false, false_and, wp_bad]
theorem v_pop0 {n : Nat} : wp (mPop (.ref n) (.int 0) S) P = on (wrOf n S) fun ds => on ds[0]? fun d => P d (S.set n (.lst (ds.eraseIdx 0))) := by
  unfold mPop
  cases h : wrOf n S with
  | none => simp only [h, on_none, wp_bad]
  | some ds =>
    have c : (0 : Int) ≤ 0 ∧ (0 : Int) < 2 ^ 62 := by decide
    have z : (Int.toNat 0) = 0 := rfl
    cases h2 : ds[0]? with
    | none => simp only [h, on_some, on_none, c, z, h2, wp_bad, if_true, and_self]
    | some d => simp only [h, on_some, c, z, h2, wp_ok, if_true, and_self]
theorem v_meth {c : Nat} {f : Fn} {o : E} {a : A} : wp (eMeth c f o a ρ S) P = wp (o ρ S) fun x S => ∃ n, x = .ref n ∧ on (insOf c n S) fun _ => wp (a ρ S) fun xs S => wp (f (.ref n :: xs) S) P := by
  unfold eMeth
  rw [wp_bind]
  congr
  funext x S
  cases x with
  | ref n =>
    refine propext ⟨fun h => ⟨n, rfl, ?_⟩, fun ⟨m, e, h⟩ => ?_⟩
    · cases e : insOf c n S with
      | none => simp [e, wp_bad] at h
      | some fs => simp only [e, wp_bind] at h; rw [on_some]; exact h
    · cases e
      cases e : insOf c n S with
      | none => rw [e, on_none] at h; exact h.elim
      | some fs => rw [e, on_some] at h; simp only [e, wp_bind]; exact h
  | _ => simp [wp_bad]
theorem ex_ref {n : Nat} {k : Nat → Prop} : (∃ m, D.ref n = .ref m ∧ k m) = k n := propext ⟨fun ⟨d, e, h⟩ => by cases e; exact h, fun h => ⟨n, rfl, h⟩⟩
theorem v_make {c : Nat} {f : Fn} {a : A} : wp (eMake c f a ρ S) P = wp (a ρ S) fun xs S => wp (f (.ref S.length :: xs) (S ++ [.ins c []])) fun r S1 => r = .non ∧ P (.ref S.length) S1 := by
  unfold eMake
  simp only [wp_bind]
  congr
  funext xs S
  congr
  funext r S1
  by_cases h : r = .non
  · simp [h, wp_ok]
  · simp [h, wp_bad]
theorem v_setItem {n : Nat} {k : Int} {x : D} {K : Sto → Prop} : on (setItem (.ref n) (.int k) x S) K = on (wrOf n S) fun ds => on (ixN ds.length k) fun j => K (S.set n (.lst (ds.set j x))) := by
  unfold setItem
  cases h : wrOf n S with
  | none => simp only [h, on_none]
  | some ds =>
    cases h2 : ixN ds.length k with
    | none => simp only [h, on_none, on_some, h2]
    | some j => simp only [h, on_some, h2]
theorem v_setFld {c f n : Nat} {x : D} {K : Sto → Prop} : on (setFld c f (.ref n) x S) K = on (insOf c n S) fun fs => fs.length < 100 ∧ K (S.set n (.ins c (fput fs f x))) := by
  unfold setFld
  cases h : insOf c n S with
  | none => simp only [h, on_none]
  | some fs =>
    by_cases c : fs.length < 100
    · simp only [h, on_some, c, if_true, true_and]
    · simp only [h, on_some, on_none, c, if_false, false_and]
theorem v_kget {t : List (D × D)} {k : List Nat} {v : D} : wp (kGet t (.str k) v S) P = P ((dget t (.str k)).getD v) S := wp_ok
theorem v_upd {o a : E} : wp (eUpd o a ρ S) P = wp (o ρ S) fun x S => ∃ n, x = .ref n ∧ on (dicOf n S) fun _ => wp (a ρ S) fun y S => wp (mUpdate (.ref n) y S) P := by
  unfold eUpd
  rw [wp_bind]
  congr
  funext x S
  cases x with
  | ref n =>
    refine propext ⟨fun h => ⟨n, rfl, ?_⟩, fun ⟨m, e, h⟩ => ?_⟩
    · cases e : dicOf n S with
      | none => simp [e, wp_bad] at h
      | some fs => simp only [e, wp_bind] at h; rw [on_some]; exact h
    · cases e
      cases e : dicOf n S with
      | none => rw [e, on_none] at h; exact h.elim
      | some fs => rw [e, on_some] at h; simp only [e, wp_bind]; exact h
  | _ => simp [wp_bad]
theorem ixN_lit {m : Nat} (n : Nat) (i : Int) (h : i = (n : Int)) (hn : n < m) : ixN m i = some n := by
  subst h
  unfold ixN
  simp [hn]
end
section
variable {S U : Sto} {n i : Nat} {o u : MO} {ds : List D}
theorem lstOf_app (h : S[n]? = some (.lst ds)) : lstOf n (S ++ U) = some ds := lstOf_lst (get_app h)
theorem lstOf_len {xs : List MO} : lstOf S.length (S ++ xs) = lstOf 0 xs := by
  unfold lstOf
  rw [List.getElem?_append_right (Nat.le_refl _), Nat.sub_self]
theorem lstOf_0 {xs : List MO} : lstOf 0 (.lst ds :: xs) = some ds := rfl
theorem wrOf_app (h : S[n]? = some (.lst ds)) : wrOf n (S ++ U) = some ds := wrOf_lst (get_app h)
theorem isL_lst (h : S[n]? = some (.lst ds)) : isL (.ref n) S = true := by
  show (wrOf n S).isSome = true
  rw [wrOf_lst h]
  rfl
end
theorem w_mulR {S : Sto} {P : D → Sto → Prop} {i : Int} (j : Int) (h : -(2 ^ 64) < j ∧ j < 2 ^ 64) : wp (gMul (.int i) (.int j) S) P = P (.int (i * j)) S := w_mul (.inr h)
theorem eqF_int {S : Sto} {i j : Int} : eqF S (.int i) (.int j) = some (i == j) := rfl
theorem eqF_str {S : Sto} {i j : List Nat} : eqF S (.str i) (.str j) = some (i == j) := rfl
theorem eqF_bl {S : Sto} {i j : Bool} : eqF S (.bl i) (.bl j) = some (i == j) := rfl
theorem kd_tup_tup : (Kind.tup == Kind.tup) = true := rfl
theorem kd_tup_int : (Kind.tup == Kind.int) = false := rfl
theorem kd_tup_bool : (Kind.tup == Kind.bool) = false := rfl
theorem kd_tup_str : (Kind.tup == Kind.str) = false := rfl
theorem kd_tup_lst : (Kind.tup == Kind.lst) = false := rfl
theorem kd_int_tup : (Kind.int == Kind.tup) = false := rfl
theorem kd_int_int : (Kind.int == Kind.int) = true := rfl
theorem kd_int_bool : (Kind.int == Kind.bool) = false := rfl
theorem kd_int_str : (Kind.int == Kind.str) = false := rfl
theorem kd_int_lst : (Kind.int == Kind.lst) = false := rfl
theorem kd_bool_tup : (Kind.bool == Kind.tup) = false := rfl
theorem kd_bool_int : (Kind.bool == Kind.int) = false := rfl
theorem kd_bool_bool : (Kind.bool == Kind.bool) = true := rfl
theorem kd_bool_str : (Kind.bool == Kind.str) = false := rfl
theorem kd_bool_lst : (Kind.bool == Kind.lst) = false := rfl
theorem kd_str_tup : (Kind.str == Kind.tup) = false := rfl
theorem kd_str_int : (Kind.str == Kind.int) = false := rfl
theorem kd_str_bool : (Kind.str == Kind.bool) = false := rfl
theorem kd_str_str : (Kind.str == Kind.str) = true := rfl
theorem kd_str_lst : (Kind.str == Kind.lst) = false := rfl
theorem kd_lst_tup : (Kind.lst == Kind.tup) = false := rfl
theorem kd_lst_int : (Kind.lst == Kind.int) = false := rfl
theorem kd_lst_bool : (Kind.lst == Kind.bool) = false := rfl
theorem kd_lst_str : (Kind.lst == Kind.str) = false := rfl
theorem kd_lst_lst : (Kind.lst == Kind.lst) = true := rfl
theorem isK_non {k : Kind} {S : Sto} : isK k .non S = some false := rfl
theorem isK_bl {k : Kind} {b : Bool} {S : Sto} : isK k (.bl b) S = some (k == .bool || k == .int) := rfl
theorem isK_int {k : Kind} {b : Int} {S : Sto} : isK k (.int b) S = some (k == .int) := rfl
theorem isK_str {k : Kind} {b : List Nat} {S : Sto} : isK k (.str b) S = some (k == .str) := rfl
theorem isK_tup {k : Kind} {b : List D} {S : Sto} : isK k (.tup b) S = some (k == .tup) := rfl
theorem isK_ref {k : Kind} {n : Nat} {S : Sto} {ds : List D} (h : lstOf n S = some ds) : isK k (.ref n) S = some (k == .lst) := by unfold isK; simp only [h]
/-- what changes is not among the old ones -/
theorem Keep.past {S S' S2 : Sto} {V W : List Nat} (a : Keep V S S') (b : Keep W S' S2) (h : ∀ i ∈ W, S.length ≤ i) : Keep V S S2 :=
  ⟨Nat.le_trans a.len b.len, fun i l n => (b.get i (Nat.lt_of_lt_of_le l a.len) fun m => Nat.not_lt_of_le (h i m) l).trans (a.get i l n)⟩
end PF
end
local macro_rules | `(tactic| simp_arith [$ls,*]) => `(tactic| try simp only [PF.wp_ok, PF.wp_ite, PF.v_var, PF.w_c, PF.w_e1, PF.w_e2, PF.w_nil, PF.w_cons, PF.w_tup, PF.w_lst, PF.w_call, PF.w_if, PF.w_te, PF.w_and, PF.w_or, PF.w_not, PF.w_tand, PF.w_tor, PF.w_tnot, PF.w_tyes, PF.w_chain, PF.w_next, PF.w_seq, PF.w_set, PF.v_asg, PF.v_par, PF.w_expr, PF.w_ret, PF.w_sif, PF.w_break, PF.w_cont, PF.v_sub, PF.v_dct, PF.v_fld, PF.w_fn, PF.w_comp, PF.w_for, PF.v_iseq, PF.v_range1, PF.v_enum, PF.v_m1, PF.v_append, PF.v_pop0, PF.v_meth, PF.v_make, PF.v_upd, PF.w_add, PF.w_sub2, PF.w_neg, PF.w_lt, PF.w_le, PF.w_gt, PF.w_ge, PF.v_ixT, PF.v_ixL, PF.v_lenL, PF.w_lenT, PF.w_intB, PF.w_min2, PF.w_max2, PF.v_listOf, PF.v_tupOf, PF.v_gfld, PF.v_setItem, PF.v_setFld, PF.v_kget, PF.w_isN, PF.w_notN, PF.v_is, PF.v_eq, PF.v_ne, PF.eqF_int, PF.eqF_str, PF.eqF_bl, PF.ex_bl, PF.ex_int, PF.ex_ref, PF.on_some, PF.on_none, List.getElem?_cons_zero, List.getElem?_cons_succ, List.set_cons_zero, List.set_cons_succ, List.map_cons, List.map_nil, List.length_cons, List.length_nil, Nat.reduceAdd, Nat.reduceSub, Nat.reduceLeDiff, Nat.reduceLT, Nat.zero_add, List.replicate_succ, List.replicate_zero, List.cons_append, List.nil_append, true_and, and_true, PF.setAll, PF.gName, PF.gTup, PF.wipe, PF.isK_non, PF.isK_bl, PF.isK_int, PF.isK_str, PF.isK_tup, Bool.or_false, Bool.or_true, Bool.false_or, Bool.true_or, Bool.and_false, Bool.and_true, Bool.false_and, Bool.true_and, Int.reduceBEq, Int.reduceLT, Int.reduceLE, Int.reduceAdd, Int.reduceSub, Int.reduceNeg, decide_true, decide_false, Int.cast_ofNat_Int, beq_self_eq_true, PF.kd_tup_tup, PF.kd_tup_int, PF.kd_tup_bool, PF.kd_tup_str, PF.kd_tup_lst, PF.kd_int_tup, PF.kd_int_int, PF.kd_int_bool, PF.kd_int_str, PF.kd_int_lst, PF.kd_bool_tup, PF.kd_bool_int, PF.kd_bool_bool, PF.kd_bool_str, PF.kd_bool_lst, PF.kd_str_tup, PF.kd_str_int, PF.kd_str_bool, PF.kd_str_str, PF.kd_str_lst, PF.kd_lst_tup, PF.kd_lst_int, PF.kd_lst_bool, PF.kd_lst_str, PF.kd_lst_lst, PF.seqOf, if_true, Bool.false_eq_true, if_false, Bool.not_true, Bool.not_false, $ls,*])
section
set_option linter.all false
set_option autoImplicit false
set_option maxRecDepth 100003
namespace PG
open PF
theorem tree_int {S : Sto} {n : Nat} {i : Int} : tree S n (.int i) = some (.int i) := by cases n <;> simp only [tree]
theorem tree_ints {S : Sto} {n : Nat} : ∀ L : List Int, allSome (tree S n) (L.map D.int) = some (L.map J.int)
  | [] => rfl
  | i :: L => by simp only [List.map_cons, allSome, tree_int, tree_ints L]
theorem tree_lst {S : Sto} {n k : Nat} {L : List Int} (h : lstOf k S = some (L.map .int)) : tree S (n + 1) (.ref k) = some (.lst (L.map J.int)) := by
  simp only [tree, h, tree_ints]
theorem eqvs_ints : ∀ L M : List Int, J.eqvs (L.map J.int) (M.map J.int) = (L == M)
  | [], [] => rfl
  | [], _ :: _ => rfl
  | _ :: _, [] => rfl
  | i :: L, j :: M => by
    show (J.eqv (.int i) (.int j) && J.eqvs (L.map J.int) (M.map J.int)) = _
    rw [eqvs_ints L M]
    rfl
theorem eq_ints {S : Sto} {a b : Nat} {L M : List Int} (ha : lstOf a S = some (L.map .int)) (hb : lstOf b S = some (M.map .int)) : eqF S (.ref a) (.ref b) = some (L == M) := by
  show eqT S (.ref a) (.ref b) = _
  unfold eqT
  rw [show EQD = 39 + 1 from rfl, tree_lst ha, tree_lst hb]
  show some (J.eqvs _ _) = _
  rw [eqvs_ints]
/-- the box at b: its list at q, its number -/
def Box (b q : Nat) (S : Sto) : Prop := b ≠ q ∧ ∃ (L : List Int) (st : Int), S[b]? = some (.lst [.ref q, .int st]) ∧ S[q]? = some (.lst (L.map .int)) ∧ L.length ≤ 63
theorem Box.keep {b q : Nat} {S S' : Sto} {W : List Nat} (h : Box b q S) (k : Keep W S S') (hb : b ∉ W) (hq : q ∉ W) : Box b q S' := by
  obtain ⟨n, L, st, h1, h2, h3⟩ := h
  exact ⟨n, L, st, k.at h1 hb, k.at h2 hq, h3⟩
theorem Box.lt {b q : Nat} {S : Sto} (h : Box b q S) : b < S.length ∧ q < S.length := by
  obtain ⟨n, L, st, h1, h2, h3⟩ := h
  exact ⟨lt_of_get h1, lt_of_get h2⟩
theorem take_spec {b q : Nat} {S : Sto} {m : Int} (hB : Box b q S) (h0 : 0 < m) (h1 : m < 1073741824) :
    wp (f__law_take [.ref b, .int m] S) fun d S' => ∃ r : Int, d = .int r ∧ 0 ≤ r ∧ r < m ∧ Box b q S' ∧ Keep [b, q] S S' := by
  obtain ⟨ne, L, st, hb, hq, hL⟩ := hB
  have hq1 : lstOf q (S ++ [.lst []]) = some (L.map .int) := lstOf_app hq
  have hz : lstOf S.length (S ++ [.lst []]) = some (([] : List Int).map .int) := by rw [lstOf_len]; rfl
  have e1 : eqF (S ++ [.lst []]) (.ref q) (.ref S.length) = some (L == []) := eq_ints hq1 hz
  have hb0 : (S ++ [.lst []])[b]? = some (.lst [.ref q, .int st]) := get_app hb
  have hq0 : (S ++ [.lst []])[q]? = some (.lst (L.map .int)) := get_app hq
  have k0 : Keep [b, q] S (S ++ [.lst []]) := .app
  have lb := lt_of_get hb0
  have lq := lt_of_get hq0
  unfold f__law_take b__law_take
  simp_arith [lstOf_lst hb, at0, e1]
  generalize S ++ [.lst []] = S0 at *
  cases L with
  | nil =>
    have hm : ∀ x : Int, 0 ≤ x % m ∧ x % m < m := fun x => ⟨Int.emod_nonneg _ (by omega), Int.emod_lt_of_pos _ h0⟩
    simp_arith [show (([] : List Int) == []) = true from rfl, lstOf_lst hb0, at_lit 1 1 rfl, w_mulR 48271 (by decide), w_mod (show (0 : Int) < 2147483647 by decide), wrOf_lst hb0, ixN_lit 1 1 rfl (show 1 < 2 by decide), lstOf_lst (get_set lb), w_fdiv (show (0 : Int) < 7 ∧ (7 : Int) < 1073741824 by decide), w_mod h0]
    exact ⟨(hm _).1, (hm _).2, ⟨ne, [], _, get_set lb, get_ne hq0 ne, by decide⟩, k0.trans (.set (by simp))⟩
  | cons i L =>
    have hm : ∀ x : Int, 0 ≤ x % m ∧ x % m < m := fun x => ⟨Int.emod_nonneg _ (by omega), Int.emod_lt_of_pos _ h0⟩
    have hq1 : (S0.set q (.lst ((i / m :: L).map .int)))[q]? = some (.lst ((i / m :: L).map .int)) := get_set lq
    have hb1 : (S0.set q (.lst ((i / m :: L).map .int)))[b]? = some (.lst [.ref q, .int st]) := get_ne hb0 (Ne.symm ne)
    have hq1 : (S0.set q (.lst ((i / m :: L).map .int)))[q]? = some (.lst ((i / m :: L).map .int)) := get_set lq
    have hb1 : (S0.set q (.lst ((i / m :: L).map .int)))[b]? = some (.lst [.ref q, .int st]) := get_ne hb0 (Ne.symm ne)
    simp_arith [show ((i :: L : List Int) == []) = false from rfl, lstOf_lst hb0, lstOf_lst hq0, at0, w_fdiv ⟨h0, h1⟩, wrOf_lst hq0, ixN_lit 0 0 rfl (show 0 < L.length + 1 by omega), List.length_map]
    have k1 : Keep [b, q] S (S0.set q (.lst ((i / m :: L).map .int))) := k0.trans (.set (by simp))
    rw [List.map_cons] at hq1 hb1 k1
    have lq1 := lt_of_get hq1
    generalize S0.set q (.lst (D.int (i / m) :: L.map .int)) = S1 at *
    rw [List.length_cons] at hL
    simp_arith [lstOf_lst hb1, lstOf_lst hq1, wrOf_lst hq1, at0, isL_lst hq1, w_mod h0, List.eraseIdx_cons_zero]
    have fin : ∀ S2, Box b q S2 → Keep [b, q] S S2 → 0 ≤ i % m ∧ i % m < m ∧ Box b q S2 ∧ Keep [b, q] S S2 := fun S2 h k => ⟨(hm _).1, (hm _).2, h, k⟩
    have f1 := fin S1 ⟨ne, i / m :: L, st, hb1, hq1, by rw [List.length_cons]; omega⟩ k1
    have f2 := fin (S1.set q (.lst (L.map .int))) ⟨ne, L, st, get_ne hb1 (Ne.symm ne), get_set lq1, by omega⟩ (k1.trans (.set (by simp)))
    split
    · exact f2
    · split
      · exact f2
      · exact f1
end PG
end
section
set_option linter.all false
set_option autoImplicit false
set_option maxRecDepth 100003
namespace PG
open PF
inductive Op3 where
  | add | take | less
def Op3.s : Op3 → List Nat
  | .add => z_add
  | .take => z_take
  | .less => z_less
inductive Row where
  | put (d k : Int) | copy (d a : Int) | op (o : Op3) (d a b : Int) | call (d a : Int) | say (a : Int) | ife (a r : Int) | go (r : Int) | fin
def Row.D : Row → D
  | .put d k => .tup [.str z_put, .int d, .int k]
  | .copy d a => .tup [.str z_copy, .int d, .int a]
  | .op o d a b => .tup [.str o.s, .int d, .int a, .int b]
  | .call d a => .tup [.str z_call, .int d, .int a]
  | .say a => .tup [.str z_say, .int a]
  | .ife a r => .tup [.str z_if, .int a, .int r]
  | .go r => .tup [.str z_go, .int r]
  | .fin => .tup [.str z_end]
def In0 (x n : Int) : Prop := 0 ≤ x ∧ x < n
def Row.ok (names many : Int) : Row → Prop
  | .put d k => In0 d names ∧ In0 k 1000
  | .copy d a => In0 d names ∧ In0 a names
  | .op _ d a b => In0 d names ∧ In0 a names ∧ In0 b names
  | .call d a => In0 d names ∧ In0 a names
  | .say a => In0 a names
  | .ife a r => In0 a names ∧ In0 r many
  | .go r => In0 r many
  | .fin => True
theorem take_in {b q : Nat} {S : Sto} {m : Int} {P : D → Sto → Prop} (hB : Box b q S) (h : 0 < m ∧ m < 1073741824) (k : ∀ r S', In0 r m → Box b q S' → Keep [b, q] S S' → P (.int r) S') : wp (f__law_take [.ref b, .int m] S) P :=
  wp_mono (take_spec hB h.1 h.2) fun d S' ⟨r, e, r0, r1, hB', kk⟩ => e ▸ k r S' ⟨r0, r1⟩ hB' kk
theorem notBQ {b q n : Nat} {S : Sto} (hB : Box b q S) (h : S.length ≤ n) : n ∉ [b, q] := by
  have := hB.lt
  simp
  omega
/-- [x, y, ..] stands and a number is drawn, then [..][r] -/
theorem ix_new {b q : Nat} {S S' : Sto} {ds : List D} {r : Int} {P : D → Sto → Prop} (hB : Box b q S) (k : Keep [b, q] (S ++ [.lst ds]) S') (h : on (at? ds r) fun d => P d S') : wp (gIx (.ref S.length) (.int r) S') P := by
  have e : S'[S.length]? = some (.lst ds) := k.at get_last (notBQ hB (Nat.le_refl _))
  rw [v_ixL, lstOf_lst e, on_some]
  exact h
theorem Box.app {b q : Nat} {S U : Sto} (h : Box b q S) : Box b q (S ++ U) := h.keep (W := []) .app (by simp) (by simp)
theorem at2 {α : Type} {x y : α} {r : Int} {P : α → Prop} (h : In0 r 2) (hx : P x) (hy : P y) : on (at? [x, y] r) P := by
  obtain rfl | rfl : r = 0 ∨ r = 1 := by unfold In0 at h; omega
  · rw [at0]; exact ⟨_, rfl, hx⟩
  · rw [at_lit 1 1 rfl]; exact ⟨_, rfl, hy⟩
theorem at3 {α : Type} {x y z : α} {r : Int} {P : α → Prop} (h : In0 r 3) (hx : r = 0 → P x) (hy : r = 1 → P y) (hz : r = 2 → P z) : on (at? [x, y, z] r) P := by
  obtain rfl | rfl | rfl : r = 0 ∨ r = 1 ∨ r = 2 := by unfold In0 at h; omega
  · rw [at0]; exact ⟨_, rfl, hx rfl⟩
  · rw [at_lit 1 1 rfl]; exact ⟨_, rfl, hy rfl⟩
  · rw [at_lit 2 2 rfl]; exact ⟨_, rfl, hz rfl⟩
theorem row_spec {b q : Nat} {S : Sto} {names many at_ : Int} (hB : Box b q S) (hn : 0 < names ∧ names < 1000) (hm : 0 < many ∧ many < 1000) (ha : In0 at_ many) :
    wp (f__law_row [.ref b, .int names, .int many, .int at_] S) fun d S' => ∃ row : Row, d = row.D ∧ row.ok names many ∧ Box b q S' ∧ Keep [b, q] S S' := by
  have hn' : 0 < names ∧ names < 1073741824 := ⟨hn.1, by omega⟩
  have hm' : 0 < many ∧ many < 1073741824 := ⟨hm.1, by omega⟩
  unfold f__law_row b__law_row
  simp_arith []
  refine take_in hB (by decide) fun way S1 i1 B1 k1 => ?_
  simp_arith []
  refine take_in B1 hn' fun nm S2 i2 B2 k2 => ?_
  refine take_in B2 hn' fun one S3 i3 B3 k3 => ?_
  refine take_in B3 hn' fun other S4 i4 B4 k4 => ?_
  have K4 := ((k1.trans k2).trans k3).trans k4
  simp_arith []
  split
  · -- put
    refine take_in B4 (by decide) fun x S5 i5 B5 k5 => take_in B5 (by decide) fun y S6 i6 B6 k6 => ?_
    refine take_in B6.app (by decide) fun z S7 i7 B7 k7 => ?_
    refine ix_new B6 k7 (at2 i7 ?_ ?_)
    · exact ⟨.put nm x, rfl, ⟨i2, i5⟩, B7, (((K4.trans k5).trans k6).trans .app).trans k7⟩
    · exact ⟨.put nm y, rfl, ⟨i2, i6.1, by have := i6.2; omega⟩, B7, (((K4.trans k5).trans k6).trans .app).trans k7⟩
  · simp_arith []
    split
    · exact ⟨.copy nm one, rfl, ⟨i2, i3⟩, B4, K4⟩
    · simp_arith []
      split
      · rename_i c1 c2 c3
        have c1 : ¬ way < 2 := by simpa using c1
        have c2 : ¬ way < 4 := by simpa using c2
        have c3 : way < 7 := by simpa using c3
        simp_arith [lstOf_len, lstOf_0]
        refine at3 ⟨by omega, by omega⟩ (fun _ => ?_) (fun _ => ?_) (fun _ => ?_)
        · exact ⟨.op .add nm one other, rfl, ⟨i2, i3, i4⟩, B4.app, K4.trans .app⟩
        · exact ⟨.op .take nm one other, rfl, ⟨i2, i3, i4⟩, B4.app, K4.trans .app⟩
        · exact ⟨.op .less nm one other, rfl, ⟨i2, i3, i4⟩, B4.app, K4.trans .app⟩
      · simp_arith []
        split
        · exact ⟨.call nm one, rfl, ⟨i2, i3⟩, B4, K4⟩
        · simp_arith []
          split
          · exact ⟨.say one, rfl, i3, B4, K4⟩
          · simp_arith []
            refine take_in B4 hm' fun goal S5 i5 B5 k5 => ?_
            have mn : ∀ x : Int, 0 ≤ x → In0 (if at_ + 1 + x < many - 1 then at_ + 1 + x else many - 1) many := fun x hx => by
              have := ha.1
              unfold In0
              split <;> omega
            simp_arith [w_mod (show (0 : Int) < 4 by decide), w_mod (show (0 : Int) < 3 by decide)]
            split
            · refine take_in B5.app (by decide) fun z S7 i7 B7 k7 => ?_
              refine ix_new B5 k7 (at2 i7 ?_ ?_)
              · exact ⟨.ife one goal, rfl, ⟨i3, i5⟩, B7, ((K4.trans k5).trans .app).trans k7⟩
              · exact ⟨.ife one _, rfl, ⟨i3, mn _ (Int.emod_nonneg _ (by decide))⟩, B7, ((K4.trans k5).trans .app).trans k7⟩
            · simp_arith [w_mod (show (0 : Int) < 4 by decide), w_mod (show (0 : Int) < 3 by decide)]
              refine take_in B5.app (by decide) fun z S7 i7 B7 k7 => ?_
              have KK := ((K4.trans k5).trans .app).trans k7
              refine ix_new B5 k7 (at3 i7 (fun _ => ?_) (fun _ => ?_) (fun _ => ?_))
              · exact ⟨.go _, rfl, mn _ (Int.emod_nonneg _ (by decide)), B7, KK⟩
              · exact ⟨.go goal, rfl, i5, B7, KK⟩
              · exact ⟨.fin, rfl, trivial, B7, KK⟩
end PG
end
section
set_option linter.all false
set_option autoImplicit false
set_option maxRecDepth 100003
namespace PG
open PF
theorem rangeD_len (lo hi : Int) : (rangeD lo hi).length = (hi - lo).toNat := by unfold rangeD; simp
theorem rangeD_get {lo hi : Int} {k : Nat} {x : D} (h : (rangeD lo hi)[k]? = some x) : x = .int (lo + (k : Int)) ∧ (k : Int) < hi - lo := by
  unfold rangeD at h
  rw [List.getElem?_map] at h
  cases e : (List.range (hi - lo).toNat)[k]? with
  | none => rw [e] at h; cases h
  | some m =>
    rw [e] at h
    obtain ⟨l, e2⟩ := List.getElem?_eq_some_iff.mp e
    rw [List.getElem_range] at e2
    subst e2
    rw [List.length_range] at l
    exact ⟨(Option.some.inj h).symm, by omega⟩
theorem same_nil {ds : List D} {S : Sto} : (Iter.mk [] ds).same S = true := rfl
def progD (params names : Int) (rows : List Row) : D := .tup [.int params, .int names, .tup (rows.map Row.D)]
structure ProgOk (params names : Int) (rows : List Row) : Prop where
  pr : 0 ≤ params ∧ params ≤ names
  nm : 1 ≤ names ∧ names ≤ 8
  ln : 1 ≤ rows.length ∧ rows.length ≤ 24
  ok : ∀ r ∈ rows, r.ok names rows.length
end PG
end
section
set_option linter.all false
set_option autoImplicit false
set_option maxRecDepth 100003
namespace PF
section
variable {S : Sto} {ρ : Env} {P : D → Sto → Prop}
theorem w_dict {ps : List (E × E)} : wp (eDict ps ρ S) P = wp (evPairs ps ρ S) fun q S => P (.ref S.length) (S ++ [.dic (putAll [] q)]) := by
  unfold eDict alloc
  simp only [wp_bind, wp_ok]
theorem w_evnil {P : List (D × D) → Sto → Prop} : wp (evPairs [] ρ S) P = P [] S := wp_ok
theorem w_evcons {P : List (D × D) → Sto → Prop} {k v : E} {r : List (E × E)} : wp (evPairs ((k, v) :: r) ρ S) P = wp (k ρ S) fun x S => wp (v ρ S) fun y S => keyOk x = true ∧ wp (evPairs r ρ S) fun q S => P ((x, y) :: q) S := by
  simp only [evPairs, wp_bind]
  congr
  funext x S
  congr
  funext y S
  by_cases h : keyOk x = true
  · simp only [h, if_true, true_and, wp_bind, wp_ok]
  · simp only [h, if_false, false_and, wp_bad, Bool.false_eq_true]
theorem w_cnil {P : List D → Sto → Prop} {it : Iter} {g : G} {t : T} {e : E} : wp (compLoop it g t e ρ [] S) P = (it.same S = true ∧ P [] S) := by
  unfold compLoop
  by_cases h : it.same S = true
  · simp only [h, if_true, true_and, wp_ok]
  · simp only [h, if_false, false_and, wp_bad, Bool.false_eq_true]
theorem w_ccons {P : List D → Sto → Prop} {it : Iter} {g : G} {t : T} {e : E} {x : D} {xs : List D} : wp (compLoop it g t e ρ (x :: xs) S) P = (it.same S = true ∧ on (g x ρ) fun ρ1 => wp (t ρ1 S) fun b S => if b = true then wp (e ρ1 S) fun y S => wp (compLoop it g t e ρ xs S) fun ys S => P (y :: ys) S else wp (compLoop it g t e ρ xs S) P) := by
  rw [compLoop]
  by_cases h : it.same S = true
  · simp only [h, if_true, true_and]
    cases e1 : g x ρ with
    | none => simp only [wp_bad, on_none]
    | some ρ1 =>
      simp only [wp_bind, on_some]
      congr
      funext b S
      split
      · simp only [wp_bind, wp_ok]
      · rfl
  · simp only [h, if_false, false_and, wp_bad, Bool.false_eq_true]
theorem dicOf_len {xs : List MO} : dicOf S.length (S ++ xs) = dicOf 0 xs := by
  unfold dicOf
  rw [List.getElem?_append_right (Nat.le_refl _), Nat.sub_self]
theorem dicOf_0 {kvs : List (D × D)} {xs : List MO} : dicOf 0 (.dic kvs :: xs) = some kvs := rfl
end
end PF
namespace PG
open PF
theorem begun_spec {n : Nat} {S : Sto} {L : List Int} (h : lstOf n S = some (L.map .int)) (hL : L.length ≤ 63) :
    wp (f__law_begun [.ref n] S) fun d S' => ∃ b q, d = .ref b ∧ Box b q S' ∧ Keep [] S S' ∧ S.length ≤ b ∧ S.length ≤ q := by
  unfold f__law_begun b__law_begun
  simp_arith [h, chkOf]
  refine wp_for (it := ⟨[(n, L.map D.int)], L.map D.int⟩) (fun k ρ S' => S' = S ∧ ∃ st c, ρ = [some (.ref n), some (.int st), c]) ?_ ?_ ⟨rfl, 0, none, rfl⟩ ?_
  · rintro k ρ S' ⟨rfl, _⟩
    simp [Iter.same, h]
  · rintro k x ρ S' hx ⟨rfl, st, c, rfl⟩
    rw [List.getElem?_map] at hx
    cases e : L[k]? with
    | none => rw [e] at hx; cases hx
    | some i =>
      rw [e] at hx
      cases hx
      refine ⟨_, rfl, ?_⟩
      simp_arith [w_mulR 48271 (by decide), w_mulR 69621 (by decide), w_mod (show (0 : Int) < 2147483647 by decide)]
      exact ⟨_, _, rfl⟩
  · rintro ρ S' ⟨rfl, st, c, rfl⟩
    have hb : ∀ b : Bool, -(2 ^ 64) < b2i b ∧ b2i b < 2 ^ 64 := fun b => by cases b <;> decide
    simp_arith [h, w_mul (.inr (hb _))]
    have h2 : lstOf n (S' ++ [.lst (L.map .int)]) = some (L.map .int) := by
      unfold lstOf at h ⊢
      have hl : n < S'.length := by
        cases e : S'[n]? with
        | none => rw [e] at h; cases h
        | some o => exact lt_of_get e
      rw [List.getElem?_append_left hl]
      exact h
    simp_arith [h2, w_mul (.inr (hb _))]
    refine ⟨_, S'.length, rfl, ⟨?_, L, st * b2i (decide (2 < ((L.map D.int).length : Int))), ?_, get_app get_last, hL⟩, .trans .app .app, ?_, Nat.le_refl _⟩
    · rw [List.length_append]; simp
    · exact get_last
    · rw [List.length_append]; simp
/-- a number within -/
theorem num_eq {S : Sto} {P : D → Sto → Prop} {i lo hi : Int} (h1 : lo ≤ i) (h2 : i ≤ hi) : wp (f_is_number [.int i, .int lo, .int hi] S) P = P (.bl true) S := by
  unfold f_is_number b_is_number
  simp_arith [h1, h2]
theorem sh_put : dget t_SHAPES (.str z_put) = some (.str z_dn) := by decide +kernel
theorem sh_copy : dget t_SHAPES (.str z_copy) = some (.str z_da) := by decide +kernel
theorem sh_add : dget t_SHAPES (.str z_add) = some (.str z_daa) := by decide +kernel
theorem sh_take : dget t_SHAPES (.str z_take) = some (.str z_daa) := by decide +kernel
theorem sh_less : dget t_SHAPES (.str z_less) = some (.str z_daa) := by decide +kernel
theorem sh_call : dget t_SHAPES (.str z_call) = some (.str z_da) := by decide +kernel
theorem sh_say : dget t_SHAPES (.str z_say) = some (.str z_a) := by decide +kernel
theorem sh_if : dget t_SHAPES (.str z_if) = some (.str z_ar) := by decide +kernel
theorem sh_go : dget t_SHAPES (.str z_go) = some (.str z_r) := by decide +kernel
theorem sh_end : dget t_SHAPES (.str z_end) = some (.str z_empty) := by decide +kernel
theorem v_lenSs {S : Sto} {P : D → Sto → Prop} {s : List Nat} (h : s.length ≤ 1000) : wp (fLen [.str s] S) P = P (.int s.length) S := by
  rw [v_lenS]
  have : s.length ≤ LIM := by unfold LIM; omega
  simp only [this, true_and]
theorem most_d {d a r : Int} : dget (putAll [] [(.str z_d, .int d), (.str z_a, .int a), (.str z_n, .int 999), (.str z_r, .int r)]) (.str z_d) = some (.int d) := rfl
theorem most_a {d a r : Int} : dget (putAll [] [(.str z_d, .int d), (.str z_a, .int a), (.str z_n, .int 999), (.str z_r, .int r)]) (.str z_a) = some (.int a) := rfl
theorem most_n {d a r : Int} : dget (putAll [] [(.str z_d, .int d), (.str z_a, .int a), (.str z_n, .int 999), (.str z_r, .int r)]) (.str z_n) = some (.int 999) := rfl
theorem most_r {d a r : Int} : dget (putAll [] [(.str z_d, .int d), (.str z_a, .int a), (.str z_n, .int 999), (.str z_r, .int r)]) (.str z_r) = some (.int r) := rfl
theorem v_ixSs {S : Sto} {P : D → Sto → Prop} {s : List Nat} {i : Int} (h : s.length ≤ 1000) : wp (gIx (.str s) (.int i) S) P = on (at? s i) fun c => P (.str [c]) S := v_ixS (by unfold LIM; omega)
theorem at_1 {α : Type} {xs : List α} : at? xs 1 = xs[1]? := at_lit 1 1 rfl
theorem at_2 {α : Type} {xs : List α} : at? xs 2 = xs[2]? := at_lit 2 2 rfl
theorem at_3 {α : Type} {xs : List α} : at? xs 3 = xs[3]? := at_lit 3 3 rfl
theorem range0 : rangeD 0 0 = [] := rfl
theorem range1 : rangeD 0 1 = [.int 0] := rfl
theorem range2 : rangeD 0 2 = [.int 0, .int 1] := rfl
theorem range3 : rangeD 0 3 = [.int 0, .int 1, .int 2] := rfl
theorem eq_nils {S : Sto} : eqF ((S ++ [MO.lst []]) ++ [MO.lst []]) (.ref S.length) (.ref (S ++ [MO.lst []]).length) = some true :=
  eq_ints (L := []) (M := []) (lstOf_app get_last) (by rw [lstOf_len]; rfl)
theorem is_row_spec {S : Sto} {names many : Int} {row : Row} (h : row.ok names many) : wp (f_is_row [row.D, .int names, .int many] S) fun d S' => d = .bl true ∧ Keep [] S S' := by
  unfold f_is_row b_is_row
  have r62 : ∀ n : Nat, n ≤ 3 → -(2 ^ 62) ≤ (n : Int) ∧ (n : Int) < 2 ^ 62 := fun n h => by omega
  have fin : ∀ U : Sto, D.bl true = .bl true ∧ Keep [] S (((S ++ U) ++ [MO.lst []]) ++ [MO.lst []]) := fun U => ⟨rfl, .trans (.trans .app .app) .app⟩
  cases row with
  | put d k =>
    obtain ⟨⟨a1, a2⟩, b1, b2⟩ := h
    (simp_arith [Row.D, at0, sh_put, sh_copy, sh_call, sh_say, sh_if, sh_go, sh_end, Option.getD_some, reduceCtorEq, v_lenSs (show z_dn.length ≤ 1000 by decide), v_lenSs (show z_da.length ≤ 1000 by decide), v_lenSs (show z_a.length ≤ 1000 by decide), v_lenSs (show z_ar.length ≤ 1000 by decide), v_lenSs (show z_r.length ≤ 1000 by decide), v_lenSs (show z_empty.length ≤ 1000 by decide), w_dict, w_evnil, w_evcons, keyOk, range0, range1, range2, range3])
    refine ⟨by decide, ?_⟩
    (simp_arith [w_ccons, w_cnil, same_nil, at0, at_1, at_2, at_3, v_ixSs (show z_dn.length ≤ 1000 by decide), v_ixSs (show z_da.length ≤ 1000 by decide), v_ixSs (show z_daa.length ≤ 1000 by decide), v_ixSs (show z_a.length ≤ 1000 by decide), v_ixSs (show z_ar.length ≤ 1000 by decide), v_ixSs (show z_r.length ≤ 1000 by decide), v_dx (show keyOk (.str z_d) = true from rfl), v_dx (show keyOk (.str z_a) = true from rfl), v_dx (show keyOk (.str z_n) = true from rfl), v_dx (show keyOk (.str z_r) = true from rfl), dicOf_len, dicOf_0, most_d, most_a, most_n, most_r, Nat.zero_le, eq_nils, num_eq a1 (show d ≤ names - 1 by omega), num_eq b1 (show k ≤ 999 by omega)])
    exact (fin _).2
  | copy d a =>
    obtain ⟨⟨a1, a2⟩, b1, b2⟩ := h
    (simp_arith [Row.D, at0, sh_put, sh_copy, sh_call, sh_say, sh_if, sh_go, sh_end, Option.getD_some, reduceCtorEq, v_lenSs (show z_dn.length ≤ 1000 by decide), v_lenSs (show z_da.length ≤ 1000 by decide), v_lenSs (show z_a.length ≤ 1000 by decide), v_lenSs (show z_ar.length ≤ 1000 by decide), v_lenSs (show z_r.length ≤ 1000 by decide), v_lenSs (show z_empty.length ≤ 1000 by decide), w_dict, w_evnil, w_evcons, keyOk, range0, range1, range2, range3])
    refine ⟨by decide, ?_⟩
    (simp_arith [w_ccons, w_cnil, same_nil, at0, at_1, at_2, at_3, v_ixSs (show z_dn.length ≤ 1000 by decide), v_ixSs (show z_da.length ≤ 1000 by decide), v_ixSs (show z_daa.length ≤ 1000 by decide), v_ixSs (show z_a.length ≤ 1000 by decide), v_ixSs (show z_ar.length ≤ 1000 by decide), v_ixSs (show z_r.length ≤ 1000 by decide), v_dx (show keyOk (.str z_d) = true from rfl), v_dx (show keyOk (.str z_a) = true from rfl), v_dx (show keyOk (.str z_n) = true from rfl), v_dx (show keyOk (.str z_r) = true from rfl), dicOf_len, dicOf_0, most_d, most_a, most_n, most_r, Nat.zero_le, eq_nils, num_eq a1 (show d ≤ names - 1 by omega), num_eq b1 (show a ≤ names - 1 by omega)])
    exact (fin _).2
  | op o d a b =>
    obtain ⟨⟨a1, a2⟩, ⟨b1, b2⟩, c1, c2⟩ := h
    have e : dget t_SHAPES (.str o.s) = some (.str z_daa) := by cases o <;> decide +kernel
    (simp_arith [Row.D, at0, e, Option.getD_some, reduceCtorEq, v_lenSs (show z_daa.length ≤ 1000 by decide), w_dict, w_evnil, w_evcons, keyOk, range0, range1, range2, range3])
    refine ⟨by decide, ?_⟩
    (simp_arith [w_ccons, w_cnil, same_nil, at0, at_1, at_2, at_3, v_ixSs (show z_dn.length ≤ 1000 by decide), v_ixSs (show z_da.length ≤ 1000 by decide), v_ixSs (show z_daa.length ≤ 1000 by decide), v_ixSs (show z_a.length ≤ 1000 by decide), v_ixSs (show z_ar.length ≤ 1000 by decide), v_ixSs (show z_r.length ≤ 1000 by decide), v_dx (show keyOk (.str z_d) = true from rfl), v_dx (show keyOk (.str z_a) = true from rfl), v_dx (show keyOk (.str z_n) = true from rfl), v_dx (show keyOk (.str z_r) = true from rfl), dicOf_len, dicOf_0, most_d, most_a, most_n, most_r, Nat.zero_le, eq_nils, num_eq a1 (show d ≤ names - 1 by omega), num_eq b1 (show a ≤ names - 1 by omega), num_eq c1 (show b ≤ names - 1 by omega)])
    exact (fin _).2
  | call d a =>
    obtain ⟨⟨a1, a2⟩, b1, b2⟩ := h
    (simp_arith [Row.D, at0, sh_put, sh_copy, sh_call, sh_say, sh_if, sh_go, sh_end, Option.getD_some, reduceCtorEq, v_lenSs (show z_dn.length ≤ 1000 by decide), v_lenSs (show z_da.length ≤ 1000 by decide), v_lenSs (show z_a.length ≤ 1000 by decide), v_lenSs (show z_ar.length ≤ 1000 by decide), v_lenSs (show z_r.length ≤ 1000 by decide), v_lenSs (show z_empty.length ≤ 1000 by decide), w_dict, w_evnil, w_evcons, keyOk, range0, range1, range2, range3])
    refine ⟨by decide, ?_⟩
    (simp_arith [w_ccons, w_cnil, same_nil, at0, at_1, at_2, at_3, v_ixSs (show z_dn.length ≤ 1000 by decide), v_ixSs (show z_da.length ≤ 1000 by decide), v_ixSs (show z_daa.length ≤ 1000 by decide), v_ixSs (show z_a.length ≤ 1000 by decide), v_ixSs (show z_ar.length ≤ 1000 by decide), v_ixSs (show z_r.length ≤ 1000 by decide), v_dx (show keyOk (.str z_d) = true from rfl), v_dx (show keyOk (.str z_a) = true from rfl), v_dx (show keyOk (.str z_n) = true from rfl), v_dx (show keyOk (.str z_r) = true from rfl), dicOf_len, dicOf_0, most_d, most_a, most_n, most_r, Nat.zero_le, eq_nils, num_eq a1 (show d ≤ names - 1 by omega), num_eq b1 (show a ≤ names - 1 by omega)])
    exact (fin _).2
  | say a =>
    obtain ⟨a1, a2⟩ := h
    (simp_arith [Row.D, at0, sh_put, sh_copy, sh_call, sh_say, sh_if, sh_go, sh_end, Option.getD_some, reduceCtorEq, v_lenSs (show z_dn.length ≤ 1000 by decide), v_lenSs (show z_da.length ≤ 1000 by decide), v_lenSs (show z_a.length ≤ 1000 by decide), v_lenSs (show z_ar.length ≤ 1000 by decide), v_lenSs (show z_r.length ≤ 1000 by decide), v_lenSs (show z_empty.length ≤ 1000 by decide), w_dict, w_evnil, w_evcons, keyOk, range0, range1, range2, range3])
    refine ⟨by decide, ?_⟩
    (simp_arith [w_ccons, w_cnil, same_nil, at0, at_1, at_2, at_3, v_ixSs (show z_dn.length ≤ 1000 by decide), v_ixSs (show z_da.length ≤ 1000 by decide), v_ixSs (show z_daa.length ≤ 1000 by decide), v_ixSs (show z_a.length ≤ 1000 by decide), v_ixSs (show z_ar.length ≤ 1000 by decide), v_ixSs (show z_r.length ≤ 1000 by decide), v_dx (show keyOk (.str z_d) = true from rfl), v_dx (show keyOk (.str z_a) = true from rfl), v_dx (show keyOk (.str z_n) = true from rfl), v_dx (show keyOk (.str z_r) = true from rfl), dicOf_len, dicOf_0, most_d, most_a, most_n, most_r, Nat.zero_le, eq_nils, num_eq a1 (show a ≤ names - 1 by omega)])
    exact (fin _).2
  | ife a r =>
    obtain ⟨⟨a1, a2⟩, b1, b2⟩ := h
    (simp_arith [Row.D, at0, sh_put, sh_copy, sh_call, sh_say, sh_if, sh_go, sh_end, Option.getD_some, reduceCtorEq, v_lenSs (show z_dn.length ≤ 1000 by decide), v_lenSs (show z_da.length ≤ 1000 by decide), v_lenSs (show z_a.length ≤ 1000 by decide), v_lenSs (show z_ar.length ≤ 1000 by decide), v_lenSs (show z_r.length ≤ 1000 by decide), v_lenSs (show z_empty.length ≤ 1000 by decide), w_dict, w_evnil, w_evcons, keyOk, range0, range1, range2, range3])
    refine ⟨by decide, ?_⟩
    (simp_arith [w_ccons, w_cnil, same_nil, at0, at_1, at_2, at_3, v_ixSs (show z_dn.length ≤ 1000 by decide), v_ixSs (show z_da.length ≤ 1000 by decide), v_ixSs (show z_daa.length ≤ 1000 by decide), v_ixSs (show z_a.length ≤ 1000 by decide), v_ixSs (show z_ar.length ≤ 1000 by decide), v_ixSs (show z_r.length ≤ 1000 by decide), v_dx (show keyOk (.str z_d) = true from rfl), v_dx (show keyOk (.str z_a) = true from rfl), v_dx (show keyOk (.str z_n) = true from rfl), v_dx (show keyOk (.str z_r) = true from rfl), dicOf_len, dicOf_0, most_d, most_a, most_n, most_r, Nat.zero_le, eq_nils, num_eq a1 (show a ≤ names - 1 by omega), num_eq b1 (show r ≤ many - 1 by omega)])
    exact (fin _).2
  | go r =>
    obtain ⟨b1, b2⟩ := h
    (simp_arith [Row.D, at0, sh_put, sh_copy, sh_call, sh_say, sh_if, sh_go, sh_end, Option.getD_some, reduceCtorEq, v_lenSs (show z_dn.length ≤ 1000 by decide), v_lenSs (show z_da.length ≤ 1000 by decide), v_lenSs (show z_a.length ≤ 1000 by decide), v_lenSs (show z_ar.length ≤ 1000 by decide), v_lenSs (show z_r.length ≤ 1000 by decide), v_lenSs (show z_empty.length ≤ 1000 by decide), w_dict, w_evnil, w_evcons, keyOk, range0, range1, range2, range3])
    refine ⟨by decide, ?_⟩
    (simp_arith [w_ccons, w_cnil, same_nil, at0, at_1, at_2, at_3, v_ixSs (show z_dn.length ≤ 1000 by decide), v_ixSs (show z_da.length ≤ 1000 by decide), v_ixSs (show z_daa.length ≤ 1000 by decide), v_ixSs (show z_a.length ≤ 1000 by decide), v_ixSs (show z_ar.length ≤ 1000 by decide), v_ixSs (show z_r.length ≤ 1000 by decide), v_dx (show keyOk (.str z_d) = true from rfl), v_dx (show keyOk (.str z_a) = true from rfl), v_dx (show keyOk (.str z_n) = true from rfl), v_dx (show keyOk (.str z_r) = true from rfl), dicOf_len, dicOf_0, most_d, most_a, most_n, most_r, Nat.zero_le, eq_nils, num_eq b1 (show r ≤ many - 1 by omega)])
    exact (fin _).2
  | fin =>
    (simp_arith [Row.D, at0, sh_put, sh_copy, sh_call, sh_say, sh_if, sh_go, sh_end, Option.getD_some, reduceCtorEq, v_lenSs (show z_dn.length ≤ 1000 by decide), v_lenSs (show z_da.length ≤ 1000 by decide), v_lenSs (show z_a.length ≤ 1000 by decide), v_lenSs (show z_ar.length ≤ 1000 by decide), v_lenSs (show z_r.length ≤ 1000 by decide), v_lenSs (show z_empty.length ≤ 1000 by decide), w_dict, w_evnil, w_evcons, keyOk, range0, range1, range2, range3])
    refine ⟨by decide, ?_⟩
    (simp_arith [w_ccons, w_cnil, same_nil, at0, at_1, at_2, at_3, v_ixSs (show z_dn.length ≤ 1000 by decide), v_ixSs (show z_da.length ≤ 1000 by decide), v_ixSs (show z_daa.length ≤ 1000 by decide), v_ixSs (show z_a.length ≤ 1000 by decide), v_ixSs (show z_ar.length ≤ 1000 by decide), v_ixSs (show z_r.length ≤ 1000 by decide), v_dx (show keyOk (.str z_d) = true from rfl), v_dx (show keyOk (.str z_a) = true from rfl), v_dx (show keyOk (.str z_n) = true from rfl), v_dx (show keyOk (.str z_r) = true from rfl), dicOf_len, dicOf_0, most_d, most_a, most_n, most_r, Nat.zero_le, eq_nils])
    exact (fin _).2
end PG
namespace PG
open PF
theorem enumD_len : ∀ (j : Nat) (ds : List D), (enumD j ds).length = ds.length
  | _, [] => rfl
  | j, d :: ds => by unfold enumD; rw [List.length_cons, List.length_cons, enumD_len (j + 1) ds]
theorem enumD_get : ∀ {j k : Nat} {ds : List D} {x : D}, (enumD j ds)[k]? = some x → ∃ d, ds[k]? = some d ∧ x = .tup [.int ((j + k : Nat) : Int), d]
  | j, k, [], x, h => by cases h
  | j, 0, d :: ds, x, h => by unfold enumD at h; cases h; exact ⟨d, rfl, rfl⟩
  | j, k + 1, d :: ds, x, h => by
    unfold enumD at h
    rw [List.getElem?_cons_succ] at h
    obtain ⟨d', h1, h2⟩ := enumD_get h
    refine ⟨d', by rw [List.getElem?_cons_succ]; exact h1, ?_⟩
    rw [h2, show j + 1 + k = j + (k + 1) by omega]
theorem need_program_spec {S : Sto} {params names : Int} {rows : List Row} (h : ProgOk params names rows) : wp (f_need_program [progD params names rows] S) fun d S' => d = .non ∧ Keep [] S S' := by
  obtain ⟨⟨p1, p2⟩, ⟨n1, n2⟩, ⟨l1, l2⟩, ok⟩ := h
  have z0 : (((rows.map Row.D).length : Int) == 0) = false := by rw [List.length_map, beq_eq_false_iff_ne]; omega
  unfold f_need_program b_need_program progD
  simp_arith [at_1, num_eq n1 n2, num_eq p1 p2, z0, seqZ, chkOf]
  refine wp_for (it := ⟨[], enumD 0 (rows.map Row.D)⟩) (fun k ρ S' => Keep [] S S' ∧ ∃ c1 c2, ρ = [some (progD params names rows), some (.int params), some (.int names), some (.tup (rows.map Row.D)), c1, c2]) (fun _ _ _ _ => rfl) ?_ ⟨.refl, none, none, rfl⟩ ?_
  · rintro k x ρ S1 hx ⟨k1, c1, c2, rfl⟩
    obtain ⟨d, e, rfl⟩ := enumD_get hx
    rw [List.getElem?_map] at e
    cases e2 : rows[k]? with
    | none => rw [e2] at e; cases e
    | some row =>
      rw [e2] at e
      cases e
      have hk : k < rows.length := (List.getElem?_eq_some_iff.mp e2).1
      have c24 : ¬ (24 : Int) ≤ (k : Int) := by omega
      have hm : (if (24 : Int) < ((rows.map Row.D).length : Int) then (24 : Int) else ((rows.map Row.D).length : Int)) = (rows.length : Int) := by rw [List.length_map, if_neg (by omega)]
      refine ⟨_, rfl, ?_⟩
      simp_arith [c24, hm]
      refine wp_mono (is_row_spec (ok row (List.mem_of_getElem? e2))) ?_
      rintro _ S2 ⟨rfl, k2⟩
      simp_arith []
      exact ⟨k1.trans k2, _, _, rfl⟩
  · rintro ρ S1 ⟨k1, _⟩
    exact k1
theorem need_given_spec {S : Sto} {params names : Int} {rows : List Row} {gs : List Int} (hl : (gs.length : Int) = params) (hg : ∀ g ∈ gs, In0 g 1000) : wp (f_need_given [progD params names rows, .tup (gs.map .int)] S) fun d S' => d = .non ∧ Keep [] S S' := by
  have z : (((gs.map D.int).length : Int) == params) = true := by rw [List.length_map, hl]; exact beq_self_eq_true _
  unfold f_need_given b_need_given progD
  simp_arith [at0, z, chkOf]
  refine wp_mono (wp_loop (it := ⟨[], gs.map D.int⟩) (fun k acc S' => acc = [] ∧ S' = S) (fun _ _ _ _ => rfl) ?_ ⟨rfl, rfl⟩) ?_
  · rintro k x acc S1 hx ⟨rfl, rfl⟩
    rw [List.getElem?_map] at hx
    cases e : gs[k]? with
    | none => rw [e] at hx; cases hx
    | some g =>
      rw [e] at hx
      cases hx
      obtain ⟨g1, g2⟩ := hg g (List.mem_of_getElem? e)
      refine ⟨_, rfl, ?_⟩
      simp_arith [num_eq g1 (show g ≤ 999 by omega)]
  · rintro ys S1 ⟨rfl, rfl⟩
    simp_arith [eq_nils]
    exact ⟨by decide, .trans .app .app⟩
theorem need_fuel_spec {S : Sto} {fuel : Int} (h : 0 ≤ fuel ∧ fuel ≤ 1000) : wp (f_need_fuel [.int fuel] S) fun d S' => d = .non ∧ S' = S := by
  unfold f_need_fuel b_need_fuel
  simp_arith [num_eq h.1 h.2]
end PG
end
section
set_option linter.all false
set_option autoImplicit false
set_option maxRecDepth 100003
namespace PF
section
variable {S : Sto} {ρ : Env} {P : D → Sto → Prop}
theorem w_slice {a : E} {l u : O} : wp (eSlice a l u ρ S) P = wp (a ρ S) fun x S => wp (l ρ S) fun i S => wp (u ρ S) fun j S => wp (gSlice x i j S) P := by
  unfold eSlice
  simp only [wp_bind]
theorem w_onone {P : Option Int → Sto → Prop} : wp (oNone ρ S) P = P none S := wp_ok
theorem w_osome {P : Option Int → Sto → Prop} {a : E} : wp (oSome a ρ S) P = wp (a ρ S) fun x S => ∃ i, x = .int i ∧ P (some i) S := by
  unfold oSome
  rw [wp_bind]
  congr
  funext x S
  cases x <;> simp [wp_ok, wp_bad]
theorem w_gslT {ds : List D} {lo hi : Option Int} : wp (gSlice (.tup ds) lo hi S) P = P (.tup (cut ds lo hi)) S := wp_ok
theorem cut2 {x y : D} : cut [x, y] (some 2) none = [] := rfl
theorem cut3 {x y z : D} : cut [x, y, z] (some 2) none = [z] := rfl
theorem cut4 {x y z w : D} : cut [x, y, z, w] (some 2) none = [z, w] := rfl
theorem cut1 {x : D} : cut [x] (some 2) none = [] := rfl
end
end PF
namespace PG
open PF
structure Mc where
  at_ : Int
  held : List Int
  said : List Int
  done : Int
def rd (h : List Int) (i : Int) : Int := h.getD i.toNat 0
def Op3.v : Op3 → Int → Int → Int
  | .add, x, y => (x + y) % 1000
  | .take, x, y => (x - y) % 1000
  | .less, x, y => if x < y then 1 else 0
def Row.step (m : Mc) : Row → Mc
  | .put d k => ⟨m.at_ + 1, m.held.set d.toNat k, m.said, m.done + 1⟩
  | .copy d a => ⟨m.at_ + 1, m.held.set d.toNat (rd m.held a), m.said, m.done + 1⟩
  | .op o d a b => ⟨m.at_ + 1, m.held.set d.toNat (o.v (rd m.held a) (rd m.held b)), m.said, m.done + 1⟩
  | .call d a => ⟨m.at_ + 1, m.held.set d.toNat ((rd m.held a * rd m.held a * 7 + rd m.held a + 3) % 1000), m.said, m.done + 1⟩
  | .say a => ⟨m.at_ + 1, m.held, m.said ++ [rd m.held a], m.done + 1⟩
  | .ife a r => ⟨if rd m.held a = 0 then m.at_ + 1 else r, m.held, m.said, m.done + 1⟩
  | .go r => ⟨r, m.held, m.said, m.done + 1⟩
  | .fin => ⟨m.at_ + 1, m.held, m.said, m.done + 1⟩
def Row.isFin : Row → Bool
  | .fin => true
  | _ => false
def over (rows : List Row) (a : Int) : Bool := match rows[a.toNat]? with
  | none => true
  | some r => r.isFin
/-- at most n turns more -/
def mrun (rows : List Row) : Nat → Mc → Mc
  | 0, m => m
  | n + 1, m => match rows[m.at_.toNat]? with
    | none => m
    | some r => if r.isFin then m else mrun rows n (r.step m)
/-- the machine is well: names held, numbers small -/
structure McOk (names : Int) (rows : List Row) (m : Mc) : Prop where
  len : (m.held.length : Int) = names
  lo : ∀ v ∈ m.held, In0 v 1000
  at0 : 0 ≤ m.at_
  sd : (m.said.length : Int) ≤ m.done
theorem rd_in {h : List Int} {i : Int} (hl : ∀ v ∈ h, In0 v 1000) : In0 (rd h i) 1000 := by
  unfold rd
  rw [List.getD_eq_getElem?_getD]
  cases e : h[i.toNat]? with
  | none => exact ⟨by decide, by decide⟩
  | some v => exact hl v (List.mem_of_getElem? e)
theorem set_in {h : List Int} {i : Nat} {v : Int} (hl : ∀ v ∈ h, In0 v 1000) (hv : In0 v 1000) : ∀ x ∈ h.set i v, In0 x 1000 := fun x hx => by
  rcases List.mem_or_eq_of_mem_set hx with z | z
  · exact hl x z
  · rw [z]; exact hv
theorem mod_in {x : Int} : In0 (x % 1000) 1000 := ⟨Int.emod_nonneg _ (by decide), Int.emod_lt_of_pos _ (by decide)⟩
theorem Op3.v_in {o : Op3} {x y : Int} : In0 (o.v x y) 1000 := by
  cases o with
  | add => exact mod_in
  | take => exact mod_in
  | less =>
    show In0 (if x < y then 1 else 0) 1000
    split
    · exact ⟨by decide, by decide⟩
    · exact ⟨by decide, by decide⟩
theorem step_ok {names : Int} {rows : List Row} {m : Mc} {r : Row} (h : McOk names rows m) (hr : r.ok names rows.length) : McOk names rows (r.step m) := by
  obtain ⟨h1, h2, h3, h4⟩ := h
  cases r with
  | put d k => exact ⟨by simp [Row.step, h1], set_in h2 hr.2, by show 0 ≤ m.at_ + 1; omega, by show (m.said.length : Int) ≤ m.done + 1; omega⟩
  | copy d a => exact ⟨by simp [Row.step, h1], set_in h2 (rd_in h2), by show 0 ≤ m.at_ + 1; omega, by show (m.said.length : Int) ≤ m.done + 1; omega⟩
  | op o d a b => exact ⟨by simp [Row.step, h1], set_in h2 Op3.v_in, by show 0 ≤ m.at_ + 1; omega, by show (m.said.length : Int) ≤ m.done + 1; omega⟩
  | call d a => exact ⟨by simp [Row.step, h1], set_in h2 mod_in, by show 0 ≤ m.at_ + 1; omega, by show (m.said.length : Int) ≤ m.done + 1; omega⟩
  | say a => exact ⟨h1, h2, by show 0 ≤ m.at_ + 1; omega, by show ((m.said ++ [rd m.held a]).length : Int) ≤ m.done + 1; simp; omega⟩
  | ife a r => exact ⟨h1, h2, by show 0 ≤ (if rd m.held a = 0 then m.at_ + 1 else r); have := hr.2.1; split <;> omega, by show (m.said.length : Int) ≤ m.done + 1; omega⟩
  | go r => exact ⟨h1, h2, hr.1, by show (m.said.length : Int) ≤ m.done + 1; omega⟩
  | fin => exact ⟨h1, h2, by show 0 ≤ m.at_ + 1; omega, by show (m.said.length : Int) ≤ m.done + 1; omega⟩
theorem at_held {h : List Int} {a n : Int} (hl : (h.length : Int) = n) (ha : In0 a n) : at? (h.map D.int) a = some (.int (rd h a)) := by
  obtain ⟨k, rfl⟩ := Int.eq_ofNat_of_zero_le ha.1
  have hk : k < h.length := by have := ha.2; omega
  rw [at_nat, List.getElem?_map]
  unfold rd
  simp [hk, List.getD_eq_getElem?_getD]
theorem ixN_held {h : List Int} {a n : Int} (hl : (h.length : Int) = n) (ha : In0 a n) : ixN (h.map D.int).length a = some a.toNat := by
  obtain ⟨k, rfl⟩ := Int.eq_ofNat_of_zero_le ha.1
  have hk : k < h.length := by have := ha.2; omega
  unfold ixN
  simp [hk]
theorem at_rows {rows : List Row} {a : Int} (h : 0 ≤ a) {r : Row} (e : rows[a.toNat]? = some r) : at? (rows.map Row.D) a = some r.D := by
  obtain ⟨k, rfl⟩ := Int.eq_ofNat_of_zero_le h
  have e : rows[k]? = some r := e
  rw [at_nat, List.getElem?_map, e]
  rfl
def oneD (rows : List Row) (m : Mc) (sd : Nat) : MO := .ins 0 [(0, .tup (rows.map Row.D)), (1, .int m.at_), (2, .ref sd), (3, .int m.done)]
theorem over_eq {S : Sto} {P : D → Sto → Prop} {o sd : Nat} {rows : List Row} {m : Mc} (h : S[o]? = some (oneD rows m sd)) (ha : 0 ≤ m.at_) : wp (f_Run_is_over [.ref o] S) P = P (.bl (over rows m.at_)) S := by
  unfold f_Run_is_over b_Run_is_over
  have g0 : ∀ fs : List (Nat × D), fget ((0, D.tup (rows.map Row.D)) :: fs) 0 = some (.tup (rows.map Row.D)) := fun _ => rfl
  have g1 : ∀ (x : D) (fs : List (Nat × D)), fget ((0, x) :: (1, D.int m.at_) :: fs) 1 = some (.int m.at_) := fun _ _ => rfl
  simp_arith [insOf_ins h, g0, g1, List.length_map]
  unfold over
  cases e : rows[m.at_.toNat]? with
  | none =>
    have hl : (rows.length : Int) ≤ m.at_ := by have := List.getElem?_eq_none_iff.mp e; omega
    simp_arith [hl]
  | some r =>
    have hl : ¬ (rows.length : Int) ≤ m.at_ := by have := (List.getElem?_eq_some_iff.mp e).1; omega
    simp_arith [hl, at_rows ha e]
    cases r with
    | op o _ _ _ => cases o <;> (simp_arith [Row.D, at0, Row.isFin, Op3.s] <;> rfl)
    | _ => simp_arith [Row.D, at0, Row.isFin] <;> rfl
theorem cons_beq_nil {α : Type} [BEq α] {x : α} {xs : List α} : (x :: xs == []) = false := rfl
theorem nil_beq_cons {α : Type} [BEq α] {x : α} {xs : List α} : ([] == x :: xs) = false := rfl
theorem tree_strlit {S : Sto} {s : List Nat} : tree S EQD (.str s) = if s.all (fun c => decide (c < 1114112)) = true then some (.str s) else none := rfl
theorem makes_eq {S : Sto} {P : D → Sto → Prop} {r : Row} : wp (f_makes [r.D] S) P = P (.bl (match r with
    | .say _ => false | .ife _ _ => false | .go _ => false | .fin => false | _ => true)) S := by
  unfold f_makes b_makes
  cases r with
  | op o _ _ _ => cases o <;> (simp_arith [Row.D, at0, Op3.s]; (simp only [v_in, v_notIn, inB, D.scal, inTree, tree_strlit, allSome, List.all_cons, List.all_nil, List.any_cons, List.any_nil, J.eqv, List.cons_beq_cons, cons_beq_nil, nil_beq_cons, Nat.reduceBEq, Nat.reduceLT, decide_true, Bool.and_true, Bool.and_false, Bool.true_and, Bool.false_and, Bool.or_false, Bool.or_true, Bool.false_or, Bool.true_or, Bool.and_self, if_true, on_some, BEq.rfl, Bool.not_true, Bool.not_false, beq_self_eq_true]))
  | _ => simp_arith [Row.D, at0]; (simp only [v_in, v_notIn, inB, D.scal, inTree, tree_strlit, allSome, List.all_cons, List.all_nil, List.any_cons, List.any_nil, J.eqv, List.cons_beq_cons, cons_beq_nil, nil_beq_cons, Nat.reduceBEq, Nat.reduceLT, decide_true, Bool.and_true, Bool.and_false, Bool.true_and, Bool.false_and, Bool.or_false, Bool.or_true, Bool.false_or, Bool.true_or, Bool.and_self, if_true, on_some, BEq.rfl, Bool.not_true, Bool.not_false, beq_self_eq_true])
end PG
end
section
set_option linter.all false
set_option autoImplicit false
set_option maxRecDepth 100003
namespace PG
open PF
theorem fget0 {a : D} {fs : List (Nat × D)} : fget ((0, a) :: fs) 0 = some a := rfl
theorem fget1 {a b : D} {fs : List (Nat × D)} : fget ((0, a) :: (1, b) :: fs) 1 = some b := rfl
theorem fget2 {a b c : D} {fs : List (Nat × D)} : fget ((0, a) :: (1, b) :: (2, c) :: fs) 2 = some c := rfl
theorem fget3 {a b c d : D} {fs : List (Nat × D)} : fget ((0, a) :: (1, b) :: (2, c) :: (3, d) :: fs) 3 = some d := rfl
theorem fput1 {a b v : D} {fs : List (Nat × D)} : fput ((0, a) :: (1, b) :: fs) 1 v = (0, a) :: (1, v) :: fs := rfl
theorem fput3 {a b c d v : D} {fs : List (Nat × D)} : fput ((0, a) :: (1, b) :: (2, c) :: (3, d) :: fs) 3 v = (0, a) :: (1, b) :: (2, c) :: (3, v) :: fs := rfl
/-- what the row hands to go -/
def rsome (h : List Int) : Row → List D
  | .say a => [.int (rd h a)]
  | .ife a _ => [.int (rd h a)]
  | _ => []
theorem go_spec {S : Sto} {o sd t : Nat} {rows : List Row} {m : Mc} {r : Row} (hO : S[o]? = some (oneD rows m sd)) (hS : S[sd]? = some (.lst (m.said.map .int))) (ne : o ≠ sd) (hT : S[t]? = some (.lst (rsome m.held r))) (nt : t ≠ o) (ha : 0 ≤ m.at_) (e : rows[m.at_.toNat]? = some r) (hl : m.said.length < 10000) :
    wp (f_Run_go [.ref o, .ref t] S) fun d S' => d = .non ∧ S'[o]? = some (oneD rows (r.step m) sd) ∧ S'[sd]? = some (.lst ((r.step m).said.map .int)) ∧ Keep [o, sd] S S' := by
  have lo := lt_of_get hO
  have ls := lt_of_get hS
  have o1 : ∀ x, insOf 0 o (S.set o (.ins 0 x)) = some x := fun x => insOf_ins (get_set lo)
  have o2 : ∀ x y, insOf 0 o ((S.set o x).set o (.ins 0 y)) = some y := fun x y => insOf_ins (get_set (by simpa using lo))
  have t2 : ∀ x y, lstOf t ((S.set o x).set o y) = some (rsome m.held r) := fun x y => lstOf_lst (get_ne (get_ne hT (Ne.symm nt)) (Ne.symm nt))
  have s2 : ∀ x y, wrOf sd ((S.set o x).set o y) = some (m.said.map .int) := fun x y => wrOf_lst (get_ne (get_ne hS ne) ne)
  have l2 : ∀ x y, isL (.ref sd) ((S.set o x).set o y) = true := fun x y => isL_lst (get_ne (get_ne hS ne) ne)
  have kk : ∀ x y, Keep [o, sd] S ((S.set o x).set o y) := fun x y => .trans (.set (by simp)) (.set (by simp))
  have L : m.said.length < LIM := by unfold LIM; omega
  have A : ∀ x y, ((S.set o x).set o y)[o]? = some y := fun x y => get_set (by simpa using lo)
  have B : ∀ x y, ((S.set o x).set o y)[sd]? = some (.lst (m.said.map .int)) := fun x y => get_ne (get_ne hS ne) ne
  have C : ∀ x y v, (((S.set o x).set o y).set sd v)[o]? = some y := fun x y v => get_ne (A x y) (Ne.symm ne)
  have C2 : ∀ x y v, (((S.set o x).set o y).set sd v)[sd]? = some v := fun x y v => get_set (by simpa using ls)
  have F : ∀ x y v, (((S.set o x).set o y).set o v)[o]? = some v := fun x y v => get_set (by simpa using lo)
  have F2 : ∀ x y v, (((S.set o x).set o y).set o v)[sd]? = some (.lst (m.said.map .int)) := fun x y v => get_ne (B x y) ne
  have kC : ∀ x y v, Keep [o, sd] S (((S.set o x).set o y).set sd v) := fun x y v => (kk x y).trans (.set (by simp))
  have kF : ∀ x y v, Keep [o, sd] S (((S.set o x).set o y).set o v) := fun x y v => (kk x y).trans (.set (by simp))
  unfold f_Run_go b_Run_go
  cases r with
  | say a =>
    simp_arith [insOf_ins hO, fget0, fget1, fget2, fget3, fput1, fput3, o1, o2, at_rows ha e, Row.D, Op3.s, at0, at_1, at_2, t2, s2, l2, rsome, cons_beq_nil, nil_beq_cons, List.cons_beq_cons, Nat.reduceBEq, List.length_map, L, Nat.reduceLT]
    exact ⟨C _ _ _, by rw [C2]; simp [Row.step], kC _ _ _⟩
  | ife a r =>
    simp_arith [insOf_ins hO, fget0, fget1, fget2, fget3, fput1, fput3, o1, o2, at_rows ha e, Row.D, Op3.s, at0, at_1, at_2, t2, s2, l2, rsome, cons_beq_nil, nil_beq_cons, List.cons_beq_cons, Nat.reduceBEq, List.length_map, L, Nat.reduceLT]
    by_cases c : rd m.held a = 0
    · simp_arith [c]
      exact ⟨by rw [A]; simp [oneD, Row.step, c], B _ _, kk _ _⟩
    · have c' : (rd m.held a == 0) = false := by simpa using c
      simp_arith [c', insOf_ins (A _ _), fput1]
      exact ⟨by rw [F]; simp [oneD, Row.step, c], F2 _ _ _, kF _ _ _⟩
  | go r =>
    simp_arith [insOf_ins hO, fget0, fget1, fget2, fget3, fput1, fput3, o1, o2, at_rows ha e, Row.D, Op3.s, at0, at_1, at_2, t2, s2, l2, rsome, cons_beq_nil, nil_beq_cons, List.cons_beq_cons, Nat.reduceBEq, List.length_map, L, Nat.reduceLT]
    simp_arith [insOf_ins (A _ _), fput1]
    exact ⟨F _ _ _, F2 _ _ _, kF _ _ _⟩
  | op p d a b =>
    cases p <;> (simp_arith [insOf_ins hO, fget0, fget1, fget2, fget3, fput1, fput3, o1, o2, at_rows ha e, Row.D, Op3.s, at0, at_1, at_2, t2, s2, l2, rsome, cons_beq_nil, nil_beq_cons, List.cons_beq_cons, Nat.reduceBEq, List.length_map, L, Nat.reduceLT]; exact ⟨A _ _, B _ _, kk _ _⟩)
  | _ =>
    simp_arith [insOf_ins hO, fget0, fget1, fget2, fget3, fput1, fput3, o1, o2, at_rows ha e, Row.D, Op3.s, at0, at_1, at_2, t2, s2, l2, rsome, cons_beq_nil, nil_beq_cons, List.cons_beq_cons, Nat.reduceBEq, List.length_map, L, Nat.reduceLT]
    exact ⟨A _ _, B _ _, kk _ _⟩
end PG
end
section
set_option linter.all false
set_option autoImplicit false
set_option maxRecDepth 100003
namespace PF
section
variable {S : Sto} {P : D → Sto → Prop}
theorem w_addL {m n : Nat} : wp (gAdd (.ref m) (.ref n) S) P = on (wrOf m S) fun a => on (wrOf n S) fun b => a.length + b.length ≤ LIM ∧ P (.ref S.length) (S ++ [.lst (a ++ b)]) := by
  unfold gAdd
  cases h : wrOf m S with
  | none => simp only [h, on_none, wp_bad]
  | some a =>
    cases h2 : wrOf n S with
    | none => simp only [h, h2, on_none, on_some, wp_bad]
    | some b =>
      by_cases c : a.length + b.length ≤ LIM
      · simp only [h, h2, on_some, c, if_true, true_and, alloc, wp_ok]
      · simp only [h, h2, on_some, c, if_false, false_and, wp_bad]
theorem w_mulL {m : Nat} {k : Int} : wp (gMul (.ref m) (.int k) S) P = on (wrOf m S) fun a => (-(2 ^ 62) < k ∧ k < 2 ^ 62 ∧ a.length * k.toNat ≤ LIM) ∧ P (.ref S.length) (S ++ [.lst (rep a k.toNat)]) := by
  unfold gMul
  cases h : wrOf m S with
  | none => simp only [h, on_none, wp_bad]
  | some a =>
    rw [on_some]
    simp only [h]
    split
    · rename_i c
      simp only [c, true_and, alloc, wp_ok]
    · rename_i c
      simp only [c, false_and, wp_bad]
theorem rep_one {α : Type} {x : α} : ∀ k : Nat, rep [x] k = List.replicate k x
  | 0 => rfl
  | k + 1 => by
    have h := rep_one (x := x) k
    unfold rep at h ⊢
    rw [List.replicate_succ, List.flatten_cons, h]
    rfl
end
end PF
namespace PG
open PF
def tellD (sd : Nat) (rows : List Row) (m : Mc) : D := .tup [.ref sd, .tup [.str (if over rows m.at_ then z_end else z_long)], .int m.done]
def mc0 (params names : Int) (gs : List Int) : Mc := ⟨0, gs ++ List.replicate (names - params).toNat 0, [], 0⟩
theorem init_spec {S : Sto} {o : Nat} {rows : List Row} {h0 : List Int} (h : S[o]? = some (.ins 0 [])) : wp (f_Run___init__ [.ref o, .tup (rows.map Row.D)] S) fun d S' => d = .non ∧ ∃ sd, S'[o]? = some (oneD rows ⟨0, h0, [], 0⟩ sd) ∧ S'[sd]? = some (.lst []) ∧ o ≠ sd ∧ S.length ≤ sd ∧ Keep [o] S S' := by
  have lo := lt_of_get h
  unfold f_Run___init__ b_Run___init__
  simp_arith [insOf_ins h, fput]
  have k1 : Keep [o] S (S.set o (.ins 0 [(0, .tup (rows.map Row.D))])) := .set (by simp)
  have h1 : (S.set o (.ins 0 [(0, .tup (rows.map Row.D))]))[o]? = some (.ins 0 [(0, .tup (rows.map Row.D))]) := get_set lo
  have z1 : (S.set o (.ins 0 [(0, .tup (rows.map Row.D))])).length = S.length := by simp
  generalize S.set o (.ins 0 [(0, .tup (rows.map Row.D))]) = S1 at *
  simp_arith [insOf_ins h1, fput, show ¬ (0 = 1) by decide]
  have k2 : Keep [o] S (S1.set o (.ins 0 [(0, .tup (rows.map Row.D)), (1, .int 0)])) := k1.trans (.set (by simp))
  have h2 : (S1.set o (.ins 0 [(0, .tup (rows.map Row.D)), (1, .int 0)]))[o]? = some (.ins 0 [(0, .tup (rows.map Row.D)), (1, .int 0)]) := get_set (by omega)
  have z2 : (S1.set o (.ins 0 [(0, .tup (rows.map Row.D)), (1, .int 0)])).length = S.length := by simp [z1]
  generalize S1.set o (.ins 0 [(0, .tup (rows.map Row.D)), (1, .int 0)]) = S2 at *
  have h3 : (S2 ++ [.lst []])[o]? = some (.ins 0 [(0, .tup (rows.map Row.D)), (1, .int 0)]) := get_app h2
  have q3 : (S2 ++ [MO.lst []])[S.length]? = some (.lst []) := by rw [← z2]; exact get_last
  have k3 : Keep [o] S (S2 ++ [.lst []]) := k2.trans .app
  have l3 : o < (S2 ++ [MO.lst []]).length := lt_of_get h3
  rw [z2]
  generalize S2 ++ [MO.lst []] = S3 at *
  simp_arith [insOf_ins h3, fput, show ¬ (0 = 1) by decide, show ¬ (0 = 2) by decide, show ¬ (1 = 2) by decide]
  have ne : o ≠ S.length := by omega
  have h4 : ∀ x, (S3.set o x)[o]? = some x := fun x => get_set l3
  have q4 : ∀ x, (S3.set o x)[S.length]? = some (.lst []) := fun x => get_ne q3 ne
  simp_arith [insOf_ins (h4 _), fput, show ¬ (0 = 1) by decide, show ¬ (0 = 2) by decide, show ¬ (1 = 2) by decide, show ¬ (0 = 3) by decide, show ¬ (1 = 3) by decide, show ¬ (2 = 3) by decide]
  exact ⟨S.length, get_set (by simpa using l3), get_ne (q4 _) ne, ne, Nat.le_refl _, (k3.trans (.set (by simp))).trans (.set (by simp))⟩
theorem mrun_over {rows : List Row} {m : Mc} (h : over rows m.at_ = true) : ∀ n, mrun rows n m = m
  | 0 => rfl
  | n + 1 => by
    unfold over at h
    unfold mrun
    cases e : rows[m.at_.toNat]? with
    | none => rfl
    | some r =>
      rw [e] at h
      simp only at h
      simp only [h, if_true]
theorem mrun_step {rows : List Row} {m : Mc} {r : Row} (e : rows[m.at_.toNat]? = some r) (h : r.isFin = false) (n : Nat) : mrun rows (n + 1) m = mrun rows n (r.step m) := by
  rw [mrun]
  simp only [e, h, Bool.false_eq_true, if_false]
theorem not_over {rows : List Row} {a : Int} (h : over rows a = false) : ∃ r, rows[a.toNat]? = some r ∧ r.isFin = false := by
  unfold over at h
  cases e : rows[a.toNat]? with
  | none => rw [e] at h; cases h
  | some r => rw [e] at h; exact ⟨r, rfl, h⟩
theorem told_eq {S : Sto} {P : D → Sto → Prop} {o sd : Nat} {rows : List Row} {m : Mc} (h : S[o]? = some (oneD rows m sd)) (ha : 0 ≤ m.at_) : wp (f_Run_told [.ref o] S) P = P (tellD sd rows m) S := by
  unfold f_Run_told b_Run_told
  simp_arith [insOf_ins h, fget0, fget1, fget2, fget3, over_eq h ha]
  cases e : over rows m.at_ <;> simp_arith [tellD, e]
end PG
end
section
set_option linter.all false
set_option autoImplicit false
set_option maxRecDepth 100003
namespace PG
open PF
def isMk : Row → Bool
  | .say _ => false
  | .ife _ _ => false
  | .go _ => false
  | .fin => false
  | _ => true
def stMake : St := sIf (tE (eCall f_makes (aCons (eVar 5) (aNil)))) (sSub (eVar 3) (e2 gIx (eVar 5) (eC (.int 1))) (eCall f_told_by (aCons (eVar 5) (aCons (eIf (tE (e2 gNe (e2 gIx (eVar 5) (eC (.int 0))) (eC (.str z_put)))) (eComp (iSeq (eSlice (eVar 5) (oSome (eC (.int 2))) (oNone))) [6] (PF.gName 6) (tYes) (e2 gIx (eVar 3) (eVar 6))) (eLst (aNil))) (aNil))))) (sNext)
def stGo : St := sExpr (eMeth 0 f_Run_go (eVar 4) (aCons (eIf (tE (e2 gIn (e2 gIx (eVar 5) (eC (.int 0))) (eTup (aCons (eC (.str z_say)) (aCons (eC (.str z_if)) (aNil)))))) (eLst (aCons (e2 gIx (eVar 3) (e2 gIx (eVar 5) (eC (.int 1)))) (aNil))) (eLst (aNil))) (aNil)))
theorem mk_keep {S U : Sto} {hr : Nat} {x : MO} : Keep [hr] S ((S ++ U).set hr x) := .trans .app (.set (by simp))
theorem make_spec {S : Sto} {hr : Nat} {rows : List Row} {m : Mc} {r : Row} {names : Int} {p g f o c : Option D} (ok : McOk names rows m) (hr_ : r.ok names rows.length) (hH : S[hr]? = some (.lst (m.held.map .int))) :
    wp (stMake [p, g, f, some (.ref hr), o, some r.D, c] S) fun z S' => z = (.nx, [p, g, f, some (.ref hr), o, some r.D, c]) ∧ S'[hr]? = some (.lst ((r.step m).held.map .int)) ∧ Keep [hr] S S' := by
  have lh := lt_of_get hH
  have w1 : ∀ U, wrOf hr (S ++ U) = some (m.held.map .int) := fun U => wrOf_app hH
  have l0 := lstOf_lst hH
  have b1 : ∀ U x, ((S ++ U).set hr x)[hr]? = some x := fun U x => get_set (by rw [List.length_append]; omega)
  have last : ∀ (V : Sto) (ds : List D), lstOf V.length (V ++ [.lst ds]) = some ds := fun V ds => by rw [lstOf_len]; rfl
  have z1 : ∀ n : Nat, n ≤ 3 → n ≤ LIM := fun n h => by unfold LIM; omega
  have sq : ∀ x : Int, In0 x 1000 → (-(2 ^ 64) < x ∧ x < 2 ^ 64) := fun x h => by have := h.1; have := h.2; omega
  unfold stMake
  cases r with
  | put d k =>
    simp_arith [makes_eq]
    simp_arith [f_told_by, b_told_by, Row.D, at0, at_1, at_2, w1, ixN_held ok.len hr_.1, b1, last]
    exact ⟨by simp [Row.step], mk_keep⟩
  | copy d a =>
    simp_arith [makes_eq]
    simp_arith [f_told_by, b_told_by, Row.D, at0, at_1, at_2, w1, ixN_held ok.len hr_.1, b1, last, cons_beq_nil, nil_beq_cons, List.cons_beq_cons, Nat.reduceBEq, w_slice, w_onone, w_osome, w_gslT, cut3, chkOf, w_ccons, w_cnil, same_nil, l0, at_held ok.len hr_.2, z1 1 (by decide)]
    exact ⟨by simp [Row.step], mk_keep⟩
  | call d a =>
    have hv := rd_in (i := a) ok.lo
    simp_arith [makes_eq]
    simp_arith [f_told_by, b_told_by, f_called, b_called, Row.D, at0, at_1, at_2, w1, ixN_held ok.len hr_.1, b1, last, cons_beq_nil, nil_beq_cons, List.cons_beq_cons, Nat.reduceBEq, w_slice, w_onone, w_osome, w_gslT, cut3, chkOf, w_ccons, w_cnil, same_nil, l0, at_held ok.len hr_.2, z1 1 (by decide), w_mul (.inl (sq _ hv)), w_mulR 7 (by decide), w_mod (show (0 : Int) < 1000 by decide)]
    exact ⟨by simp [Row.step], mk_keep⟩
  | op q d a b =>
    simp_arith [makes_eq]
    cases q <;>
    simp_arith [f_told_by, b_told_by, f_reckoned, b_reckoned, Row.D, Op3.s, at0, at_1, at_2, w1, ixN_held ok.len hr_.1, b1, last, cons_beq_nil, nil_beq_cons, List.cons_beq_cons, Nat.reduceBEq, w_slice, w_onone, w_osome, w_gslT, cut4, chkOf, w_ccons, w_cnil, same_nil, l0, at_held ok.len hr_.2.1, at_held ok.len hr_.2.2, z1 2 (by decide), w_mod (show (0 : Int) < 1000 by decide)]
    · exact ⟨by simp [Row.step, Op3.v], mk_keep⟩
    · exact ⟨by simp [Row.step, Op3.v], mk_keep⟩
    · refine ⟨?_, mk_keep⟩
      by_cases c : rd m.held a < rd m.held b
      · simp [Row.step, Op3.v, b2i, c]
      · simp [Row.step, Op3.v, b2i, c]
  | _ =>
    simp_arith [makes_eq]
    exact ⟨hH, .refl⟩
theorem stgo_spec {S : Sto} {hr o sd : Nat} {rows : List Row} {m : Mc} {r : Row} {names : Int} {p g f c : Option D} (ok : McOk names rows m) (hr_ : r.ok names rows.length) (hH : S[hr]? = some (.lst ((r.step m).held.map .int)))
    (hO : S[o]? = some (oneD rows m sd)) (hS : S[sd]? = some (.lst (m.said.map .int))) (ne : o ≠ sd) (e : rows[m.at_.toNat]? = some r) (hl : m.said.length < 10000) :
    wp (stGo [p, g, f, some (.ref hr), some (.ref o), some r.D, c] S) fun z S' => z = (.nx, [p, g, f, some (.ref hr), some (.ref o), some r.D, c]) ∧ S'[o]? = some (oneD rows (r.step m) sd) ∧ S'[sd]? = some (.lst ((r.step m).said.map .int)) ∧ Keep [o, sd] S S' := by
  have lo := lt_of_get hO
  have go : ∀ ds : List D, ds = rsome m.held r → wp (f_Run_go [.ref o, .ref S.length] (S ++ [.lst ds])) fun d S' => d = .non ∧ S'[o]? = some (oneD rows (r.step m) sd) ∧ S'[sd]? = some (.lst ((r.step m).said.map .int)) ∧ Keep [o, sd] (S ++ [.lst ds]) S' := fun ds hd => by
    subst hd
    exact go_spec (get_app hO) (get_app hS) ne get_last (by omega) ok.at0 e hl
  have fin : ∀ ds : List D, ds = rsome m.held r → wp (f_Run_go [.ref o, .ref S.length] (S ++ [.lst ds])) fun x S' => S'[o]? = some (oneD rows (r.step m) sd) ∧ S'[sd]? = some (.lst ((r.step m).said.map .int)) ∧ Keep [o, sd] S S' := fun ds hd =>
    wp_mono (go ds hd) fun d S' ⟨_, h1, h2, h3⟩ => ⟨h1, h2, .trans .app h3⟩
  have l0 := lstOf_lst hH
  unfold stGo
  cases r with
  | say a =>
    have l1 : lstOf hr S = some (m.held.map .int) := l0
    simp_arith [insOf_ins hO, Row.D, at0, at_1]
    (simp only [v_in, v_notIn, inB, D.scal, inTree, tree_strlit, allSome, List.all_cons, List.all_nil, List.any_cons, List.any_nil, J.eqv, List.cons_beq_cons, cons_beq_nil, nil_beq_cons, Nat.reduceBEq, Nat.reduceLT, decide_true, Bool.and_true, Bool.and_false, Bool.true_and, Bool.false_and, Bool.or_false, Bool.or_true, Bool.false_or, Bool.true_or, Bool.and_self, if_true, on_some, BEq.rfl, Bool.not_true, Bool.not_false, beq_self_eq_true])
    simp_arith [l1, at_held ok.len hr_]
    exact fin _ rfl
  | ife a r =>
    have l1 : lstOf hr S = some (m.held.map .int) := l0
    simp_arith [insOf_ins hO, Row.D, at0, at_1]
    (simp only [v_in, v_notIn, inB, D.scal, inTree, tree_strlit, allSome, List.all_cons, List.all_nil, List.any_cons, List.any_nil, J.eqv, List.cons_beq_cons, cons_beq_nil, nil_beq_cons, Nat.reduceBEq, Nat.reduceLT, decide_true, Bool.and_true, Bool.and_false, Bool.true_and, Bool.false_and, Bool.or_false, Bool.or_true, Bool.false_or, Bool.true_or, Bool.and_self, if_true, on_some, BEq.rfl, Bool.not_true, Bool.not_false, beq_self_eq_true])
    simp_arith [l1, at_held ok.len hr_.1]
    exact fin _ rfl
  | op q d a b =>
    cases q <;> (simp_arith [insOf_ins hO, Row.D, Op3.s, at0, at_1]; (simp only [v_in, v_notIn, inB, D.scal, inTree, tree_strlit, allSome, List.all_cons, List.all_nil, List.any_cons, List.any_nil, J.eqv, List.cons_beq_cons, cons_beq_nil, nil_beq_cons, Nat.reduceBEq, Nat.reduceLT, decide_true, Bool.and_true, Bool.and_false, Bool.true_and, Bool.false_and, Bool.or_false, Bool.or_true, Bool.false_or, Bool.true_or, Bool.and_self, if_true, on_some, BEq.rfl, Bool.not_true, Bool.not_false, beq_self_eq_true]); simp_arith []; exact fin _ rfl)
  | _ =>
    simp_arith [insOf_ins hO, Row.D, at0, at_1]
    (simp only [v_in, v_notIn, inB, D.scal, inTree, tree_strlit, allSome, List.all_cons, List.all_nil, List.any_cons, List.any_nil, J.eqv, List.cons_beq_cons, cons_beq_nil, nil_beq_cons, Nat.reduceBEq, Nat.reduceLT, decide_true, Bool.and_true, Bool.and_false, Bool.true_and, Bool.false_and, Bool.or_false, Bool.or_true, Bool.false_or, Bool.true_or, Bool.and_self, if_true, on_some, BEq.rfl, Bool.not_true, Bool.not_false, beq_self_eq_true])
    simp_arith []
    exact fin _ rfl
end PG
end
section
set_option linter.all false
set_option autoImplicit false
set_option maxRecDepth 100003
namespace PG
open PF
theorem mc0_ok {params names : Int} {rows : List Row} {gs : List Int} (h : ProgOk params names rows) (hl : (gs.length : Int) = params) (hg : ∀ g ∈ gs, In0 g 1000) : McOk names rows (mc0 params names gs) := by
  refine ⟨?_, fun v hv => ?_, Int.le_refl 0, Int.le_refl 0⟩
  · have h1 := h.pr
    show ((gs ++ List.replicate (names - params).toNat (0 : Int)).length : Int) = names
    rw [List.length_append, List.length_replicate]
    omega
  · rcases List.mem_append.mp hv with z | z
    · exact hg v z
    · have := List.eq_of_mem_replicate z
      subst this
      exact ⟨by decide, by decide⟩
theorem step_done {m : Mc} {r : Row} : (r.step m).done = m.done + 1 := by cases r <;> rfl
theorem stMake_eq : sIf (tE (eCall f_makes (aCons (eVar 5) (aNil)))) (sSub (eVar 3) (e2 gIx (eVar 5) (eC (.int 1))) (eCall f_told_by (aCons (eVar 5) (aCons (eIf (tE (e2 gNe (e2 gIx (eVar 5) (eC (.int 0))) (eC (.str z_put)))) (eComp (iSeq (eSlice (eVar 5) (oSome (eC (.int 2))) (oNone))) [6] (PF.gName 6) (tYes) (e2 gIx (eVar 3) (eVar 6))) (eLst (aNil))) (aNil))))) (sNext) = stMake := rfl
theorem stGo_eq : sExpr (eMeth 0 f_Run_go (eVar 4) (aCons (eIf (tE (e2 gIn (e2 gIx (eVar 5) (eC (.int 0))) (eTup (aCons (eC (.str z_say)) (aCons (eC (.str z_if)) (aNil)))))) (eLst (aCons (e2 gIx (eVar 3) (e2 gIx (eVar 5) (eC (.int 1)))) (aNil))) (eLst (aNil))) (aNil))) = stGo := rfl
theorem run_spec {S : Sto} {params names fuel : Int} {rows : List Row} {gs : List Int} (h : ProgOk params names rows) (hl : (gs.length : Int) = params) (hg : ∀ g ∈ gs, In0 g 1000) (hf : 0 ≤ fuel ∧ fuel ≤ 1000) :
    wp (f_run [progD params names rows, .tup (gs.map .int), .int fuel] S) fun d S' => ∃ sd, d = tellD sd rows (mrun rows fuel.toNat (mc0 params names gs)) ∧ S'[sd]? = some (.lst ((mrun rows fuel.toNat (mc0 params names gs)).said.map .int)) ∧ S.length ≤ sd ∧ Keep [] S S' := by
  have hp := h.pr
  have hn := h.nm
  have hm0 := mc0_ok h hl hg
  unfold f_run b_run
  rw [stMake_eq, stGo_eq]
  simp_arith []
  refine wp_mono (need_program_spec h) ?_
  rintro _ S1 ⟨rfl, k1⟩
  refine wp_mono (need_given_spec hl hg) ?_
  rintro _ S2 ⟨rfl, k2⟩
  refine wp_mono (need_fuel_spec hf) ?_
  rintro _ S3 ⟨rfl, rfl⟩
  have w0 : wrOf S3.length ((S3 ++ [.lst (gs.map .int)]) ++ [.lst [.int 0]]) = some (gs.map .int) := wrOf_app get_last
  have w1 : wrOf (S3 ++ [MO.lst (gs.map .int)]).length ((S3 ++ [.lst (gs.map .int)]) ++ [.lst [.int 0]]) = some [.int 0] := wrOf_lst get_last
  have w2 : ∀ x, wrOf S3.length (((S3 ++ [.lst (gs.map .int)]) ++ [.lst [.int 0]]) ++ [x]) = some (gs.map .int) := fun x => wrOf_app (get_app get_last)
  have hfit : -(2 ^ 62) < names - params ∧ names - params < 2 ^ 62 ∧ 1 * (names - params).toNat ≤ LIM := by unfold LIM; omega
  have eh : gs.map D.int ++ rep [D.int 0] (names - params).toNat = (mc0 params names gs).held.map .int := by
    rw [rep_one]
    simp [mc0]
  have hfit2 : (gs.map D.int).length + (rep [D.int 0] (names - params).toNat).length ≤ LIM := by
    rw [rep_one, List.length_map, List.length_replicate]
    unfold LIM
    omega
  unfold progD
  simp_arith [at0, at_1, at_2, w_mulL, w1, hfit]
  have w3 : wrOf ((S3 ++ [MO.lst (gs.map .int)]) ++ [MO.lst [D.int 0]]).length (((S3 ++ [.lst (gs.map .int)]) ++ [.lst [.int 0]]) ++ [.lst (rep [D.int 0] (names - params).toNat)]) = some (rep [D.int 0] (names - params).toNat) := wrOf_lst get_last
  simp_arith [w_addL, w2, w3, hfit2, eh]
  have k3 : Keep [] S ((((S3 ++ [.lst (gs.map .int)]) ++ [.lst [.int 0]]) ++ [.lst (rep [D.int 0] (names - params).toNat)]) ++ [.lst ((mc0 params names gs).held.map .int)]) := (k1.trans k2).trans (.trans (.trans (.trans .app .app) .app) .app)
  have hlen : S.length ≤ (((S3 ++ [MO.lst (gs.map .int)]) ++ [MO.lst [D.int 0]]) ++ [MO.lst (rep [D.int 0] (names - params).toNat)]).length := by
    have := k1.len
    have := k2.len
    simp
    omega
  have hH : ((((S3 ++ [MO.lst (gs.map .int)]) ++ [MO.lst [D.int 0]]) ++ [MO.lst (rep [D.int 0] (names - params).toNat)]) ++ [MO.lst ((mc0 params names gs).held.map .int)])[(((S3 ++ [MO.lst (gs.map .int)]) ++ [MO.lst [D.int 0]]) ++ [MO.lst (rep [D.int 0] (names - params).toNat)]).length]? = some (.lst ((mc0 params names gs).held.map .int)) := get_last
  generalize hr_e : (((S3 ++ [MO.lst (gs.map .int)]) ++ [MO.lst [D.int 0]]) ++ [MO.lst (rep [D.int 0] (names - params).toNat)]).length = hr at *
  generalize ((((S3 ++ [MO.lst (gs.map .int)]) ++ [MO.lst [D.int 0]]) ++ [MO.lst (rep [D.int 0] (names - params).toNat)]) ++ [MO.lst ((mc0 params names gs).held.map .int)]) = S4 at *
  have hr4 := lt_of_get hH
  refine wp_mono (init_spec (h0 := (mc0 params names gs).held) get_last) ?_
  rintro _ S5 ⟨rfl, sd, hO, hS, ne, hsd, k5⟩
  have hH5 : S5[hr]? = some (.lst ((mc0 params names gs).held.map .int)) := k5.at (get_app hH) (by simp; omega)
  have K5 : Keep [] S S5 := by
    refine k3.trans (Keep.new (W := [S4.length]) ?_ (by simp))
    exact Keep.trans .app k5
  have lsd : S4.length + 1 ≤ sd := by simpa using hsd
  simp_arith []
  generalize ho : S4.length = o at *
  refine wp_while (fun n ρ S' => ∃ (m : Mc) (c1 c2 : Option D), ρ = [some (progD params names rows), some (.tup (gs.map .int)), some (.int fuel), some (.ref hr), some (.ref o), c1, c2] ∧ McOk names rows m ∧ 0 ≤ m.done ∧ m.done ≤ fuel ∧ n = (fuel - m.done).toNat ∧ mrun rows n m = mrun rows fuel.toNat (mc0 params names gs) ∧
    S'[hr]? = some (.lst (m.held.map .int)) ∧ S'[o]? = some (oneD rows m sd) ∧ S'[sd]? = some (.lst (m.said.map .int)) ∧ Keep [] S S') fuel.toNat (by unfold TURNS; omega) ?_ ⟨mc0 params names gs, none, none, rfl, hm0, Int.le_refl 0, hf.1, by show _ = (fuel - 0).toNat; omega, rfl, hH5, hO, hS, K5⟩
  rintro n ρ S6 ⟨m, c1, c2, rfl, ok, d0, d1, en, em, gH, gO, gS, K6⟩
  have done : ∀ S7 : Sto, S7 = S6 → mrun rows fuel.toNat (mc0 params names gs) = m → wp (f_Run_told [.ref o] S7) fun d S' => ∃ sd, d = tellD sd rows (mrun rows fuel.toNat (mc0 params names gs)) ∧ S'[sd]? = some (.lst ((mrun rows fuel.toNat (mc0 params names gs)).said.map .int)) ∧ S.length ≤ sd ∧ Keep [] S S' := by
    rintro S7 rfl e
    rw [told_eq gO ok.at0, e]
    exact ⟨sd, rfl, gS, by omega, K6⟩
  have e01 : insOf 0 o S6 = some [(0, .tup (rows.map Row.D)), (1, .int m.at_), (2, .ref sd), (3, .int m.done)] := insOf_ins gO
  simp_arith [e01, over_eq gO ok.at0]
  cases ov : over rows m.at_ with
  | true =>
    simp_arith [e01]
    exact done S6 rfl (by rw [← em, mrun_over ov])
  | false =>
    obtain ⟨r, er, fr⟩ := not_over ov
    simp_arith [e01, fget3]
    by_cases c : m.done < fuel
    · simp_arith [c, e01, fget0, fget1, at_rows ok.at0 er]
      have hrk := h.ok r (List.mem_of_getElem? er)
      refine wp_mono (make_spec ok hrk gH) ?_
      rintro _ S8 ⟨rfl, g8, k8⟩
      simp_arith []
      have nho : hr ≠ o := by omega
      have nhs : hr ≠ sd := by omega
      have gO8 : S8[o]? = some (oneD rows m sd) := k8.at gO (by simp; exact Ne.symm nho)
      have gS8 : S8[sd]? = some (.lst (m.said.map .int)) := k8.at gS (by simp; exact Ne.symm nhs)
      have hsl : m.said.length < 10000 := by have := ok.sd; omega
      refine wp_mono (stgo_spec ok hrk g8 gO8 gS8 ne er hsl) ?_
      rintro _ S9 ⟨rfl, gO9, gS9, k9⟩
      obtain ⟨n', rfl⟩ : ∃ n', n = n' + 1 := ⟨n - 1, by omega⟩
      have sd1 := step_done (m := m) (r := r)
      refine ⟨n', by omega, r.step m, some r.D, c2, rfl, step_ok ok hrk, by omega, by omega, by omega, ?_, k9.at g8 (by simp; exact ⟨nho, nhs⟩), gO9, gS9, ?_⟩
      · rw [← em, mrun_step er fr]
      · exact K6.past (W := [hr, o, sd]) ((k8.mono (by intro i _ h; simp at h ⊢; omega)).trans (k9.mono (by intro i _ h; simp at h ⊢; omega))) (by intro i h; simp at h; omega)
    · simp_arith [c, e01]
      have en0 : n = 0 := by omega
      subst en0
      exact done S6 rfl em.symm
end PG
end
section
set_option linter.all false
set_option autoImplicit false
set_option maxRecDepth 100003
namespace PF
section
variable {S : Sto} {ρ : Env} {P : D → Sto → Prop}
theorem v_get {o k v : E} : wp (eGet o k v ρ S) P = wp (o ρ S) fun x S => ∃ n, x = .ref n ∧ on (dicOf n S) fun _ => wp (k ρ S) fun y S1 => wp (v ρ S1) fun z S2 => on (dicOf n S2) fun kvs => keyOk y = true ∧ P ((dget kvs y).getD z) S2 := by
  unfold eGet
  rw [wp_bind]
  congr
  funext x S
  cases x with
  | ref n =>
    have key : ∀ y z S2, wp (match dicOf n S2 with | some kvs => if keyOk y = true then .ok ((dget kvs y).getD z) S2 else .bad | none => .bad) P = on (dicOf n S2) fun kvs => keyOk y = true ∧ P ((dget kvs y).getD z) S2 := fun y z S2 => by
      cases h : dicOf n S2 with
      | none => simp only [on_none, wp_bad]
      | some kvs =>
        by_cases c : keyOk y = true
        · simp only [on_some, c, if_true, true_and, wp_ok]
        · simp only [on_some, c, if_false, false_and, wp_bad, Bool.false_eq_true]
    refine propext ⟨fun h => ⟨n, rfl, ?_⟩, fun ⟨m, e, h⟩ => ?_⟩
    · cases e : dicOf n S with
      | none => simp [e, wp_bad] at h
      | some fs =>
        simp only [e, wp_bind] at h
        rw [on_some]
        exact (congrArg (wp (k ρ S)) (funext fun y => funext fun S1 => congrArg (wp (v ρ S1)) (funext fun z => funext fun S2 => key y z S2))).mp h
    · cases e
      cases e : dicOf n S with
      | none => rw [e, on_none] at h; exact h.elim
      | some fs =>
        rw [e, on_some] at h
        simp only [e, wp_bind]
        exact (congrArg (wp (k ρ S)) (funext fun y => funext fun S1 => congrArg (wp (v ρ S1)) (funext fun z => funext fun S2 => key y z S2))).mpr h
  | _ => simp [wp_bad]
end
end PF
namespace PG
open PF
end PG
end
section
set_option linter.all false
set_option autoImplicit false
set_option maxRecDepth 100003
namespace PG
open PF
theorem b2iF : b2i false = 0 := rfl
theorem b2iT : b2i true = 1 := rfl
end PG
end
section
set_option linter.all false
set_option autoImplicit false
set_option maxRecDepth 100003
namespace PG
open PF
def Ev (k : Nat) (x y : D) (S : Sto) : Prop := wp (f__law_alike k [x, y] S) fun d S' => d = .bl true ∧ S' = S
theorem al_int {k : Nat} {S : Sto} {i : Int} : Ev (k + 1) (.int i) (.int i) S := by
  unfold Ev f__law_alike b__law_alike
  simp_arith [reduceCtorEq]
theorem al_str {k : Nat} {S : Sto} {i : List Nat} : Ev (k + 1) (.str i) (.str i) S := by
  unfold Ev f__law_alike b__law_alike
  simp_arith [reduceCtorEq]
theorem al_bl {k : Nat} {S : Sto} {i : Bool} : Ev (k + 1) (.bl i) (.bl i) S := by
  unfold Ev f__law_alike b__law_alike
  simp_arith [reduceCtorEq]
theorem al_non {k : Nat} {S : Sto} : Ev (k + 1) .non .non S := by
  unfold Ev f__law_alike b__law_alike
  simp_arith []
theorem al_loop {k : Nat} {x y : D} {xs ys : List D} {S : Sto} {c : Option D} (hl : xs.length = ys.length) (hn : ys.length < 2 ^ 62) (hx : ∀ (i : Nat) (P : D → Sto → Prop), wp (gIx x (.int (i : Int)) S) P = on xs[i]? fun d => P d S) (hy : ∀ (i : Nat) (P : D → Sto → Prop), wp (gIx y (.int (i : Int)) S) P = on ys[i]? fun d => P d S)
    (h : ∀ (i : Nat) (a b : D), xs[i]? = some a → ys[i]? = some b → Ev k a b S) :
    wp (forLoop ⟨[], rangeD 0 ys.length⟩ (PF.gName 2) (sIf (PF.tNot (tE (eCall (f__law_alike k) (aCons (e2 gIx (eVar 0) (eVar 2)) (aCons (e2 gIx (eVar 1) (eVar 2)) (aNil)))))) (sRet (eC (.bl false))) (sNext)) (rangeD 0 ys.length) [some x, some y, c] S) fun r S' => r.1 = .nx ∧ S' = S ∧ ∃ c', r.2 = [some x, some y, c'] := by
  refine wp_for (it := ⟨[], rangeD 0 ys.length⟩) (fun k ρ S' => S' = S ∧ ∃ c, ρ = [some x, some y, c]) (fun _ _ _ _ => rfl) ?_ ⟨rfl, c, rfl⟩ ?_
  · rintro i z ρ S1 hz ⟨rfl, c, rfl⟩
    obtain ⟨rfl, hlt⟩ := rangeD_get hz
    have hi : i < ys.length := by omega
    refine ⟨_, rfl, ?_⟩
    have e : (0 : Int) + (i : Int) = i := by omega
    simp_arith [e, hx, hy]
    have ex : xs[i]? = some xs[i] := by simp [hl, hi]
    have ey : ys[i]? = some ys[i] := by simp [hi]
    rw [ex, ey, on_some, on_some]
    refine wp_mono (h i _ _ ex ey) ?_
    rintro _ S2 ⟨rfl, rfl⟩
    simp_arith []
    exact ⟨_, rfl⟩
  · rintro ρ S1 ⟨rfl, c, rfl⟩
    exact ⟨rfl, rfl, c, rfl⟩
theorem al_tup {k : Nat} {S : Sto} {xs ys : List D} (hl : xs.length = ys.length) (hn : ys.length < 2 ^ 62) (h : ∀ (i : Nat) (a b : D), xs[i]? = some a → ys[i]? = some b → Ev k a b S) : Ev (k + 1) (.tup xs) (.tup ys) S := by
  unfold Ev f__law_alike b__law_alike
  have e : (((xs.length : Nat) : Int) == (ys.length : Int)) = true := by rw [hl]; exact beq_self_eq_true _
  simp_arith [reduceCtorEq, e]
  refine ⟨by omega, ?_⟩
  refine wp_mono (al_loop hl hn (fun i P => by rw [v_ixT, at_nat]) (fun i P => by rw [v_ixT, at_nat]) h) ?_
  rintro ⟨f, ρ⟩ S1 ⟨rfl, rfl, c, rfl⟩
  simp_arith []
theorem al_lst {k : Nat} {S : Sto} {n m : Nat} {xs ys : List D} (h1 : lstOf n S = some xs) (h2 : lstOf m S = some ys) (hl : xs.length = ys.length) (hn : ys.length < 2 ^ 62) (h : ∀ (i : Nat) (a b : D), xs[i]? = some a → ys[i]? = some b → Ev k a b S) : Ev (k + 1) (.ref n) (.ref m) S := by
  unfold Ev f__law_alike b__law_alike
  have e : (((xs.length : Nat) : Int) == (ys.length : Int)) = true := by rw [hl]; exact beq_self_eq_true _
  simp_arith [reduceCtorEq, isK_ref h1, isK_ref h2, h1, h2, e]
  refine ⟨by omega, ?_⟩
  refine wp_mono (al_loop hl hn (fun i P => by rw [v_ixL, h1, on_some, at_nat]) (fun i P => by rw [v_ixL, h2, on_some, at_nat]) h) ?_
  rintro ⟨f, ρ⟩ S1 ⟨rfl, rfl, c, rfl⟩
  simp_arith []
theorem al_ints {k : Nat} {S : Sto} {n m : Nat} {is : List Int} (h1 : lstOf n S = some (is.map .int)) (h2 : lstOf m S = some (is.map .int)) (hn : is.length < 2 ^ 62) : Ev (k + 2) (.ref n) (.ref m) S :=
  al_lst h1 h2 rfl (by simpa using hn) fun i a b ha hb => by
    rw [ha] at hb
    cases hb
    rw [List.getElem?_map] at ha
    cases e : is[i]? with
    | none => rw [e] at ha; cases ha
    | some v => rw [e] at ha; cases ha; exact al_int
/-- tuples, item by item -/
theorem al_nil {k : Nat} {S : Sto} : ∀ (i : Nat) (a b : D), ([] : List D)[i]? = some a → ([] : List D)[i]? = some b → Ev k a b S := fun i a b h => by simp at h
theorem al_cons {k : Nat} {S : Sto} {x y : D} {xs ys : List D} (h : Ev k x y S) (t : ∀ (i : Nat) (a b : D), xs[i]? = some a → ys[i]? = some b → Ev k a b S) : ∀ (i : Nat) (a b : D), (x :: xs)[i]? = some a → (y :: ys)[i]? = some b → Ev k a b S
  | 0, a, b, ha, hb => by cases ha; cases hb; exact h
  | i + 1, a, b, ha, hb => t i a b (by simpa using ha) (by simpa using hb)
end PG
end
section
set_option linter.all false
set_option autoImplicit false
set_option maxRecDepth 100003
namespace PF
theorem sortI_id : ∀ {l : List Int}, l.Pairwise (· < ·) → sortI l = l
  | [], _ => rfl
  | x :: l, h => by
    have h2 := List.pairwise_cons.mp h
    have ih : sortBy (fun a b => decide (a < b)) l = l := sortI_id h2.2
    show ins (fun a b => decide (a < b)) x (sortBy (fun a b => decide (a < b)) l) = x :: l
    rw [ih]
    cases l with
    | nil => rfl
    | cons y r =>
      have hy := h2.1 y List.mem_cons_self
      have e : decide (y < x) = false := decide_eq_false (by omega)
      unfold ins
      simp only [e, Bool.false_eq_true, if_false]
theorem dedup_id : ∀ {l : List Int}, l.Pairwise (· < ·) → dedup l = l
  | [], _ => rfl
  | x :: l, h => by
    have h2 := List.pairwise_cons.mp h
    unfold dedup
    rw [dedup_id h2.2]
    congr 1
    refine List.filter_eq_self.mpr fun y hy => ?_
    have := h2.1 y hy
    exact decide_eq_true (by omega)
theorem intsOf_map : ∀ l : List Int, intsOf (l.map D.int) = some l
  | [] => rfl
  | i :: l => by
    show (intsOf (l.map D.int)).map (i :: ·) = _
    rw [intsOf_map l]
    rfl
theorem w_sset {S : Sto} {P : D → Sto → Prop} {is : List Int} (h : is.Pairwise (· < ·)) (hl : is.length < 64) : wp (fSortedSet [.tup (is.map .int)] S) P = P (.ref S.length) (S ++ [.lst (is.map .int)]) := by
  unfold fSortedSet
  simp only [intsOf_map, if_pos hl, dedup_id h, sortI_id h, alloc, wp_ok]
end PF
namespace PG
open PF
def frameD (boxes slots : Int) (eaten : List Int) : D := .tup [.int boxes, .int slots, .tup (eaten.map .int)]
structure FrameOk (boxes slots : Int) (eaten : List Int) : Prop where
  bx : 1 ≤ boxes ∧ boxes ≤ 6
  sl : 0 ≤ slots ∧ slots ≤ 8
  up : eaten.Pairwise (· < ·)
  wi : ∀ e ∈ eaten, In0 e boxes
theorem up_len : ∀ {l : List Int} {lo n : Int}, l.Pairwise (· < ·) → (∀ e ∈ l, lo ≤ e ∧ e < n) → lo ≤ n → (l.length : Int) ≤ n - lo
  | [], lo, n, _, _, h => by show (0 : Int) ≤ _; omega
  | x :: l, lo, n, hp, hw, h => by
    have h2 := List.pairwise_cons.mp hp
    have hx := hw x List.mem_cons_self
    have := up_len (l := l) (lo := x + 1) (n := n) h2.2 (fun e he => ⟨by have := h2.1 e he; omega, (hw e (List.mem_cons_of_mem _ he)).2⟩) (by omega)
    rw [List.length_cons]
    omega
theorem FrameOk.len {boxes slots : Int} {eaten : List Int} (h : FrameOk boxes slots eaten) : eaten.length ≤ 6 := by
  have := up_len (lo := 0) h.up (fun e he => h.wi e he) (by have := h.bx; omega)
  have := h.bx
  omega
theorem frame_spec {b q : Nat} {S : Sto} (hB : Box b q S) : wp (f__law_frame [.ref b] S) fun d S' => ∃ boxes slots eaten, d = frameD boxes slots eaten ∧ FrameOk boxes slots eaten ∧ Box b q S' ∧ Keep [b, q] S S' := by
  unfold f__law_frame b__law_frame
  simp_arith []
  refine take_in hB (by decide) fun x1 S1 i1 B1 k1 => ?_
  simp_arith []
  refine take_in B1 (by decide) fun x2 S2 i2 B2 k2 => ?_
  simp_arith []
  refine take_in B2 (by decide) fun x3 S3 i3 B3 k3 => ?_
  simp_arith []
  refine take_in B3.app (by decide) fun r S4 i4 B4 k4 => ?_
  have K4 := ((k1.trans k2).trans k3).trans (Keep.trans .app k4)
  have hb : ∃ boxes : Int, on (at? [D.int (3 + x1), D.int (3 + x2), D.int (1 + x3)] r) (fun d => d = .int boxes) ∧ 1 ≤ boxes ∧ boxes ≤ 6 := by
    unfold In0 at i1 i2 i3
    obtain rfl | rfl | rfl : r = 0 ∨ r = 1 ∨ r = 2 := by unfold In0 at i4; omega
    · exact ⟨_, by rw [at0]; exact ⟨_, rfl, rfl⟩, by omega, by omega⟩
    · exact ⟨_, by rw [at_lit 1 1 rfl]; exact ⟨_, rfl, rfl⟩, by omega, by omega⟩
    · exact ⟨_, by rw [at_lit 2 2 rfl]; exact ⟨_, rfl, rfl⟩, by omega, by omega⟩
  obtain ⟨boxes, ⟨_, e1, rfl⟩, hb⟩ := hb
  refine ix_new B3 k4 ?_
  rw [e1, on_some]
  refine take_in B4 (by decide) fun x5 S5 i5 B5 k5 => ?_
  refine take_in B5.app (by decide) fun r2 S6 i6 B6 k6 => ?_
  have K6 := (K4.trans k5).trans (Keep.trans .app k6)
  have hs : ∃ slots : Int, on (at? [D.int 8, D.int x5] r2) (fun d => d = .int slots) ∧ 0 ≤ slots ∧ slots ≤ 8 := by
    unfold In0 at i5
    obtain rfl | rfl : r2 = 0 ∨ r2 = 1 := by unfold In0 at i6; omega
    · exact ⟨8, by rw [at0]; exact ⟨_, rfl, rfl⟩, by decide, by decide⟩
    · exact ⟨x5, by rw [at_lit 1 1 rfl]; exact ⟨_, rfl, rfl⟩, by omega, by omega⟩
  obtain ⟨slots, ⟨_, e2, rfl⟩, hs⟩ := hs
  refine ix_new B5 k6 ?_
  rw [e2, on_some]
  refine ⟨boxes, rfl, by omega, ?_⟩
  have hl : (rangeD 0 boxes).length = boxes.toNat := by rw [rangeD_len]; omega
  refine wp_mono (wp_loop (it := ⟨[], rangeD 0 boxes⟩) (fun k acc S' => ∃ eaten : List Int, acc = eaten.map D.int ∧ eaten.Pairwise (· < ·) ∧ (∀ e ∈ eaten, In0 e k) ∧ Box b q S' ∧ Keep [b, q] S S') (fun _ _ _ _ => rfl) ?_ ⟨[], rfl, List.Pairwise.nil, fun _ h => (nomatch h), B6, K6⟩) ?_
  · rintro k x acc S7 hx ⟨eaten, rfl, up, wi, B7, K7⟩
    obtain ⟨rfl, hlt⟩ := rangeD_get hx
    refine ⟨_, rfl, ?_⟩
    simp_arith []
    refine take_in B7 (by decide) fun y S8 i8 B8 k8 => ?_
    simp_arith []
    by_cases c : y = 0
    · have cb : (y == 0) = true := by simpa using c
      simp_arith [cb]
      refine ⟨eaten ++ [0 + (k : Int)], by simp, ?_, fun e he => ?_, B8, K7.trans k8⟩
      · refine List.pairwise_append.mpr ⟨up, List.pairwise_singleton .., fun e he z hz => ?_⟩
        have : z = 0 + (k : Int) := by simpa using hz
        have := (wi e he).2
        omega
      · rcases List.mem_append.mp he with h | h
        · have := wi e h
          exact ⟨this.1, by have := this.2; omega⟩
        · have : e = 0 + (k : Int) := by simpa using h
          exact ⟨by omega, by omega⟩
    · have cb : (y == 0) = false := by simpa using c
      simp_arith [cb]
      exact ⟨eaten, rfl, up, fun e he => ⟨(wi e he).1, by have := (wi e he).2; omega⟩, B8, K7.trans k8⟩
  · rintro ys S7 ⟨eaten, rfl, up, wi, B7, K7⟩
    have wi2 : ∀ e ∈ eaten, In0 e boxes := fun e he => ⟨(wi e he).1, by have h1 := (wi e he).2; have h2 : (Iter.mk [] (rangeD 0 boxes)).all.length = boxes.toNat := hl; omega⟩
    have ok : FrameOk boxes slots eaten := ⟨hb, hs, up, wi2⟩
    refine ⟨by rw [List.length_map]; have := ok.len; unfold LIM; omega, ?_⟩
    simp_arith [lstOf_len, lstOf_0]
    exact ⟨boxes, slots, eaten, rfl, ok, B7.app, K7.trans .app⟩
theorem need_frame_spec {S : Sto} {boxes slots : Int} {eaten : List Int} (h : FrameOk boxes slots eaten) : wp (f_need_frame [frameD boxes slots eaten] S) fun d S' => d = .non ∧ Keep [] S S' := by
  have hl := h.len
  obtain ⟨⟨b1, b2⟩, ⟨s1, s2⟩, up, wi⟩ := h
  unfold f_need_frame b_need_frame frameD
  simp_arith [num_eq b1 b2, num_eq s1 s2, chkOf]
  refine wp_mono (wp_loop (it := ⟨[], eaten.map D.int⟩) (fun k acc S' => acc = [] ∧ S' = S) (fun _ _ _ _ => rfl) ?_ ⟨rfl, rfl⟩) ?_
  · rintro k x acc S1 hx ⟨rfl, rfl⟩
    rw [List.getElem?_map] at hx
    cases e : eaten[k]? with
    | none => rw [e] at hx; cases hx
    | some g =>
      rw [e] at hx
      cases hx
      obtain ⟨g1, g2⟩ := wi g (List.mem_of_getElem? e)
      refine ⟨_, rfl, ?_⟩
      simp_arith [num_eq g1 (show g ≤ boxes - 1 by omega)]
  · rintro ys S1 ⟨rfl, rfl⟩
    refine ⟨by decide, ?_⟩
    simp_arith [eq_nils, w_sset up (show eaten.length < 64 by omega)]
    rw [eq_ints (L := eaten) (M := eaten) (lstOf_app get_last) (by rw [lstOf_len]; rfl), on_some]
    simp_arith []
    exact .trans (.trans (.trans .app .app) .app) .app
end PG
end
section
set_option linter.all false
set_option autoImplicit false
set_option maxRecDepth 100003
namespace PG
open PF
theorem any_ints (i : Int) : ∀ l : List Int, ((l.map J.int).any fun z => J.eqv z (.int i)) = l.any (· == i)
  | [] => rfl
  | x :: l => by
    rw [List.map_cons, List.any_cons, List.any_cons, any_ints i l]
    rfl
theorem inB_tup {S : Sto} {i : Int} {l : List Int} : inB (.int i) (.tup (l.map .int)) S = some (l.any (· == i)) := by
  have e1 : ((l.map D.int).all D.scal) = true := by
    rw [List.all_map]
    exact List.all_eq_true.mpr fun _ _ => rfl
  unfold inB
  simp only [D.scal, e1, Bool.and_self, if_true, inTree, tree_int, tree_ints, any_ints]
theorem inB_lst {S : Sto} {i : Int} {n : Nat} {l : List Int} (h : lstOf n S = some (l.map .int)) : inB (.int i) (.ref n) S = some (l.any (· == i)) := by
  unfold inB
  simp only [h, inTree, tree_int, tree_ints, any_ints]
/-- [x for x in xs if p x] -/
theorem comp_filter {S : Sto} {ρ : Env} {it : Iter} {t : T} {i : Nat} {is : List Int} (p : Int → Bool) (ea : it.all = is.map .int) (hs : it.same S = true) (hi : i < ρ.length)
    (ht : ∀ (x : Int) (P : Bool → Sto → Prop), wp (t (ρ.set i (some (.int x))) S) P = P (p x) S) :
    wp (compLoop it (PF.gName i) t (eVar i) ρ it.all S) fun ys S' => ys = (is.filter p).map .int ∧ S' = S := by
  refine wp_mono (wp_loop (it := it) (fun k acc S' => acc = ((is.take k).filter p).map D.int ∧ S' = S) (fun k acc S' h => by rw [h.2]; exact hs) ?_ ⟨rfl, rfl⟩) ?_
  · rintro k x acc S1 hx ⟨rfl, rfl⟩
    rw [ea, List.getElem?_map] at hx
    cases e : is[k]? with
    | none => rw [e] at hx; cases hx
    | some v =>
      rw [e] at hx
      cases hx
      refine ⟨_, rfl, ?_⟩
      rw [ht v]
      have e2 : is.take (k + 1) = is.take k ++ [v] := by rw [List.take_add_one, e]; rfl
      cases hp : p v with
      | true =>
        rw [if_pos rfl, w_var (d := .int v) (by simp [hi])]
        refine ⟨?_, rfl⟩
        rw [e2, List.filter_append, List.map_append]
        simp [hp]
      | false =>
        rw [if_neg (by simp)]
        refine ⟨?_, rfl⟩
        rw [e2, List.filter_append]
        simp [hp]
  · rintro ys S1 ⟨rfl, rfl⟩
    refine ⟨?_, rfl⟩
    rw [ea, List.length_map, List.take_length]
def rangeI (lo hi : Int) : List Int := (List.range (hi - lo).toNat).map fun (k : Nat) => lo + (k : Int)
theorem rangeD_map (lo hi : Int) : rangeD lo hi = (rangeI lo hi).map .int := by
  unfold rangeD rangeI
  rw [List.map_map]
  rfl
theorem mem_rangeI {lo hi x : Int} (h : x ∈ rangeI lo hi) : lo ≤ x ∧ x < hi := by
  unfold rangeI at h
  obtain ⟨k, hk, rfl⟩ := List.mem_map.mp h
  have := List.mem_range.mp hk
  omega
theorem eq_nil {S : Sto} {n : Nat} {l : List Int} (h : S[n]? = some (.lst (l.map .int))) : eqF (S ++ [.lst []]) (.ref n) (.ref S.length) = some (l == []) :=
  eq_ints (L := l) (M := []) (lstOf_app h) (by rw [lstOf_len]; rfl)
end PG
end
section
set_option linter.all false
set_option autoImplicit false
set_option maxRecDepth 100003
namespace PG
open PF
inductive Mv where
  | copy (a b : Int) | swap (a b : Int) | store (s b : Int) | load (b s : Int)
def Mv.D : Mv → D
  | .copy a b => .tup [.str z_copy, .int a, .int b]
  | .swap a b => .tup [.str z_swap, .int a, .int b]
  | .store s b => .tup [.str z_store, .int s, .int b]
  | .load b s => .tup [.str z_load, .int b, .int s]
def Mv.ok (boxes slots : Int) : Mv → Prop
  | .copy a b => In0 a boxes ∧ In0 b boxes
  | .swap a b => In0 a boxes ∧ In0 b boxes
  | .store s b => In0 s slots ∧ In0 b boxes
  | .load b s => In0 b boxes ∧ In0 s slots
end PG
end
section
set_option linter.all false
set_option autoImplicit false
set_option maxRecDepth 100003
namespace PF
theorem w_kNotIn {S : Sto} {P : D → Sto → Prop} {t : List (D × D)} {k : List Nat} : wp (kNotIn t (.str k) S) P = P (.bl (!(dget t (.str k)).isSome)) S := wp_ok
theorem w_kIx {S : Sto} {P : D → Sto → Prop} {t : List (D × D)} {k : List Nat} : wp (kIx t (.str k) S) P = on (dget t (.str k)) fun d => P d S := by
  unfold kIx
  cases h : dget t (.str k) with
  | none => simp only [h, on_none, wp_bad]
  | some d => simp only [h, on_some, wp_ok]
end PF
namespace PG
open PF
theorem mv_copy : dget t_MOVES (.str z_copy) = some (.str z_bb) := by decide +kernel
theorem mv_swap : dget t_MOVES (.str z_swap) = some (.str z_bb) := by decide +kernel
theorem mv_store : dget t_MOVES (.str z_store) = some (.str z_sb) := by decide +kernel
theorem mv_load : dget t_MOVES (.str z_load) = some (.str z_bs) := by decide +kernel
theorem bs_b {x y : Int} : dget (putAll [] [(.str z_b, .int x), (.str z_s, .int y)]) (.str z_b) = some (.int x) := rfl
theorem bs_s {x y : Int} : dget (putAll [] [(.str z_b, .int x), (.str z_s, .int y)]) (.str z_s) = some (.int y) := rfl
theorem is_move_spec {S : Sto} {boxes slots : Int} {eaten : List Int} {m : Mv} (h : m.ok boxes slots) : wp (f_is_move [m.D, frameD boxes slots eaten] S) fun d S' => d = .bl true ∧ Keep [] S S' := by
  have fin : ∀ U : Sto, Keep [] S (((S ++ U) ++ [MO.lst []]) ++ [MO.lst []]) := fun U => .trans (.trans .app .app) .app
  unfold f_is_move b_is_move frameD
  cases m with
  | copy a b =>
    obtain ⟨⟨a1, a2⟩, b1, b2⟩ := h
    simp_arith [Mv.D, at0, at_1, w_kNotIn, mv_copy, Option.isSome_some, w_dict, w_evnil, w_evcons, keyOk, range2]
    refine ⟨by decide, ?_⟩
    simp_arith [w_ccons, w_cnil, same_nil, at0, at_1, at_2, w_kIx, mv_copy, v_ixSs (show z_bb.length ≤ 1000 by decide), v_dx (show keyOk (.str z_b) = true from rfl), v_dx (show keyOk (.str z_s) = true from rfl), dicOf_len, dicOf_0, bs_b, bs_s, num_eq a1 (show a ≤ boxes - 1 by omega), num_eq b1 (show b ≤ boxes - 1 by omega), Nat.zero_le, eq_nils]
    exact fin _
  | swap a b =>
    obtain ⟨⟨a1, a2⟩, b1, b2⟩ := h
    simp_arith [Mv.D, at0, at_1, w_kNotIn, mv_swap, Option.isSome_some, w_dict, w_evnil, w_evcons, keyOk, range2]
    refine ⟨by decide, ?_⟩
    simp_arith [w_ccons, w_cnil, same_nil, at0, at_1, at_2, w_kIx, mv_swap, v_ixSs (show z_bb.length ≤ 1000 by decide), v_dx (show keyOk (.str z_b) = true from rfl), v_dx (show keyOk (.str z_s) = true from rfl), dicOf_len, dicOf_0, bs_b, bs_s, num_eq a1 (show a ≤ boxes - 1 by omega), num_eq b1 (show b ≤ boxes - 1 by omega), Nat.zero_le, eq_nils]
    exact fin _
  | store s b =>
    obtain ⟨⟨a1, a2⟩, b1, b2⟩ := h
    simp_arith [Mv.D, at0, at_1, w_kNotIn, mv_store, Option.isSome_some, w_dict, w_evnil, w_evcons, keyOk, range2]
    refine ⟨by decide, ?_⟩
    simp_arith [w_ccons, w_cnil, same_nil, at0, at_1, at_2, w_kIx, mv_store, v_ixSs (show z_sb.length ≤ 1000 by decide), v_dx (show keyOk (.str z_b) = true from rfl), v_dx (show keyOk (.str z_s) = true from rfl), dicOf_len, dicOf_0, bs_b, bs_s, num_eq a1 (show s ≤ slots - 1 by omega), num_eq b1 (show b ≤ boxes - 1 by omega), Nat.zero_le, eq_nils]
    exact fin _
  | load b s =>
    obtain ⟨⟨a1, a2⟩, b1, b2⟩ := h
    simp_arith [Mv.D, at0, at_1, w_kNotIn, mv_load, Option.isSome_some, w_dict, w_evnil, w_evcons, keyOk, range2]
    refine ⟨by decide, ?_⟩
    simp_arith [w_ccons, w_cnil, same_nil, at0, at_1, at_2, w_kIx, mv_load, v_ixSs (show z_bs.length ≤ 1000 by decide), v_dx (show keyOk (.str z_b) = true from rfl), v_dx (show keyOk (.str z_s) = true from rfl), dicOf_len, dicOf_0, bs_b, bs_s, num_eq a1 (show b ≤ boxes - 1 by omega), num_eq b1 (show s ≤ slots - 1 by omega), Nat.zero_le, eq_nils]
    exact fin _
theorem are_moves_spec {S : Sto} {boxes slots : Int} {eaten : List Int} {ms : List Mv} (hl : ms.length ≤ 6) (h : ∀ m ∈ ms, m.ok boxes slots) : wp (f_are_moves [.tup (ms.map Mv.D), frameD boxes slots eaten] S) fun d S' => d = .bl true ∧ Keep [] S S' := by
  unfold f_are_moves b_are_moves
  have c : ¬ (6 : Int) < (ms.length : Int) := by omega
  simp_arith [List.length_map, c, chkOf]
  refine wp_mono (wp_loop (it := ⟨[], ms.map Mv.D⟩) (fun k acc S' => acc = [] ∧ Keep [] S S') (fun _ _ _ _ => rfl) ?_ ⟨rfl, .refl⟩) ?_
  · rintro k x acc S1 hx ⟨rfl, K1⟩
    rw [List.getElem?_map] at hx
    cases e : ms[k]? with
    | none => rw [e] at hx; cases hx
    | some m =>
      rw [e] at hx
      cases hx
      refine ⟨_, rfl, ?_⟩
      simp_arith []
      refine wp_mono (is_move_spec (h m (List.mem_of_getElem? e))) ?_
      rintro _ S2 ⟨rfl, k2⟩
      simp_arith []
      exact K1.trans k2
  · rintro ys S1 ⟨rfl, K1⟩
    refine ⟨by decide, ?_⟩
    simp_arith [eq_nils]
    exact (K1.trans .app).trans .app
end PG
end
section
set_option linter.all false
set_option autoImplicit false
set_option maxRecDepth 100003
namespace PF
theorem w_zip {S : Sto} {ρ : Env} {P : Iter → Sto → Prop} {a b : E} : wp (iZip a b ρ S) P = wp (a ρ S) fun x S => wp (b ρ S) fun y S => on (seqZ x S) fun xs => on (seqZ y S) fun ys => P ⟨chkOf x S ++ chkOf y S, zipD xs ys⟩ S := by
  unfold iZip
  simp only [wp_bind]
  congr
  funext x S
  congr
  funext y S
  cases h : seqZ x S with
  | none => simp only [h, on_none, wp_bad]
  | some xs =>
    cases h2 : seqZ y S with
    | none => simp only [h, h2, on_none, on_some, wp_bad]
    | some ys => simp only [h, h2, on_some, wp_ok]
theorem inB_chr {S : Sto} {c : Nat} {s : List Nat} : inB (.str [c]) (.str s) S = some (s.contains c) := rfl
theorem cutA1 {x : D} : cut [x] (some 1) none = [] := rfl
theorem cutA2 {x y : D} : cut [x, y] (some 1) none = [y] := rfl
theorem cutA3 {x y z : D} : cut [x, y, z] (some 1) none = [y, z] := rfl
theorem cutA4 {x y z w : D} : cut [x, y, z, w] (some 1) none = [y, z, w] := rfl
end PF
namespace PG
open PF
def Row.nms : Row → List Int
  | .put d _ => [d]
  | .copy d a => [d, a]
  | .op _ d a b => [d, a, b]
  | .call d a => [d, a]
  | .say a => [a]
  | .ife a _ => [a]
  | .go _ => []
  | .fin => []
theorem c_d : (z_da : List Nat).contains 100 = true := by decide
theorem c_a : (z_da : List Nat).contains 97 = true := by decide
theorem c_n : (z_da : List Nat).contains 110 = false := by decide
theorem c_r : (z_da : List Nat).contains 114 = false := by decide
theorem names_of_spec {S : Sto} {r : Row} : wp (f_names_of [r.D] S) fun d S' => d = .tup (r.nms.map .int) ∧ Keep [] S S' := by
  have n3 : ∀ n : Nat, n ≤ 3 → n ≤ LIM := fun n h => by unfold LIM; omega
  unfold f_names_of b_names_of
  cases r with
  | op o d a b =>
    cases o <;> (simp_arith [Row.D, Op3.s, at0, w_slice, w_osome, w_onone, w_gslT, cutA1, cutA2, cutA3, cutA4, w_kIx, sh_add, sh_take, sh_less, w_zip, seqZ, charsD, zipD, chkOf, List.append_nil, w_ccons, w_cnil, same_nil, v_in, inB_chr, c_d, c_a, c_n, c_r, lstOf_len, lstOf_0]
                 exact ⟨n3 _ (by decide), rfl, .app⟩)
  | _ =>
    simp_arith [Row.D, at0, w_slice, w_osome, w_onone, w_gslT, cutA1, cutA2, cutA3, cutA4, w_kIx, sh_put, sh_copy, sh_call, sh_say, sh_if, sh_go, sh_end, w_zip, seqZ, charsD, zipD, chkOf, List.append_nil, w_ccons, w_cnil, same_nil, v_in, inB_chr, c_d, c_a, c_n, c_r, lstOf_len, lstOf_0]
    exact ⟨n3 _ (by decide), rfl, .app⟩
structure Grp where
  ahead : List Mv
  bx : List Int
  behind : List Mv
def Grp.D (g : Grp) : D := .tup [.tup (g.ahead.map Mv.D), .tup (g.bx.map .int), .tup (g.behind.map Mv.D)]
def Row.stays : Row → Bool
  | .go _ => false
  | .ife _ _ => false
  | .fin => false
  | _ => true
structure GrpOk (boxes slots : Int) (r : Row) (g : Grp) : Prop where
  la : g.ahead.length ≤ 6
  lb : g.behind.length ≤ 6
  oa : ∀ m ∈ g.ahead, m.ok boxes slots
  ob : ∀ m ∈ g.behind, m.ok boxes slots
  bl : g.bx.length = r.nms.length
  bi : ∀ x ∈ g.bx, In0 x boxes
  sb : g.behind = [] ∨ r.stays = true
theorem tree_strs {S : Sto} {n : Nat} {s : List Nat} (h : s.all (fun c => decide (c < 1114112)) = true) : tree S n (.str s) = some (.str s) := by
  cases n <;> simp only [tree, h, if_true]
theorem tree_mv {S : Sto} {n : Nat} {m : Mv} : ∃ js, tree S (n + 1) m.D = some (.tup js) := by
  cases m with
  | copy a b => exact ⟨[.str z_copy, .int a, .int b], by simp only [Mv.D, tree, allSome, tree_int, tree_strs (show (z_copy : List Nat).all (fun c => decide (c < 1114112)) = true by decide)]⟩
  | swap a b => exact ⟨[.str z_swap, .int a, .int b], by simp only [Mv.D, tree, allSome, tree_int, tree_strs (show (z_swap : List Nat).all (fun c => decide (c < 1114112)) = true by decide)]⟩
  | store a b => exact ⟨[.str z_store, .int a, .int b], by simp only [Mv.D, tree, allSome, tree_int, tree_strs (show (z_store : List Nat).all (fun c => decide (c < 1114112)) = true by decide)]⟩
  | load a b => exact ⟨[.str z_load, .int a, .int b], by simp only [Mv.D, tree, allSome, tree_int, tree_strs (show (z_load : List Nat).all (fun c => decide (c < 1114112)) = true by decide)]⟩
theorem tree_mvs {S : Sto} {n : Nat} : ∀ ms : List Mv, ∃ js, allSome (tree S (n + 1)) (ms.map Mv.D) = some js ∧ js.length = ms.length
  | [] => ⟨[], rfl, rfl⟩
  | m :: ms => by
    obtain ⟨j, e⟩ := tree_mv (S := S) (n := n) (m := m)
    obtain ⟨js, e2, e3⟩ := tree_mvs (S := S) (n := n) ms
    refine ⟨.tup j :: js, ?_, by simp [e3]⟩
    rw [List.map_cons]
    simp only [allSome, e, e2]
theorem eq_mvs {S : Sto} {ms : List Mv} : eqF S (.tup (ms.map Mv.D)) (.tup []) = some (decide (ms = [])) := by
  show eqT S _ _ = _
  unfold eqT
  obtain ⟨js, e, hl⟩ := tree_mvs (S := S) (n := 38) ms
  have e1 : tree S EQD (.tup (ms.map Mv.D)) = some (.tup js) := by
    rw [show EQD = 38 + 1 + 1 from rfl]
    simp only [tree, e]
  have e2 : tree S EQD (.tup []) = some (.tup []) := rfl
  rw [e1, e2]
  show some (J.eqvs js []) = _
  cases js with
  | nil =>
    have : ms = [] := List.length_eq_zero_iff.mp hl.symm
    subst this
    rfl
  | cons j js =>
    have : ms ≠ [] := fun z => by subst z; simp at hl
    simp [J.eqvs, this]
theorem is_group_spec {S : Sto} {boxes slots : Int} {eaten : List Int} {r : Row} {g : Grp} (h : GrpOk boxes slots r g) : wp (f_is_group [g.D, r.D, frameD boxes slots eaten] S) fun d S' => d = .bl true ∧ Keep [] S S' := by
  obtain ⟨la, lb, oa, ob, bl, bi, sb⟩ := h
  have hbl : ((g.bx.length : Int) == (r.nms.length : Int)) = true := by rw [bl]; exact beq_self_eq_true _
  unfold f_is_group b_is_group Grp.D
  simp_arith [at0, at_1, at_2]
  refine wp_mono (are_moves_spec la oa) ?_
  rintro _ S1 ⟨rfl, k1⟩
  simp_arith []
  refine wp_mono names_of_spec ?_
  rintro _ S2 ⟨rfl, k2⟩
  unfold frameD
  simp_arith [List.length_map, hbl, chkOf, at0]
  refine wp_mono (wp_loop (it := ⟨[], g.bx.map D.int⟩) (fun k acc S' => acc = [] ∧ S' = S2) (fun _ _ _ _ => rfl) ?_ ⟨rfl, rfl⟩) ?_
  · rintro k x acc S3 hx ⟨rfl, rfl⟩
    rw [List.getElem?_map] at hx
    cases e : g.bx[k]? with
    | none => rw [e] at hx; cases hx
    | some v =>
      rw [e] at hx
      cases hx
      obtain ⟨v1, v2⟩ := bi v (List.mem_of_getElem? e)
      refine ⟨_, rfl, ?_⟩
      simp_arith [at0, num_eq v1 (show v ≤ boxes - 1 by omega)]
  · rintro ys S3 ⟨rfl, rfl⟩
    refine ⟨by decide, ?_⟩
    simp_arith [eq_nils]
    refine wp_mono (are_moves_spec (boxes := boxes) (slots := slots) (eaten := eaten) lb ob) ?_
    rintro _ S4 ⟨rfl, k4⟩
    have K4 : Keep [] S S4 := ((k1.trans k2).trans (Keep.trans .app .app)).trans k4
    simp_arith [eq_mvs]
    by_cases c : g.behind = []
    · simp_arith [c]
      exact K4
    · have hs : r.stays = true := by
        rcases sb with z | z
        · exact absurd z c
        · exact z
      simp_arith [c]
      cases r with
      | op o _ _ _ => cases o <;> (simp_arith [Row.D, Op3.s, at0]; (simp only [v_in, v_notIn, inB, D.scal, inTree, tree_strlit, allSome, List.all_cons, List.all_nil, List.any_cons, List.any_nil, J.eqv, List.cons_beq_cons, cons_beq_nil, nil_beq_cons, Nat.reduceBEq, Nat.reduceLT, decide_true, Bool.and_true, Bool.and_false, Bool.true_and, Bool.false_and, Bool.or_false, Bool.or_true, Bool.false_or, Bool.true_or, Bool.and_self, if_true, on_some, BEq.rfl, Bool.not_true, Bool.not_false, beq_self_eq_true]); simp only [true_and]; exact K4)
      | put _ _ => simp_arith [Row.D, at0]; (simp only [v_in, v_notIn, inB, D.scal, inTree, tree_strlit, allSome, List.all_cons, List.all_nil, List.any_cons, List.any_nil, J.eqv, List.cons_beq_cons, cons_beq_nil, nil_beq_cons, Nat.reduceBEq, Nat.reduceLT, decide_true, Bool.and_true, Bool.and_false, Bool.true_and, Bool.false_and, Bool.or_false, Bool.or_true, Bool.false_or, Bool.true_or, Bool.and_self, if_true, on_some, BEq.rfl, Bool.not_true, Bool.not_false, beq_self_eq_true]); simp only [true_and]; exact K4
      | copy _ _ => simp_arith [Row.D, at0]; (simp only [v_in, v_notIn, inB, D.scal, inTree, tree_strlit, allSome, List.all_cons, List.all_nil, List.any_cons, List.any_nil, J.eqv, List.cons_beq_cons, cons_beq_nil, nil_beq_cons, Nat.reduceBEq, Nat.reduceLT, decide_true, Bool.and_true, Bool.and_false, Bool.true_and, Bool.false_and, Bool.or_false, Bool.or_true, Bool.false_or, Bool.true_or, Bool.and_self, if_true, on_some, BEq.rfl, Bool.not_true, Bool.not_false, beq_self_eq_true]); simp only [true_and]; exact K4
      | call _ _ => simp_arith [Row.D, at0]; (simp only [v_in, v_notIn, inB, D.scal, inTree, tree_strlit, allSome, List.all_cons, List.all_nil, List.any_cons, List.any_nil, J.eqv, List.cons_beq_cons, cons_beq_nil, nil_beq_cons, Nat.reduceBEq, Nat.reduceLT, decide_true, Bool.and_true, Bool.and_false, Bool.true_and, Bool.false_and, Bool.or_false, Bool.or_true, Bool.false_or, Bool.true_or, Bool.and_self, if_true, on_some, BEq.rfl, Bool.not_true, Bool.not_false, beq_self_eq_true]); simp only [true_and]; exact K4
      | say _ => simp_arith [Row.D, at0]; (simp only [v_in, v_notIn, inB, D.scal, inTree, tree_strlit, allSome, List.all_cons, List.all_nil, List.any_cons, List.any_nil, J.eqv, List.cons_beq_cons, cons_beq_nil, nil_beq_cons, Nat.reduceBEq, Nat.reduceLT, decide_true, Bool.and_true, Bool.and_false, Bool.true_and, Bool.false_and, Bool.or_false, Bool.or_true, Bool.false_or, Bool.true_or, Bool.and_self, if_true, on_some, BEq.rfl, Bool.not_true, Bool.not_false, beq_self_eq_true]); simp only [true_and]; exact K4
      | _ => cases hs
end PG
end
section
set_option linter.all false
set_option autoImplicit false
set_option maxRecDepth 100003
namespace PF
theorem dedup_nd {α : Type} [DecidableEq α] : ∀ {l : List α}, l.Nodup → dedup l = l
  | [], _ => rfl
  | x :: l, h => by
    have h2 := List.nodup_cons.mp h
    unfold dedup
    rw [dedup_nd h2.2]
    congr 1
    refine List.filter_eq_self.mpr fun y hy => ?_
    exact decide_eq_true fun e => h2.1 (e ▸ hy)
theorem w_lenSet {S : Sto} {P : D → Sto → Prop} {ds : List D} (h : ds.Nodup) (hl : ds.length < 64) (hp : ds.all tupK = true) : wp (fLenSet [.tup ds] S) P = P (.int ds.length) S := by
  unfold fLenSet
  simp only [hl, hp, and_self, if_true, dedup_nd h, wp_ok]
end PF
namespace PG
open PF
inductive Pl where
  | box (n : Int) | slot (n : Int)
  deriving DecidableEq
def Pl.D : Pl → D
  | .box n => .tup [.str z_box, .int n]
  | .slot n => .tup [.str z_slot, .int n]
def Pl.ok (boxes slots : Int) : Pl → Prop
  | .box n => In0 n boxes
  | .slot n => In0 n slots
theorem pl_inj : ∀ {a b : Pl}, a.D = b.D → a = b
  | .box a, .box b, h => by
    unfold Pl.D at h
    injection h with h
    injection h with _ h
    injection h with h _
    injection h with h
    rw [h]
  | .slot a, .slot b, h => by
    unfold Pl.D at h
    injection h with h
    injection h with _ h
    injection h with h _
    injection h with h
    rw [h]
  | .box a, .slot b, h => by
    unfold Pl.D at h
    injection h with h
    injection h with h _
    injection h with h
    exact absurd h (by decide)
  | .slot a, .box b, h => by
    unfold Pl.D at h
    injection h with h
    injection h with h _
    injection h with h
    exact absurd h (by decide)
theorem bx_box {x y : Int} : dget (putAll [] [(.str z_box, .int x), (.str z_slot, .int y)]) (.str z_box) = some (.int x) := rfl
theorem bx_slot {x y : Int} : dget (putAll [] [(.str z_box, .int x), (.str z_slot, .int y)]) (.str z_slot) = some (.int y) := rfl
theorem is_place_spec {S : Sto} {boxes slots : Int} {eaten : List Int} {p : Pl} (h : p.ok boxes slots) : wp (f_is_place [p.D, frameD boxes slots eaten] S) fun d S' => d = .bl true ∧ Keep [] S S' := by
  unfold f_is_place b_is_place frameD
  cases p with
  | box n =>
    obtain ⟨h1, h2⟩ := h
    simp_arith [Pl.D, at0, at_1, w_dict, w_evnil, w_evcons, keyOk, v_get, dicOf_len, dicOf_0, bx_box, Option.getD_some, num_eq h1 (show n ≤ boxes - 1 by omega)]
    exact .app
  | slot n =>
    obtain ⟨h1, h2⟩ := h
    simp_arith [Pl.D, at0, at_1, w_dict, w_evnil, w_evcons, keyOk, v_get, dicOf_len, dicOf_0, bx_slot, Option.getD_some, num_eq h1 (show n ≤ slots - 1 by omega)]
    exact .app
structure Choice where
  places : List Pl
  groups : List Grp
def Choice.D (c : Choice) : D := .tup [.tup (c.places.map Pl.D), .tup (c.groups.map Grp.D)]
structure ChoiceOk (params : Int) (rows : List Row) (boxes slots : Int) (c : Choice) : Prop where
  pn : (c.places.length : Int) = params
  po : ∀ p ∈ c.places, p.ok boxes slots
  pd : c.places.Nodup
  gn : c.groups.length = rows.length
  go : ∀ (i : Nat) (r : Row) (g : Grp), rows[i]? = some r → c.groups[i]? = some g → GrpOk boxes slots r g
theorem tupK_pl (l : List Pl) : (l.map Pl.D).all tupK = true := by
  rw [List.all_map, List.all_eq_true]
  intro p _
  cases p <;> rfl
theorem need_choice_spec {S : Sto} {params names boxes slots : Int} {rows : List Row} {eaten : List Int} {c : Choice} (hP : ProgOk params names rows) (h : ChoiceOk params rows boxes slots c) :
    wp (f_need_choice [progD params names rows, frameD boxes slots eaten, c.D] S) fun d S' => d = .non ∧ Keep [] S S' := by
  obtain ⟨pn, po, pd, gn, go⟩ := h
  have hp := hP.pr
  have hn := hP.nm
  have hl := hP.ln
  have e1 : ((c.places.length : Int) == params) = true := by rw [pn]; exact beq_self_eq_true _
  have nd : (c.places.map Pl.D).Nodup := List.pairwise_map.mpr (pd.imp fun h e => h (pl_inj e))
  have e2 : ((c.groups.length : Int) == (rows.length : Int)) = true := by rw [gn]; exact beq_self_eq_true _
  unfold f_need_choice b_need_choice Choice.D progD
  simp_arith [at0, at_1, at_2, List.length_map, e1, chkOf]
  refine wp_mono (wp_loop (it := ⟨[], c.places.map Pl.D⟩) (fun k acc S' => acc = [] ∧ Keep [] S S') (fun _ _ _ _ => rfl) ?_ ⟨rfl, .refl⟩) ?_
  · rintro k x acc S1 hx ⟨rfl, K1⟩
    rw [List.getElem?_map] at hx
    cases e : c.places[k]? with
    | none => rw [e] at hx; cases hx
    | some p =>
      rw [e] at hx
      cases hx
      refine ⟨_, rfl, ?_⟩
      simp_arith []
      refine wp_mono (is_place_spec (po p (List.mem_of_getElem? e))) ?_
      rintro _ S2 ⟨rfl, k2⟩
      simp_arith []
      exact K1.trans k2
  · rintro ys S1 ⟨rfl, K1⟩
    refine ⟨by decide, ?_⟩
    have K2 : Keep [] S ((S1 ++ [MO.lst []]) ++ [MO.lst []]) := (K1.trans .app).trans .app
    simp_arith [eq_nils, w_lenSet nd (by rw [List.length_map]; omega) (tupK_pl _), List.length_map, seqZ, chkOf]
    generalize ((S1 ++ [MO.lst []]) ++ [MO.lst []]) = S2 at *
    refine wp_for (it := ⟨[], enumD 0 (c.groups.map Grp.D)⟩) (fun k ρ S' => Keep [] S S' ∧ ∃ c5 c6, ρ = [some (progD params names rows), some (frameD boxes slots eaten), some c.D, some (.tup (c.places.map Pl.D)), some (.tup (c.groups.map Grp.D)), c5, c6, none]) (fun _ _ _ _ => rfl) ?_ ⟨K2, none, none, rfl⟩ ?_
    · rintro k x ρ S3 hx ⟨K3, c5, c6, rfl⟩
      obtain ⟨d, e, rfl⟩ := enumD_get hx
      rw [List.getElem?_map] at e
      cases eg : c.groups[k]? with
      | none => rw [eg] at e; cases e
      | some g =>
        rw [eg] at e
        cases e
        have hk : k < rows.length := by rw [← gn]; exact (List.getElem?_eq_some_iff.mp eg).1
        have er : rows[k]? = some rows[k] := by simp [hk]
        have hk2 : ¬ (rows.length : Int) ≤ (k : Int) := by omega
        refine ⟨_, rfl, ?_⟩
        unfold progD
        simp_arith [at_2, List.length_map, hk2, at_nat, List.getElem?_map, er, Option.map_some]
        refine wp_mono (is_group_spec (go k _ g er eg)) ?_
        rintro _ S4 ⟨rfl, k4⟩
        simp_arith []
        exact ⟨K3.trans k4, _, _, rfl⟩
    · rintro ρ S3 ⟨K3, c5, c6, rfl⟩
      unfold progD
      simp_arith [at_2, List.length_map, e2]
      exact K3
end PG
end
section
set_option linter.all false
set_option autoImplicit false
set_option maxRecDepth 100003
namespace PF
theorem gslN {S : Sto} {P : D → Sto → Prop} {ds : List D} {lo hi : Option Int} : wp (gSlice (.tup ds) lo hi S) P = P (.tup (cut ds lo hi)) S := wp_ok
theorem cutB2 {x y : D} : cut [x, y] (some 1) (some 2) = [y] := rfl
theorem cutB3 {x y z : D} : cut [x, y, z] (some 1) (some 2) = [y] := rfl
theorem cutB1 {x : D} : cut [x] (some 1) (some 2) = [] := rfl
end PF
namespace PG
open PF
end PG
end
section
set_option linter.all false
set_option autoImplicit false
set_option maxRecDepth 100003
namespace PF
theorem w_addT {S : Sto} {P : D → Sto → Prop} {a b : List D} : wp (gAdd (.tup a) (.tup b) S) P = (a.length + b.length ≤ LIM ∧ P (.tup (a ++ b)) S) := by
  unfold gAdd
  by_cases c : a.length + b.length ≤ LIM
  · simp only [c, if_true, true_and, wp_ok]
  · simp only [c, if_false, false_and, wp_bad]
theorem lim_le {n : Nat} (h : n ≤ 1000) : n ≤ LIM := by unfold LIM; omega
end PF
namespace PG
open PF
end PG
end
section
set_option linter.all false
set_option autoImplicit false
set_option maxRecDepth 100003
namespace PG
open PF
theorem rangeI_len (lo hi : Int) : (rangeI lo hi).length = (hi - lo).toNat := by unfold rangeI; simp
end PG
end
section
set_option linter.all false
set_option autoImplicit false
set_option maxRecDepth 100003
namespace PF
theorem cut_from {α : Type} {xs : List α} {i : Int} (h : 0 ≤ i) : cut xs (some i) none = xs.drop i.toNat := by
  unfold cut sIx
  simp only
  rw [if_neg (show ¬ i < 0 by omega)]
  by_cases c : i.toNat ≤ xs.length
  · rw [Nat.min_eq_left c]
    refine List.take_of_length_le ?_
    rw [List.length_drop]
    exact Nat.le_refl _
  · rw [Nat.min_eq_right (by omega), List.drop_of_length_le (Nat.le_refl _), List.drop_of_length_le (by omega)]
    simp
end PF
namespace PG
open PF
theorem nms_len (r : Row) : r.nms.length ≤ 3 := by cases r <;> simp [Row.nms]
end PG
end
section
set_option linter.all false
set_option autoImplicit false
set_option maxRecDepth 100003
namespace PG
open PF
/-- a case as drawn -/
structure CaseOk (params names : Int) (rows : List Row) (boxes slots : Int) (eaten : List Int) (c : Choice) : Prop where
  P : ProgOk params names rows
  F : FrameOk boxes slots eaten
  C : ChoiceOk params rows boxes slots c
  fit : params ≤ boxes + slots
end PG
end
section
set_option linter.all false
set_option autoImplicit false
set_option maxRecDepth 100003
namespace PF
theorem at_pos {α : Type} {xs : List α} {i : Int} (h : 0 ≤ i) : at? xs i = xs[i.toNat]? := by
  obtain ⟨k, rfl⟩ := Int.eq_ofNat_of_zero_le h
  rw [at_nat]
  rfl
theorem ixN_pos {n : Nat} {i : Int} (h : 0 ≤ i ∧ i < n) : ixN n i = some i.toNat := by
  obtain ⟨k, rfl⟩ := Int.eq_ofNat_of_zero_le h.1
  have hk : k < n := by omega
  unfold ixN
  simp [hk]
theorem w_sub2s {S : Sto} {ρ : Env} {Z : Fl × Env → Sto → Prop} {e o i p j : E} : wp (sSub2 e o i p j ρ S) Z = wp (e ρ S) fun x S => ∃ a b, x = .tup [a, b] ∧ wp (o ρ S) fun ov S => wp (i ρ S) fun k S => on (setItem ov k a S) fun S1 => wp (p ρ S1) fun pv S => wp (j ρ S) fun l S => on (setItem pv l b S) fun S2 => Z (.nx, ρ) S2 := by
  unfold sSub2
  rw [wp_bind]
  congr
  funext x S
  have key : ∀ a b : D, (wp ((o ρ S).bind fun ov S => (i ρ S).bind fun k S => match setItem ov k a S with
    | some S1 => (p ρ S1).bind fun pv S => (j ρ S).bind fun l S => match setItem pv l b S with
      | some S2 => .ok (.nx, ρ) S2
      | none => .bad
    | none => .bad) Z) = (wp (o ρ S) fun ov S => wp (i ρ S) fun k S => on (setItem ov k a S) fun S1 => wp (p ρ S1) fun pv S => wp (j ρ S) fun l S => on (setItem pv l b S) fun S2 => Z (.nx, ρ) S2) := fun a b => by
    simp only [wp_bind]
    congr
    funext ov S
    congr
    funext k S
    cases setItem ov k a S with
    | none => simp only [on_none, wp_bad]
    | some S1 =>
      simp only [on_some, wp_bind]
      congr
      funext pv S
      congr
      funext l S
      cases setItem pv l b S with
      | none => simp only [on_none, wp_bad]
      | some S2 => simp only [on_some, wp_ok]
  match x with
  | .tup [a, b] =>
    refine propext ⟨fun h => ⟨a, b, rfl, ?_⟩, fun ⟨a', b', e, h⟩ => ?_⟩
    · rw [← key a b]; exact h
    · cases e
      rw [← key a b] at h; exact h
  | .tup [] | .tup [_] | .tup (_ :: _ :: _ :: _) | .non | .bl _ | .int _ | .str _ | .ref _ =>
    refine propext ⟨fun h => ?_, fun ⟨a', b', e, h⟩ => nomatch e⟩
    simp [wp_bad] at h
end PF
namespace PG
open PF
/-- one move -/
def mv1 {α : Type} (boxes : Int) (h : List α) : Mv → List α
  | .copy a b => match h[b.toNat]? with
    | some v => h.set a.toNat v
    | none => h
  | .swap a b => match h[a.toNat]?, h[b.toNat]? with
    | some x, some y => (h.set a.toNat y).set b.toNat x
    | _, _ => h
  | .store s b => match h[b.toNat]? with
    | some v => h.set (boxes + s).toNat v
    | none => h
  | .load b s => match h[(boxes + s).toNat]? with
    | some v => h.set b.toNat v
    | none => h
def mvs {α : Type} (boxes : Int) (h : List α) (ms : List Mv) : List α := ms.foldl (mv1 boxes) h
theorem mv1_len {α : Type} {boxes : Int} {h : List α} {m : Mv} : (mv1 boxes h m).length = h.length := by
  cases m <;> unfold mv1 <;> dsimp only <;> split <;> simp
theorem mvs_len {α : Type} {boxes : Int} : ∀ {ms : List Mv} {h : List α}, (mvs boxes h ms).length = h.length
  | [], _ => rfl
  | m :: ms, h => (mvs_len (ms := ms) (h := mv1 boxes h m)).trans mv1_len
theorem mv1_map {α β : Type} {f : α → β} {boxes : Int} {h : List α} {m : Mv} : mv1 boxes (h.map f) m = (mv1 boxes h m).map f := by
  cases m with
  | copy a b => unfold mv1; dsimp only; rw [List.getElem?_map]; cases h[b.toNat]? <;> simp [List.map_set]
  | swap a b => unfold mv1; dsimp only; rw [List.getElem?_map, List.getElem?_map]; cases h[a.toNat]? <;> cases h[b.toNat]? <;> simp [List.map_set]
  | store a b => unfold mv1; dsimp only; rw [List.getElem?_map]; cases h[b.toNat]? <;> simp [List.map_set]
  | load a b => unfold mv1; dsimp only; rw [List.getElem?_map]; cases h[(boxes + b).toNat]? <;> simp [List.map_set]
theorem mvs_map {α β : Type} {f : α → β} {boxes : Int} : ∀ {ms : List Mv} {h : List α}, mvs boxes (h.map f) ms = (mvs boxes h ms).map f
  | [], _ => rfl
  | m :: ms, h => by
    show mvs boxes (mv1 boxes (h.map f) m) ms = (mvs boxes (mv1 boxes h m) ms).map f
    rw [mv1_map, mvs_map]
theorem mvs_take {α : Type} {boxes : Int} {h : List α} {ms : List Mv} {k : Nat} {m : Mv} (e : ms[k]? = some m) : mvs boxes h (ms.take (k + 1)) = mv1 boxes (mvs boxes h (ms.take k)) m := by
  unfold mvs
  rw [List.take_add_one, e, List.foldl_append]
  rfl
theorem moved_spec {S : Sto} {h : D} {hs : List D} {boxes slots : Int} {eaten : List Int} {ms : List Mv} (hb : 0 ≤ boxes) (hsl : 0 ≤ slots) (gh : seqOf h S = some hs) (hl : (hs.length : Int) = boxes + slots) (ok : ∀ m ∈ ms, m.ok boxes slots) :
    wp (f_moved [h, .tup (ms.map Mv.D), frameD boxes slots eaten] S) fun d S' => d = .ref S.length ∧ S'[S.length]? = some (.lst (mvs boxes hs ms)) ∧ Keep [] S S' := by
  unfold f_moved b_moved
  have fr : frameD boxes slots eaten = .tup [.int boxes, .int slots, .tup (eaten.map .int)] := rfl
  simp only [w_fn, w_seq, w_set, w_call, w_cons, w_nil, v_var, List.map_cons, List.map_nil, List.length_cons, List.length_nil, Nat.zero_add, Nat.reduceAdd, Nat.reduceSub, Nat.reduceLeDiff, true_and, List.replicate_succ, List.replicate_zero, List.cons_append, List.nil_append, List.getElem?_cons_zero, List.getElem?_cons_succ, on_some, v_listOf, gh]
  simp_arith [chkOf]
  have g0 : (S ++ [MO.lst hs])[S.length]? = some (.lst hs) := get_last
  have k0 : Keep [] S (S ++ [MO.lst hs]) := .app
  have ln := lt_of_get g0
  refine wp_for (it := ⟨[], ms.map Mv.D⟩) (fun k ρ S' => ∃ c4 c5 c6 c7, ρ = [some h, some (.tup (ms.map Mv.D)), some (frameD boxes slots eaten), some (.ref S.length), c4, c5, c6, c7] ∧ S'[S.length]? = some (.lst (mvs boxes hs (ms.take k))) ∧ Keep [] S S') (fun _ _ _ _ => rfl) ?_ ⟨none, none, none, none, rfl, g0, k0⟩ ?_
  · rintro k x ρ S1 hx ⟨c4, c5, c6, c7, rfl, g1, K1⟩
    rw [List.getElem?_map] at hx
    cases e : ms[k]? with
    | none => rw [e] at hx; cases hx
    | some m =>
      rw [e] at hx
      cases hx
      have om := ok m (List.mem_of_getElem? e)
      rw [mvs_take e]
      have lh : ((mvs boxes hs (ms.take k)).length : Int) = boxes + slots := by rw [mvs_len]; exact hl
      generalize mvs boxes hs (ms.take k) = hk at *
      have l1 := lt_of_get g1
      have fin : ∀ i v, Keep [] S (S1.set S.length (.lst (hk.set i v))) := fun i v => K1.past (W := [S.length]) (.set (by simp)) (by simp)
      cases m with
      | copy a b =>
        obtain ⟨⟨a0, a1⟩, b0, b1⟩ := om
        have hbn : b.toNat < hk.length := by omega
        refine ⟨_, rfl, ?_⟩
        rw [fr]
        have e1 : at? hk b = some hk[b.toNat] := by rw [at_pos b0]; simp [hbn]
        simp_arith [List.cons_beq_cons, cons_beq_nil, nil_beq_cons, Nat.reduceBEq, lstOf_lst g1, e1, wrOf_lst g1, ixN_pos (n := hk.length) ⟨a0, by omega⟩]
        refine ⟨_, _, _, _, rfl, ?_, fin _ _⟩
        rw [get_set l1]
        have e2 : hk[b.toNat]? = some hk[b.toNat] := by simp [hbn]
        simp only [mv1, e2]
      | swap a b =>
        obtain ⟨⟨a0, a1⟩, b0, b1⟩ := om
        have hbn : b.toNat < hk.length := by omega
        have han : a.toNat < hk.length := by omega
        refine ⟨_, rfl, ?_⟩
        rw [fr]
        have e1 : at? hk b = some hk[b.toNat] := by rw [at_pos b0]; simp [hbn]
        have e2 : at? hk a = some hk[a.toNat] := by rw [at_pos a0]; simp [han]
        simp_arith [List.cons_beq_cons, cons_beq_nil, nil_beq_cons, Nat.reduceBEq, w_sub2s, lstOf_lst g1, e1, e2]
        refine ⟨_, _, rfl, ?_⟩
        have g2 : ∀ v, (S1.set S.length (.lst (hk.set a.toNat v)))[S.length]? = some (.lst (hk.set a.toNat v)) := fun v => get_set l1
        simp_arith [wrOf_lst g1, ixN_pos (n := hk.length) ⟨a0, by omega⟩, wrOf_lst (g2 _), List.length_set, ixN_pos (n := hk.length) ⟨b0, by omega⟩]
        refine ⟨_, _, _, _, rfl, ?_, (fin _ _).past (W := [S.length]) (.set (by simp)) (by simp)⟩
        rw [get_set (by simpa using l1)]
        have e3 : hk[b.toNat]? = some hk[b.toNat] := by simp [hbn]
        have e4 : hk[a.toNat]? = some hk[a.toNat] := by simp [han]
        simp only [mv1, e3, e4]
      | store s b =>
        obtain ⟨⟨s0, s1⟩, b0, b1⟩ := om
        have hbn : b.toNat < hk.length := by omega
        refine ⟨_, rfl, ?_⟩
        rw [fr]
        have e1 : at? hk b = some hk[b.toNat] := by rw [at_pos b0]; simp [hbn]
        simp_arith [List.cons_beq_cons, cons_beq_nil, nil_beq_cons, Nat.reduceBEq, lstOf_lst g1, e1, wrOf_lst g1, at0, ixN_pos (n := hk.length) (i := boxes + s) ⟨by omega, by omega⟩]
        refine ⟨_, _, _, _, rfl, ?_, fin _ _⟩
        rw [get_set l1]
        have e2 : hk[b.toNat]? = some hk[b.toNat] := by simp [hbn]
        simp only [mv1, e2]
      | load b s =>
        obtain ⟨⟨b0, b1⟩, s0, s1⟩ := om
        have hbn : (boxes + s).toNat < hk.length := by omega
        refine ⟨_, rfl, ?_⟩
        rw [fr]
        have e1 : at? hk (boxes + s) = some hk[(boxes + s).toNat] := by rw [at_pos (by omega)]; simp [hbn]
        simp_arith [List.cons_beq_cons, cons_beq_nil, nil_beq_cons, Nat.reduceBEq, lstOf_lst g1, e1, wrOf_lst g1, at0, ixN_pos (n := hk.length) (i := b) ⟨by omega, by omega⟩]
        refine ⟨_, _, _, _, rfl, ?_, fin _ _⟩
        rw [get_set l1]
        have e2 : hk[(boxes + s).toNat]? = some hk[(boxes + s).toNat] := by simp [hbn]
        simp only [mv1, e2]
  · rintro ρ S1 ⟨c4, c5, c6, c7, rfl, g1, K1⟩
    have e : (ms.map Mv.D).length = ms.length := by simp
    have g1 : S1[S.length]? = some (.lst (mvs boxes hs (ms.take (ms.map Mv.D).length))) := g1
    rw [e, List.take_length] at g1
    simp_arith []
    exact ⟨g1, K1⟩
end PG
end
section
set_option linter.all false
set_option autoImplicit false
set_option maxRecDepth 100003
namespace PG
open PF
def Row.val (xs : List Int) : Row → Int
  | .put _ k => k
  | .copy _ _ => rd xs 1
  | .op o _ _ _ => o.v (rd xs 1) (rd xs 2)
  | .call _ _ => (rd xs 1 * rd xs 1 * 7 + rd xs 1 + 3) % 1000
  | _ => 0
def Row.next (a v : Int) : Row → Int
  | .ife _ t => if v = 0 then a + 1 else t
  | .go t => t
  | _ => a + 1
def Row.says (l : List Int) (v : Int) : Row → List Int
  | .say _ => l ++ [v]
  | _ => l
def Row.isCall : Row → Bool
  | .call _ _ => true
  | _ => false
structure Bc where
  at_ : Int
  held : List Int
  said : List Int
  done : Int
  many : Nat
def eat (jf : Nat → Int) : List Int → Nat → List Int → List Int
  | [], _, h => h
  | e :: es, n, h => eat jf es (n + 1) (h.set e.toNat (jf n))
def bstep (jf : Nat → Int) (boxes : Int) (eaten : List Int) (m : Bc) (r : Row) (g : Grp) : Bc :=
  ⟨r.next m.at_ (rd (g.bx.map (rd (mvs boxes m.held g.ahead))) 0),
   mvs boxes (if isMk r then (if r.isCall then eat jf eaten m.many (mvs boxes m.held g.ahead) else mvs boxes m.held g.ahead).set (rd g.bx 0).toNat (r.val (g.bx.map (rd (mvs boxes m.held g.ahead)))) else (if r.isCall then eat jf eaten m.many (mvs boxes m.held g.ahead) else mvs boxes m.held g.ahead)) g.behind,
   r.says m.said (rd (g.bx.map (rd (mvs boxes m.held g.ahead))) 0), m.done + 1, if r.isCall then m.many + eaten.length else m.many⟩
def brun (jf : Nat → Int) (boxes : Int) (eaten : List Int) (rows : List Row) (gs : List Grp) : Nat → Bc → Bc
  | 0, m => m
  | n + 1, m => match rows[m.at_.toNat]?, gs[m.at_.toNat]? with
    | some r, some g => if r.isFin then m else brun jf boxes eaten rows gs n (bstep jf boxes eaten m r g)
    | _, _ => m
structure BcOk (boxes slots : Int) (m : Bc) : Prop where
  len : (m.held.length : Int) = boxes + slots
  lo : ∀ v ∈ m.held, In0 v 1000
  at0 : 0 ≤ m.at_
  sd : (m.said.length : Int) ≤ m.done
theorem mv1_mem {α : Type} {boxes : Int} {h : List α} {m : Mv} {x : α} (hx : x ∈ mv1 boxes h m) : x ∈ h := by
  have get : ∀ {i : Nat} {v : α}, h[i]? = some v → v ∈ h := fun e => List.mem_of_getElem? e
  cases m <;> unfold mv1 at hx <;> dsimp only at hx <;> split at hx
  · rename_i e; rcases List.mem_or_eq_of_mem_set hx with z | z; exact z; rw [z]; exact get e
  · exact hx
  · rename_i e1 e2
    rcases List.mem_or_eq_of_mem_set hx with z | z
    · rcases List.mem_or_eq_of_mem_set z with y | y
      · exact y
      · rw [y]; exact get e2
    · rw [z]; exact get e1
  · exact hx
  · rename_i e; rcases List.mem_or_eq_of_mem_set hx with z | z; exact z; rw [z]; exact get e
  · exact hx
  · rename_i e; rcases List.mem_or_eq_of_mem_set hx with z | z; exact z; rw [z]; exact get e
  · exact hx
theorem mvs_mem {α : Type} {boxes : Int} : ∀ {ms : List Mv} {h : List α} {x : α}, x ∈ mvs boxes h ms → x ∈ h
  | [], _, _, hx => hx
  | m :: ms, h, x, hx => mv1_mem (mvs_mem (ms := ms) (h := mv1 boxes h m) hx)
theorem eat_len {jf : Nat → Int} : ∀ {es : List Int} {n : Nat} {h : List Int}, (eat jf es n h).length = h.length
  | [], _, _ => rfl
  | e :: es, n, h => by
    unfold eat
    rw [eat_len, List.length_set]
theorem eat_in {jf : Nat → Int} (hj : ∀ n, In0 (jf n) 1000) : ∀ {es : List Int} {n : Nat} {h : List Int}, (∀ v ∈ h, In0 v 1000) → ∀ v ∈ eat jf es n h, In0 v 1000
  | [], _, _, hh => hh
  | e :: es, n, h, hh => by
    unfold eat
    exact eat_in hj (set_in hh (hj n))
theorem val_in {xs : List Int} {r : Row} {names many : Int} (hr : r.ok names many) (hx : ∀ x ∈ xs, In0 x 1000) : In0 (r.val xs) 1000 := by
  cases r with
  | put d k => exact hr.2
  | copy d a => exact rd_in hx
  | op o d a b => exact Op3.v_in
  | call d a => exact mod_in
  | _ => exact ⟨Int.le_refl 0, show (0 : Int) < 1000 by decide⟩
theorem bstep_ok {jf : Nat → Int} {boxes slots names many : Int} {eaten : List Int} {m : Bc} {r : Row} {g : Grp} (hj : ∀ n, In0 (jf n) 1000) (h : BcOk boxes slots m) (hr : r.ok names many) : BcOk boxes slots (bstep jf boxes eaten m r g) := by
  obtain ⟨h1, h2, h3, h4⟩ := h
  have w1 : ∀ v ∈ mvs boxes m.held g.ahead, In0 v 1000 := fun v hv => h2 v (mvs_mem hv)
  have wx : ∀ v ∈ g.bx.map (rd (mvs boxes m.held g.ahead)), In0 v 1000 := fun v hv => by
    obtain ⟨b, _, rfl⟩ := List.mem_map.mp hv
    exact rd_in w1
  have w2 : ∀ v ∈ (if r.isCall then eat jf eaten m.many (mvs boxes m.held g.ahead) else mvs boxes m.held g.ahead), In0 v 1000 := fun v hv => by
    split at hv
    · exact eat_in hj w1 v hv
    · exact w1 v hv
  have l2 : ((if r.isCall then eat jf eaten m.many (mvs boxes m.held g.ahead) else mvs boxes m.held g.ahead).length : Int) = boxes + slots := by
    split
    · rw [eat_len, mvs_len]; exact h1
    · rw [mvs_len]; exact h1
  refine ⟨?_, fun v hv => ?_, ?_, ?_⟩
  · show ((mvs boxes _ g.behind).length : Int) = _
    rw [mvs_len]
    split
    · rw [List.length_set]; exact l2
    · exact l2
  · have hv := mvs_mem (show v ∈ mvs boxes _ g.behind from hv)
    split at hv
    · exact set_in w2 (val_in hr wx) v hv
    · exact w2 v hv
  · show 0 ≤ r.next m.at_ _
    cases r with
    | ife a t => have := hr.2.1; unfold Row.next; dsimp only; split <;> omega
    | go t => exact hr.1
    | _ => unfold Row.next; dsimp only; omega
  · show ((r.says m.said _).length : Int) ≤ m.done + 1
    cases r with
    | say a => unfold Row.says; simp; omega
    | _ => unfold Row.says; dsimp only; omega
theorem brun_over {jf : Nat → Int} {boxes : Int} {eaten : List Int} {rows : List Row} {gs : List Grp} {m : Bc} (h : over rows m.at_ = true) : ∀ n, brun jf boxes eaten rows gs n m = m
  | 0 => rfl
  | n + 1 => by
    unfold brun
    unfold over at h
    cases e : rows[m.at_.toNat]? with
    | none => rfl
    | some r =>
      rw [e] at h
      have h : r.isFin = true := h
      cases gs[m.at_.toNat]? with
      | none => rfl
      | some g => simp [h]
theorem brun_step {jf : Nat → Int} {boxes : Int} {eaten : List Int} {rows : List Row} {gs : List Grp} {m : Bc} {r : Row} {g : Grp} (e : rows[m.at_.toNat]? = some r) (e2 : gs[m.at_.toNat]? = some g) (h : r.isFin = false) (n : Nat) : brun jf boxes eaten rows gs (n + 1) m = brun jf boxes eaten rows gs n (bstep jf boxes eaten m r g) := by
  conv => lhs; unfold brun
  simp [e, e2, h]
theorem brun_ok {jf : Nat → Int} {boxes slots names : Int} {eaten : List Int} {rows : List Row} {gs : List Grp} (hj : ∀ n, In0 (jf n) 1000) (hr : ∀ r ∈ rows, r.ok names rows.length) : ∀ (n : Nat) {m : Bc}, BcOk boxes slots m → BcOk boxes slots (brun jf boxes eaten rows gs n m)
  | 0, m, h => h
  | n + 1, m, h => by
    unfold brun
    cases e : rows[m.at_.toNat]? with
    | none => exact h
    | some r =>
      cases e2 : gs[m.at_.toNat]? with
      | none => exact h
      | some g =>
        dsimp only
        split
        · exact h
        · exact brun_ok hj hr n (bstep_ok hj h (hr r (List.mem_of_getElem? e)))
theorem brun_done {jf : Nat → Int} {boxes : Int} {eaten : List Int} {rows : List Row} {gs : List Grp} : ∀ (n : Nat) (m : Bc), (brun jf boxes eaten rows gs n m).done ≤ m.done + n
  | 0, m => by show m.done ≤ m.done + 0; omega
  | n + 1, m => by
    unfold brun
    cases rows[m.at_.toNat]? with
    | none => show m.done ≤ _; omega
    | some r =>
      cases gs[m.at_.toNat]? with
      | none => show m.done ≤ _; omega
      | some g =>
        dsimp only
        split
        · omega
        · have := brun_done (jf := jf) (boxes := boxes) (eaten := eaten) (rows := rows) (gs := gs) n (bstep jf boxes eaten m r g)
          have e : (bstep jf boxes eaten m r g).done = m.done + 1 := rfl
          omega
def pix (boxes : Int) : Pl → Int
  | .box n => n
  | .slot n => boxes + n
theorem pix_in {boxes slots : Int} {p : Pl} (h : p.ok boxes slots) (hb : 0 ≤ boxes) (hs : 0 ≤ slots) : In0 (pix boxes p) (boxes + slots) := by
  cases p with
  | box n => exact ⟨h.1, by have := h.2; show n < _; omega⟩
  | slot n => exact ⟨by have := h.1; show 0 ≤ boxes + n; omega, by have := h.2; show boxes + n < _; omega⟩
def lay {α : Type} (boxes : Int) : List α → List Pl → List α → List α
  | h, p :: ps, x :: xs => lay boxes (h.set (pix boxes p).toNat x) ps xs
  | h, _, _ => h
theorem lay_len {α : Type} {boxes : Int} : ∀ {h : List α} {ps : List Pl} {xs : List α}, (lay boxes h ps xs).length = h.length
  | h, p :: ps, x :: xs => by
    unfold lay
    rw [lay_len, List.length_set]
  | h, [], _ => by unfold lay; rfl
  | h, _ :: _, [] => by unfold lay; rfl
theorem lay_mem {α : Type} {boxes : Int} {y : α} : ∀ {h : List α} {ps : List Pl} {xs : List α}, y ∈ lay boxes h ps xs → y ∈ h ∨ y ∈ xs
  | h, p :: ps, x :: xs, hy => by
    unfold lay at hy
    rcases lay_mem hy with z | z
    · rcases List.mem_or_eq_of_mem_set z with w | w
      · exact .inl w
      · exact .inr (by rw [w]; exact List.mem_cons_self)
    · exact .inr (List.mem_cons_of_mem _ z)
  | h, [], _, hy => by unfold lay at hy; exact .inl hy
  | h, _ :: _, [], hy => by unfold lay at hy; exact .inl hy
def jv (junk : List Int) (n : Nat) : Int := if junk = [] then 0 else rd junk ((n % junk.length : Nat) : Int)
theorem jv_in {junk : List Int} (h : ∀ x ∈ junk, In0 x 1000) (n : Nat) : In0 (jv junk n) 1000 := by
  unfold jv
  split
  · exact ⟨by decide, by decide⟩
  · exact rd_in h
def bc0 (jf : Nat → Int) (boxes : Int) (N : Nat) (ps : List Pl) (gs : List Int) : Bc := ⟨0, lay boxes ((List.range N).map jf) ps gs, [], 0, N⟩
theorem bc0_ok {jf : Nat → Int} {boxes slots : Int} {N : Nat} {ps : List Pl} {gs : List Int} (hj : ∀ n, In0 (jf n) 1000) (hN : (N : Int) = boxes + slots) (hg : ∀ g ∈ gs, In0 g 1000) : BcOk boxes slots (bc0 jf boxes N ps gs) := by
  refine ⟨?_, fun v hv => ?_, Int.le_refl 0, Int.le_refl 0⟩
  · show ((lay boxes _ ps gs).length : Int) = _
    rw [lay_len]
    simp
    exact hN
  · rcases lay_mem (show v ∈ lay boxes _ ps gs from hv) with z | z
    · obtain ⟨n, _, rfl⟩ := List.mem_map.mp z
      exact hj n
    · exact hg v z
def tellB (sd : Nat) (rows : List Row) (a done : Int) : D := .tup [.ref sd, .tup [.str (if over rows a then z_end else z_long)], .int done]
end PG
end
section
set_option linter.all false
set_option autoImplicit false
set_option maxRecDepth 100003
namespace PG
open PF
theorem told_spec {S : Sto} {P : D → Sto → Prop} {t : Nat} {r : Row} {xs : List Int} (hm : isMk r = true) (hl : xs.length = r.nms.length) (hx : ∀ x ∈ xs, In0 x 1000) (gt : S[t]? = some (.lst ((xs.drop 1).map .int))) :
    wp (f_told_by [r.D, .ref t] S) P = P (.int (r.val xs)) S := by
  have l0 := lstOf_lst gt
  have sq : ∀ x : Int, In0 x 1000 → (-(2 ^ 64) < x ∧ x < 2 ^ 64) := fun x h => by have := h.1; have := h.2; omega
  cases r with
  | put d k =>
    simp_arith [f_told_by, b_told_by, Row.D, at0, at_2, cons_beq_nil, nil_beq_cons, List.cons_beq_cons, Nat.reduceBEq]
    rfl
  | copy d a =>
    obtain ⟨x, y, rfl⟩ : ∃ x y, xs = [x, y] := by
      match xs, hl with
      | [x, y], _ => exact ⟨x, y, rfl⟩
    have l0 : lstOf t S = some [.int y] := l0
    simp_arith [f_told_by, b_told_by, Row.D, at0, at_2, cons_beq_nil, nil_beq_cons, List.cons_beq_cons, Nat.reduceBEq, l0]
    rfl
  | call d a =>
    obtain ⟨x, y, rfl⟩ : ∃ x y, xs = [x, y] := by
      match xs, hl with
      | [x, y], _ => exact ⟨x, y, rfl⟩
    have l0 : lstOf t S = some [.int y] := l0
    have hy := hx y (by simp)
    simp_arith [f_told_by, b_told_by, f_called, b_called, Row.D, at0, at_2, cons_beq_nil, nil_beq_cons, List.cons_beq_cons, Nat.reduceBEq, l0, w_mul (.inl (sq _ hy)), w_mulR 7 (by decide), w_mod (show (0 : Int) < 1000 by decide)]
    rfl
  | op o d a b =>
    obtain ⟨x, y, z, rfl⟩ : ∃ x y z, xs = [x, y, z] := by
      match xs, hl with
      | [x, y, z], _ => exact ⟨x, y, z, rfl⟩
    have l0 : lstOf t S = some [.int y, .int z] := l0
    cases o <;>
    simp_arith [f_told_by, b_told_by, f_reckoned, b_reckoned, Row.D, Op3.s, at0, at_1, at_2, cons_beq_nil, nil_beq_cons, List.cons_beq_cons, Nat.reduceBEq, l0, w_mod (show (0 : Int) < 1000 by decide)]
    · rfl
    · rfl
    · by_cases c : y < z
      · simp [Row.val, Op3.v, rd, b2i, c]
      · simp [Row.val, Op3.v, rd, b2i, c]
  | _ => cases hm
theorem index_spec {S : Sto} {P : D → Sto → Prop} {p : Pl} {boxes slots : Int} {eaten : List Int} : wp (f_index_of [p.D, frameD boxes slots eaten] S) P = P (.int (pix boxes p)) S := by
  unfold f_index_of b_index_of frameD
  cases p <;> simp_arith [Pl.D, at0, at_1, cons_beq_nil, nil_beq_cons, List.cons_beq_cons, Nat.reduceBEq] <;> rfl
def junkO (jr : Nat) (n : Nat) : MO := .ins 1 [(4, .ref jr), (5, .int (n : Int))]
theorem next_spec {S : Sto} {o jr n : Nat} {junk : List Int} (ho : S[o]? = some (junkO jr n)) (hj : S[jr]? = some (.lst (junk.map .int))) :
    wp (f_Junk_next_one [.ref o] S) fun d S' => d = .int (jv junk n) ∧ S'[o]? = some (junkO jr (n + 1)) ∧ Keep [o] S S' := by
  have lo := lt_of_get ho
  have ne : o ≠ jr := fun e => by
    rw [e, hj] at ho
    cases ho
  have a1 : ∀ x, insOf 1 o (S.set o (.ins 1 x)) = some x := fun x => insOf_ins (get_set lo)
  have g1 : ∀ x, (S.set o x)[jr]? = some (.lst (junk.map .int)) := fun x => get_ne hj ne
  have a2 : ∀ x U, insOf 1 o (S.set o (.ins 1 x) ++ U) = some x := fun x U => insOf_ins (get_app (get_set lo))
  have g2 : ∀ x U, lstOf jr (S.set o x ++ U) = some (junk.map .int) := fun x U => lstOf_app (g1 x)
  have e1 : ∀ x, eqF (S.set o x ++ [.lst []]) (.ref jr) (.ref (S.set o x).length) = some (junk == []) := fun x => eq_nil (g1 x)
  unfold f_Junk_next_one b_Junk_next_one junkO at *
  have hfg4 : ∀ (a : D) (fs : List (Nat × D)), fget ((4, a) :: fs) 4 = some a := fun _ _ => rfl
  have hfg5 : ∀ (a b : D) (fs : List (Nat × D)), fget ((4, a) :: (5, b) :: fs) 5 = some b := fun _ _ _ => rfl
  have hfp5 : ∀ (a b v : D) (fs : List (Nat × D)), fput ((4, a) :: (5, b) :: fs) 5 v = (4, a) :: (5, v) :: fs := fun _ _ _ _ => rfl
  have kk : ∀ x U, Keep [o] S (S.set o x ++ U) := fun x U => .trans (.set (by simp)) .app
  have gg : ∀ x U, (S.set o x ++ U)[o]? = some x := fun x U => get_app (get_set lo)
  have el := e1
  simp_arith [insOf_ins ho, hfg4, hfg5, hfp5, a1, a2, e1]
  cases c : junk == [] with
  | true =>
    have : junk = [] := by simpa using c
    subst this
    simp_arith []
    exact ⟨rfl, by rw [gg]; rfl, kk _ _⟩
  | false =>
    have hne : junk ≠ [] := by simpa using c
    have hpos := List.length_pos_iff.mpr hne
    have em : ((n : Int) + 1 - 1) % (junk.length : Int) = ((n % junk.length : Nat) : Int) := by
      rw [show (n : Int) + 1 - 1 = (n : Int) by omega]
      rfl
    have hin : In0 ((n % junk.length : Nat) : Int) (junk.length : Int) := ⟨by omega, by have := Nat.mod_lt n hpos; omega⟩
    simp_arith [a2, hfg4, hfg5, g2, List.length_map, w_mod (show (0 : Int) < (junk.length : Int) by omega), em, at_held rfl hin]
    refine ⟨?_, by rw [gg]; rfl, kk _ _⟩
    unfold jv
    rw [if_neg hne]
end PG
end
section
set_option linter.all false
set_option autoImplicit false
set_option maxRecDepth 100003
namespace PG
open PF
def oneB (rows : List Row) (a done : Int) (sd : Nat) : MO := .ins 0 [(0, .tup (rows.map Row.D)), (1, .int a), (2, .ref sd), (3, .int done)]
/-- a row that asks for what it is handed -/
def Row.asks : Row → Bool
  | .say _ => true
  | .ife _ _ => true
  | _ => false
theorem go2_spec {S : Sto} {o sd t : Nat} {rows : List Row} {a done v : Int} {ds : List D} {l : List Int} {r : Row} (hO : S[o]? = some (oneB rows a done sd)) (hS : S[sd]? = some (.lst (l.map .int))) (ne : o ≠ sd) (hT : S[t]? = some (.lst ds)) (hv : r.asks = true → ds[0]? = some (.int v)) (nt : t ≠ o) (ha : 0 ≤ a) (e : rows[a.toNat]? = some r) (hl : l.length < 10000) :
    wp (f_Run_go [.ref o, .ref t] S) fun d S' => d = .non ∧ S'[o]? = some (oneB rows (r.next a v) (done + 1) sd) ∧ S'[sd]? = some (.lst ((r.says l v).map .int)) ∧ Keep [o, sd] S S' := by
  have lo := lt_of_get hO
  have ls := lt_of_get hS
  have o1 : ∀ x, insOf 0 o (S.set o (.ins 0 x)) = some x := fun x => insOf_ins (get_set lo)
  have o2 : ∀ x y, insOf 0 o ((S.set o x).set o (.ins 0 y)) = some y := fun x y => insOf_ins (get_set (by simpa using lo))
  have t2 : ∀ x y, lstOf t ((S.set o x).set o y) = some ds := fun x y => lstOf_lst (get_ne (get_ne hT (Ne.symm nt)) (Ne.symm nt))
  have s2 : ∀ x y, wrOf sd ((S.set o x).set o y) = some (l.map .int) := fun x y => wrOf_lst (get_ne (get_ne hS ne) ne)
  have l2 : ∀ x y, isL (.ref sd) ((S.set o x).set o y) = true := fun x y => isL_lst (get_ne (get_ne hS ne) ne)
  have kk : ∀ x y, Keep [o, sd] S ((S.set o x).set o y) := fun x y => .trans (.set (by simp)) (.set (by simp))
  have L : l.length < LIM := by unfold LIM; omega
  have A : ∀ x y, ((S.set o x).set o y)[o]? = some y := fun x y => get_set (by simpa using lo)
  have B : ∀ x y, ((S.set o x).set o y)[sd]? = some (.lst (l.map .int)) := fun x y => get_ne (get_ne hS ne) ne
  have C : ∀ x y v, (((S.set o x).set o y).set sd v)[o]? = some y := fun x y v => get_ne (A x y) (Ne.symm ne)
  have C2 : ∀ x y v, (((S.set o x).set o y).set sd v)[sd]? = some v := fun x y v => get_set (by simpa using ls)
  have F : ∀ x y v, (((S.set o x).set o y).set o v)[o]? = some v := fun x y v => get_set (by simpa using lo)
  have F2 : ∀ x y v, (((S.set o x).set o y).set o v)[sd]? = some (.lst (l.map .int)) := fun x y v => get_ne (B x y) ne
  have kC : ∀ x y v, Keep [o, sd] S (((S.set o x).set o y).set sd v) := fun x y v => (kk x y).trans (.set (by simp))
  have kF : ∀ x y v, Keep [o, sd] S (((S.set o x).set o y).set o v) := fun x y v => (kk x y).trans (.set (by simp))
  unfold oneB at hO
  unfold f_Run_go b_Run_go
  cases r with
  | say n =>
    have e0 := hv rfl
    simp_arith [insOf_ins hO, fget0, fget1, fget2, fget3, fput1, fput3, o1, o2, at_rows ha e, Row.D, Op3.s, at0, at_1, at_2, t2, s2, l2, e0, cons_beq_nil, nil_beq_cons, List.cons_beq_cons, Nat.reduceBEq, List.length_map, L, Nat.reduceLT]
    exact ⟨C _ _ _, by rw [C2]; simp [Row.says], kC _ _ _⟩
  | ife n q =>
    have e0 := hv rfl
    simp_arith [insOf_ins hO, fget0, fget1, fget2, fget3, fput1, fput3, o1, o2, at_rows ha e, Row.D, Op3.s, at0, at_1, at_2, t2, s2, l2, e0, cons_beq_nil, nil_beq_cons, List.cons_beq_cons, Nat.reduceBEq, List.length_map, L, Nat.reduceLT]
    by_cases c : v = 0
    · simp_arith [c]
      exact ⟨by rw [A]; simp [oneB, Row.next, c], B _ _, kk _ _⟩
    · have c' : (v == 0) = false := by simpa using c
      simp_arith [c', insOf_ins (A _ _), fput1]
      exact ⟨by rw [F]; simp [oneB, Row.next, c], F2 _ _ _, kF _ _ _⟩
  | go q =>
    simp_arith [insOf_ins hO, fget0, fget1, fget2, fget3, fput1, fput3, o1, o2, at_rows ha e, Row.D, Op3.s, at0, at_1, at_2, t2, s2, l2, cons_beq_nil, nil_beq_cons, List.cons_beq_cons, Nat.reduceBEq, List.length_map, L, Nat.reduceLT]
    simp_arith [insOf_ins (A _ _), fput1]
    exact ⟨F _ _ _, F2 _ _ _, kF _ _ _⟩
  | op p d a b =>
    cases p <;> (simp_arith [insOf_ins hO, fget0, fget1, fget2, fget3, fput1, fput3, o1, o2, at_rows ha e, Row.D, Op3.s, at0, at_1, at_2, t2, s2, l2, cons_beq_nil, nil_beq_cons, List.cons_beq_cons, Nat.reduceBEq, List.length_map, L, Nat.reduceLT]; exact ⟨A _ _, B _ _, kk _ _⟩)
  | _ =>
    simp_arith [insOf_ins hO, fget0, fget1, fget2, fget3, fput1, fput3, o1, o2, at_rows ha e, Row.D, Op3.s, at0, at_1, at_2, t2, s2, l2, cons_beq_nil, nil_beq_cons, List.cons_beq_cons, Nat.reduceBEq, List.length_map, L, Nat.reduceLT]
    exact ⟨A _ _, B _ _, kk _ _⟩
/-- [h[x] for x in bs] -/
theorem comp_read {S : Sto} {ρ : Env} {it : Iter} {i j h : Nat} {bs : List Int} {hs : List D} {f : Int → D} (ea : it.all = bs.map .int) (hs_ : it.same S = true) (hi : i < ρ.length) (hij : i ≠ j) (hj : ρ[j]? = some (some (.ref h))) (gh : lstOf h S = some hs) (ok : ∀ x ∈ bs, at? hs x = some (f x)) :
    wp (compLoop it (PF.gName i) tYes (e2 gIx (eVar j) (eVar i)) ρ it.all S) fun ys S' => ys = bs.map f ∧ S' = S := by
  refine wp_mono (wp_loop (it := it) (fun k acc S' => acc = (bs.take k).map f ∧ S' = S) (fun k acc S' h => by rw [h.2]; exact hs_) ?_ ⟨rfl, rfl⟩) ?_
  · rintro k x acc S1 hx ⟨rfl, rfl⟩
    rw [ea, List.getElem?_map] at hx
    cases e : bs[k]? with
    | none => rw [e] at hx; cases hx
    | some v =>
      rw [e] at hx
      cases hx
      refine ⟨_, rfl, ?_⟩
      have e1 : (ρ.set i (some (.int v)))[j]? = some (some (.ref h)) := by rw [List.getElem?_set_ne hij]; exact hj
      have e2 : (ρ.set i (some (.int v)))[i]? = some (some (.int v)) := by simp [hi]
      rw [w_tyes, if_pos rfl, w_e2, w_var e1, w_var e2, v_ixL, gh, on_some, ok v (List.mem_of_getElem? e), on_some]
      refine ⟨?_, rfl⟩
      rw [List.take_add_one, e]
      simp
  · rintro ys S1 ⟨rfl, rfl⟩
    refine ⟨?_, rfl⟩
    rw [ea, List.length_map, List.take_length]
/-- the eaten boxes -/
theorem eat_spec {S : Sto} {ρ : Env} {i j k h o jr n : Nat} {junk eaten hs : List Int} (hi : i < ρ.length) (hij : i ≠ j) (hik : i ≠ k) (hj : ρ[j]? = some (some (.ref h))) (hk : ρ[k]? = some (some (.ref o))) (gh : S[h]? = some (.lst (hs.map .int))) (go : S[o]? = some (junkO jr n)) (gj : S[jr]? = some (.lst (junk.map .int))) (ne : h ≠ jr) (ok : ∀ x ∈ eaten, In0 x hs.length) :
    wp (forLoop ⟨[], eaten.map D.int⟩ (PF.gName i) (sSub (eVar j) (eVar i) (eMeth 1 f_Junk_next_one (eVar k) aNil)) (eaten.map D.int) ρ S) fun z S' => z.1 = .nx ∧ (∃ c, z.2 = ρ ∨ z.2 = ρ.set i c) ∧ S'[h]? = some (.lst ((eat (jv junk) eaten n hs).map .int)) ∧ S'[o]? = some (junkO jr (n + eaten.length)) ∧ Keep [h, o] S S' := by
  have nho : h ≠ o := fun e => by rw [e, go] at gh; cases gh
  have njo : jr ≠ o := fun e => by rw [e, go] at gj; cases gj
  have app : ∀ (es : List Int) (f : Int) (n : Nat) (hs : List Int), eat (jv junk) (es ++ [f]) n hs = (eat (jv junk) es n hs).set f.toNat (jv junk (n + es.length)) := fun es f => by
    induction es with
    | nil => intro n hs; rfl
    | cons e es ih => intro n hs; show eat (jv junk) (es ++ [f]) (n + 1) _ = _; rw [ih]; show _ = (eat (jv junk) es (n + 1) _).set _ _; rw [List.length_cons, Nat.add_right_comm]; rfl
  refine wp_for (it := ⟨[], eaten.map D.int⟩) (fun m ρ' S' => (∃ c, ρ' = ρ ∨ ρ' = ρ.set i c) ∧ S'[h]? = some (.lst ((eat (jv junk) (eaten.take m) n hs).map .int)) ∧ S'[o]? = some (junkO jr (n + (eaten.take m).length)) ∧ Keep [h, o] S S') (fun _ _ _ _ => rfl) ?_ ⟨⟨none, .inl rfl⟩, gh, go, .refl⟩ ?_
  · rintro m x ρ' S1 hx ⟨⟨c, hρ⟩, g1, g2, K1⟩
    rw [List.getElem?_map] at hx
    cases e : eaten[m]? with
    | none => rw [e] at hx; cases hx
    | some b =>
      rw [e] at hx
      cases hx
      have hρ2 : ρ'.set i (some (.int b)) = ρ.set i (some (.int b)) := by
        rcases hρ with z | z <;> rw [z]
        rw [List.set_set]
      refine ⟨ρ.set i (some (.int b)), by rw [← hρ2]; rfl, ?_⟩
      have e1 : (ρ.set i (some (.int b)))[j]? = some (some (.ref h)) := by rw [List.getElem?_set_ne hij]; exact hj
      have e2 : (ρ.set i (some (.int b)))[i]? = some (some (.int b)) := by simp [hi]
      have e3 : (ρ.set i (some (.int b)))[k]? = some (some (.ref o)) := by rw [List.getElem?_set_ne hik]; exact hk
      have gj1 := K1.at gj (by simp; exact ⟨Ne.symm ne, njo⟩)
      rw [v_sub, v_meth, w_var e3]
      refine ⟨o, rfl, ?_⟩
      unfold junkO at g2
      rw [insOf_ins g2, on_some, w_nil]
      refine wp_mono (next_spec g2 gj1) ?_
      rintro _ S2 ⟨rfl, g3, k2⟩
      have g4 := k2.at g1 (by simp; exact nho)
      have hb := ok b (List.mem_of_getElem? e)
      have lh : ((eat (jv junk) (eaten.take m) n hs).length : Int) = hs.length := by rw [eat_len]
      rw [w_var e1, w_var e2, v_setItem, wrOf_lst g4, on_some, ixN_held lh hb, on_some]
      have et : eaten.take (m + 1) = eaten.take m ++ [b] := by rw [List.take_add_one, e]; rfl
      refine ⟨⟨some (.int b), .inr rfl⟩, ?_, ?_, ?_⟩
      · rw [get_set (lt_of_get g4), et, app, List.map_set]
      · rw [get_ne g3 nho, et, List.length_append]; rfl
      · exact (K1.trans (k2.mono (by intro i _ h; simp at h ⊢; exact .inr h))).trans (.set (by simp))
  · rintro ρ' S1 ⟨hρ, g1, g2, K1⟩
    have e : (Iter.mk [] (eaten.map D.int)).all.length = eaten.length := by show (eaten.map D.int).length = _; simp
    rw [e, List.take_length] at g1 g2
    exact ⟨rfl, hρ, g1, g2, K1⟩
end PG
end
section
set_option linter.all false
set_option autoImplicit false
set_option maxRecDepth 100003
namespace PG
open PF
def Row.w : Row → List Nat
  | .put _ _ => z_put
  | .copy _ _ => z_copy
  | .op o _ _ _ => o.s
  | .call _ _ => z_call
  | .say _ => z_say
  | .ife _ _ => z_if
  | .go _ => z_go
  | .fin => z_end
theorem row_w {S : Sto} {P : D → Sto → Prop} {r : Row} : wp (gIx r.D (.int 0) S) P = P (.str r.w) S := by
  cases r <;> simp_arith [Row.D, at0] <;> rfl
theorem w_call_ {r : Row} : (r.w == z_call) = r.isCall := by
  cases r with
  | op o _ _ _ => cases o <;> rfl
  | _ => rfl
theorem makes_is {S : Sto} {P : D → Sto → Prop} {r : Row} : wp (f_makes [r.D] S) P = P (.bl (isMk r)) S := by
  rw [makes_eq]
  cases r <;> rfl
def stEat : St := sIf (tE (e2 gEq (e2 gIx (eVar 11) (eC (.int 0))) (eC (.str z_call)))) (sFor (iSeq (e2 gIx (eVar 1) (eC (.int 2)))) (PF.gName 16) (sSub (eVar 7) (eVar 16) (eMeth 1 f_Junk_next_one (eVar 6) aNil))) (sNext)
def stMk : St := sIf (tE (eCall f_makes (aCons (eVar 11) (aNil)))) (sSub (eVar 7) (e2 gIx (eVar 13) (eC (.int 0))) (eCall f_told_by (aCons (eVar 11) (aCons (eVar 15) (aNil))))) (sNext)
def stTurn : St := sSeq (sSet 11 (e2 gIx (e1 (gFld 0 0) (eVar 10)) (e1 (gFld 0 1) (eVar 10))))
  (sSeq (sAsg (PF.gTup [12, 13, 14]) (e2 gIx (e2 gIx (eVar 2) (eC (.int 1))) (e1 (gFld 0 1) (eVar 10))))
  (sSeq (sSet 7 (eCall f_moved (aCons (eVar 7) (aCons (eVar 12) (aCons (eVar 1) (aNil))))))
  (sSeq (sSet 15 (eComp (iSeq (eSlice (eVar 13) (oSome (eCall fInt (aCons (eCall f_makes (aCons (eVar 11) (aNil))) (aNil)))) (oNone))) [16] (PF.gName 16) (tYes) (e2 gIx (eVar 7) (eVar 16))))
  (sSeq stEat
  (sSeq stMk
  (sSeq (sSet 7 (eCall f_moved (aCons (eVar 7) (aCons (eVar 14) (aCons (eVar 1) (aNil))))))
  (sExpr (eMeth 0 f_Run_go (eVar 10) (aCons (eVar 15) (aNil))))))))))
theorem stTurn_eq : sSeq (sSet 11 (e2 gIx (e1 (gFld 0 0) (eVar 10)) (e1 (gFld 0 1) (eVar 10))))
  (sSeq (sAsg (PF.gTup [12, 13, 14]) (e2 gIx (e2 gIx (eVar 2) (eC (.int 1))) (e1 (gFld 0 1) (eVar 10))))
  (sSeq (sSet 7 (eCall f_moved (aCons (eVar 7) (aCons (eVar 12) (aCons (eVar 1) (aNil))))))
  (sSeq (sSet 15 (eComp (iSeq (eSlice (eVar 13) (oSome (eCall fInt (aCons (eCall f_makes (aCons (eVar 11) (aNil))) (aNil)))) (oNone))) [16] (PF.gName 16) (tYes) (e2 gIx (eVar 7) (eVar 16))))
  (sSeq (sIf (tE (e2 gEq (e2 gIx (eVar 11) (eC (.int 0))) (eC (.str z_call)))) (sFor (iSeq (e2 gIx (eVar 1) (eC (.int 2)))) (PF.gName 16) (sSub (eVar 7) (eVar 16) (eMeth 1 f_Junk_next_one (eVar 6) aNil))) (sNext))
  (sSeq (sIf (tE (eCall f_makes (aCons (eVar 11) (aNil)))) (sSub (eVar 7) (e2 gIx (eVar 13) (eC (.int 0))) (eCall f_told_by (aCons (eVar 11) (aCons (eVar 15) (aNil))))) (sNext))
  (sSeq (sSet 7 (eCall f_moved (aCons (eVar 7) (aCons (eVar 14) (aCons (eVar 1) (aNil))))))
  (sExpr (eMeth 0 f_Run_go (eVar 10) (aCons (eVar 15) (aNil)))))))))) = stTurn := rfl
theorem map_rd {l : List Int} {h : List Int} : (l.map fun x => D.int (rd h x)) = (l.map (rd h)).map .int := by rw [List.map_map]; rfl
theorem turn_spec {S : Sto} {params names boxes slots : Int} {rows : List Row} {eaten junk : List Int} {c : Choice} {m : Bc} {r : Row} {g : Grp} {h o sd od jr : Nat} {gv fu ju c8 c9 c11 c12 c13 c14 c15 c16 : Option D} (hP : ProgOk params names rows) (hf : FrameOk boxes slots eaten) (hC : ChoiceOk params rows boxes slots c) (hj : ∀ x ∈ junk, In0 x 1000) (ok : BcOk boxes slots m) (er : rows[m.at_.toNat]? = some r) (eg : c.groups[m.at_.toNat]? = some g)
    (hsd : m.done < 5000) (gH : S[h]? = some (.lst (m.held.map .int))) (gO : S[o]? = some (oneB rows m.at_ m.done sd)) (gS : S[sd]? = some (.lst (m.said.map .int))) (gJ : S[od]? = some (junkO jr m.many)) (gj : S[jr]? = some (.lst (junk.map .int))) (njs : jr ≠ sd) :
    wp (stTurn [some (progD params names rows), some (frameD boxes slots eaten), some c.D, gv, fu, ju, some (.ref od), some (.ref h), c8, c9, some (.ref o), c11, c12, c13, c14, c15, c16] S) fun z S' => z.1 = .nx ∧ ∃ (h' : Nat) (c11 c12 c13 c14 c15 c16 : Option D),
      z.2 = [some (progD params names rows), some (frameD boxes slots eaten), some c.D, gv, fu, ju, some (.ref od), some (.ref h'), c8, c9, some (.ref o), c11, c12, c13, c14, c15, c16] ∧ S'[h']? = some (.lst ((bstep (jv junk) boxes eaten m r g).held.map .int)) ∧ S'[o]? = some (oneB rows (bstep (jv junk) boxes eaten m r g).at_ (bstep (jv junk) boxes eaten m r g).done sd) ∧
      S'[sd]? = some (.lst ((bstep (jv junk) boxes eaten m r g).said.map .int)) ∧ S'[od]? = some (junkO jr (bstep (jv junk) boxes eaten m r g).many) ∧ Keep [o, sd, od] S S' := by
  have hb := hf.bx
  have hsl := hf.sl
  have hg := hC.go _ r g er eg
  have hr := hP.ok r (List.mem_of_getElem? er)
  have nos : o ≠ sd := fun e => by rw [e, gS] at gO; cases gO
  have nod : od ≠ sd := fun e => by rw [e, gS] at gJ; cases gJ
  have noo : o ≠ od := fun e => by rw [e, gJ] at gO; cases gO
  have njo : jr ≠ o := fun e => by rw [e, gO] at gj; cases gj
  have njd : jr ≠ od := fun e => by rw [e, gJ] at gj; cases gj
  have fr : frameD boxes slots eaten = .tup [.int boxes, .int slots, .tup (eaten.map .int)] := rfl
  have fc : c.D = .tup [.tup (c.places.map Pl.D), .tup (c.groups.map Grp.D)] := rfl
  have fg : g.D = .tup [.tup (g.ahead.map Mv.D), .tup (g.bx.map .int), .tup (g.behind.map Mv.D)] := rfl
  have agr : at? (c.groups.map Grp.D) m.at_ = some g.D := by rw [at_pos ok.at0, List.getElem?_map, eg]; rfl
  have lo := lt_of_get gO
  have ls := lt_of_get gS
  have ld := lt_of_get gJ
  have lj := lt_of_get gj
  unfold oneB at gO
  unfold stTurn
  simp_arith [insOf_ins gO, fget0, fget1, at_rows ok.at0 er, fc, at_1, agr, fg]
  refine wp_mono (moved_spec (h := .ref h) (hs := m.held.map .int) (boxes := boxes) (slots := slots) (eaten := eaten) (by omega) hsl.1 (lstOf_lst gH) (by rw [List.length_map]; exact ok.len) hg.oa) ?_
  rintro _ S1 ⟨rfl, g1, k1⟩
  rw [mvs_map] at g1
  have lh1 : ((mvs boxes m.held g.ahead).length : Int) = boxes + slots := by rw [mvs_len]; exact ok.len
  have w1 : ∀ v ∈ mvs boxes m.held g.ahead, In0 v 1000 := fun v hv => ok.lo v (mvs_mem hv)
  have eb : bstep (jv junk) boxes eaten m r g = ⟨r.next m.at_ (rd (g.bx.map (rd (mvs boxes m.held g.ahead))) 0),
   mvs boxes (if isMk r then (if r.isCall then eat (jv junk) eaten m.many (mvs boxes m.held g.ahead) else mvs boxes m.held g.ahead).set (rd g.bx 0).toNat (r.val (g.bx.map (rd (mvs boxes m.held g.ahead)))) else (if r.isCall then eat (jv junk) eaten m.many (mvs boxes m.held g.ahead) else mvs boxes m.held g.ahead)) g.behind,
   r.says m.said (rd (g.bx.map (rd (mvs boxes m.held g.ahead))) 0), m.done + 1, if r.isCall then m.many + eaten.length else m.many⟩ := rfl
  rw [eb]
  clear eb
  generalize mvs boxes m.held g.ahead = h1 at *
  have hbx : ∀ x ∈ g.bx, In0 x (boxes + slots) := fun x hx => ⟨(hg.bi x hx).1, by have := (hg.bi x hx).2; omega⟩
  have rdx : ∀ x ∈ g.bx, at? (h1.map D.int) x = some (.int (rd h1 x)) := fun x hx => at_held lh1 (hbx x hx)
  simp_arith [makes_is, w_slice, w_osome, w_onone, gslN]
  have ecut : cut (g.bx.map D.int) (some (b2i (isMk r))) none = (g.bx.drop (b2i (isMk r)).toNat).map .int := by rw [cut_from (by cases isMk r <;> decide), List.map_drop]
  rw [ecut]
  simp_arith [chkOf]
  refine wp_mono (comp_read (j := 7) (bs := g.bx.drop (b2i (isMk r)).toNat) (f := fun x => .int (rd h1 x)) (hs := h1.map .int) rfl rfl (show 16 < 17 by decide) (by decide) rfl (lstOf_lst g1) fun x hx => rdx x (List.mem_of_mem_drop hx)) ?_
  rintro _ S2 ⟨rfl, rfl⟩
  have lbx : g.bx.length ≤ 3 := by rw [hg.bl]; exact nms_len r
  refine ⟨by rw [List.length_map, List.length_drop]; exact lim_le (by omega), ?_⟩
  have exs : ((g.bx.drop (b2i (isMk r)).toNat).map fun x => D.int (rd h1 x)) = ((g.bx.map (rd h1)).drop (b2i (isMk r)).toNat).map .int := by rw [map_rd, List.map_drop]
  rw [exs]
  have lxs : (g.bx.map (rd h1)).length = r.nms.length := by rw [List.length_map]; exact hg.bl
  have wxs : ∀ x ∈ g.bx.map (rd h1), In0 x 1000 := fun x hx => by
    obtain ⟨y, _, rfl⟩ := List.mem_map.mp hx
    exact rd_in w1
  have gT : (S2 ++ [MO.lst (((g.bx.map (rd h1)).drop (b2i (isMk r)).toNat).map .int)])[S2.length]? = some (.lst (((g.bx.map (rd h1)).drop (b2i (isMk r)).toNat).map .int)) := get_last
  have g13 : (S2 ++ [MO.lst (((g.bx.map (rd h1)).drop (b2i (isMk r)).toNat).map .int)])[S.length]? = some (.lst (h1.map .int)) := get_app g1
  have k3 : Keep [] S (S2 ++ [MO.lst (((g.bx.map (rd h1)).drop (b2i (isMk r)).toNat).map .int)]) := k1.trans .app
  have nt : S.length < S2.length := lt_of_get g1
  generalize S2.length = t at *
  generalize S2 ++ [MO.lst (((g.bx.map (rd h1)).drop (b2i (isMk r)).toNat).map .int)] = S3 at *
  generalize exs2 : g.bx.map (rd h1) = xs at *
  clear g1 k1 exs ecut
  have gO3 : S3[o]? = some (oneB rows m.at_ m.done sd) := k3.at gO (by simp)
  have gS3 := k3.at gS (by simp)
  have gJ3 := k3.at gJ (by simp)
  have gj3 := k3.at gj (by simp)
  have lS : h1.length = (boxes + slots).toNat := by omega
  -- what is eaten
  have eatW : ∀ (Z : Fl × Env → Sto → Prop) (c16' : Option D), (∀ (S4 : Sto) (c16 : Option D), S4[S.length]? = some (.lst ((if r.isCall then eat (jv junk) eaten m.many h1 else h1).map .int)) → S4[od]? = some (junkO jr (if r.isCall then m.many + eaten.length else m.many)) → Keep [S.length, od] S3 S4 →
      Z (.nx, [some (progD params names rows), some (frameD boxes slots eaten), some c.D, gv, fu, ju, some (.ref od), some (.ref S.length), c8, c9, some (.ref o), some r.D, some (.tup (g.ahead.map Mv.D)), some (.tup (g.bx.map .int)), some (.tup (g.behind.map Mv.D)), some (.ref t), c16]) S4) →
      wp (stEat [some (progD params names rows), some (frameD boxes slots eaten), some c.D, gv, fu, ju, some (.ref od), some (.ref S.length), c8, c9, some (.ref o), some r.D, some (.tup (g.ahead.map Mv.D)), some (.tup (g.bx.map .int)), some (.tup (g.behind.map Mv.D)), some (.ref t), c16'] S3) Z := fun Z c16' k => by
    unfold stEat
    simp only [w_sif, w_te, w_e2, v_var, List.getElem?_cons_succ, List.getElem?_cons_zero, on_some, w_c, row_w, v_eq, eqF_str, w_call_, ex_bl]
    cases hcall : r.isCall with
    | false =>
      rw [hcall] at k
      rw [if_neg (by decide), w_next]
      exact k S3 _ g13 gJ3 .refl
    | true =>
      rw [hcall] at k
      rw [if_pos rfl]
      unfold frameD
      simp_arith [at_2, chkOf]
      refine wp_mono (eat_spec (i := 16) (j := 7) (k := 6) (h := S.length) (o := od) (hs := h1) (by simp) (by decide) (by decide) rfl rfl g13 gJ3 gj3 (by omega) fun x hx => ⟨(hf.wi x hx).1, by have := (hf.wi x hx).2; omega⟩) ?_
      rintro ⟨fl, ρ⟩ S4 ⟨rfl, ⟨cc, hρ⟩, g4, g4o, k4⟩
      rcases hρ with hρ | hρ
      · have hρ : ρ = _ := hρ
        subst hρ
        exact k S4 _ g4 g4o k4
      · have hρ : ρ = _ := hρ
        subst hρ
        exact k S4 cc g4 g4o k4
  refine eatW _ _ fun S4 c16 g4 g4o k4 => ?_
  clear eatW
  have lh2 : ((if r.isCall then eat (jv junk) eaten m.many h1 else h1).length : Int) = boxes + slots := by
    split
    · rw [eat_len]; exact lh1
    · exact lh1
  generalize (if r.isCall then eat (jv junk) eaten m.many h1 else h1) = h2 at *
  generalize (if r.isCall then m.many + eaten.length else m.many) = many2 at *
  have gT4 := k4.at gT (by simp; constructor; omega; exact fun e => by rw [e, gJ3] at gT; cases gT)
  have gO4 := k4.at gO3 (by simp; exact ⟨by omega, noo⟩)
  have gS4 := k4.at gS3 (by simp; exact ⟨by omega, Ne.symm nod⟩)
  have mkW : ∀ (Z : Fl × Env → Sto → Prop), (∀ (S5 : Sto), S5[S.length]? = some (.lst ((if isMk r then h2.set (rd g.bx 0).toNat (r.val xs) else h2).map .int)) → Keep [S.length] S4 S5 →
      Z (.nx, [some (progD params names rows), some (frameD boxes slots eaten), some c.D, gv, fu, ju, some (.ref od), some (.ref S.length), c8, c9, some (.ref o), some r.D, some (.tup (g.ahead.map Mv.D)), some (.tup (g.bx.map .int)), some (.tup (g.behind.map Mv.D)), some (.ref t), c16]) S5) →
      wp (stMk [some (progD params names rows), some (frameD boxes slots eaten), some c.D, gv, fu, ju, some (.ref od), some (.ref S.length), c8, c9, some (.ref o), some r.D, some (.tup (g.ahead.map Mv.D)), some (.tup (g.bx.map .int)), some (.tup (g.behind.map Mv.D)), some (.ref t), c16] S4) Z := fun Z k => by
    unfold stMk
    simp only [w_sif, w_te, w_call, w_cons, w_nil, v_var, List.getElem?_cons_succ, List.getElem?_cons_zero, on_some, makes_is, ex_bl]
    cases hm : isMk r with
    | false =>
      rw [hm] at k
      rw [if_neg (by decide), w_next]
      exact k S4 g4 .refl
    | true =>
      rw [hm] at k
      rw [hm] at gT4
      have hpos : 0 < g.bx.length := by
        rw [hg.bl]
        cases r <;> simp [Row.nms] <;> cases hm
      have hb0 : In0 (rd g.bx 0) (boxes + slots) := hbx _ (by
        have : rd g.bx 0 = g.bx[0] := by unfold rd; simp [hpos]
        rw [this]
        exact List.getElem_mem hpos)
      have e0 : at? (g.bx.map D.int) 0 = some (.int (rd g.bx 0)) := at_held rfl ⟨by decide, by omega⟩
      rw [if_pos rfl]
      simp only [v_sub, w_call, w_cons, w_nil, v_var, List.getElem?_cons_succ, List.getElem?_cons_zero, on_some]
      rw [told_spec hm lxs wxs gT4]
      simp_arith [e0, wrOf_lst g4, ixN_held lh2 hb0]
      refine k _ ?_ (.set (by simp))
      rw [get_set (lt_of_get g4), if_pos rfl, List.map_set]
  refine mkW _ fun S5 g5 k5 => ?_
  clear mkW
  have lh3 : ((if isMk r then h2.set (rd g.bx 0).toNat (r.val xs) else h2).length : Int) = boxes + slots := by
    split
    · rw [List.length_set]; exact lh2
    · exact lh2
  generalize (if isMk r then h2.set (rd g.bx 0).toNat (r.val xs) else h2) = h3 at *
  have gT5 := k5.at gT4 (by simp; omega)
  have gO5 := k5.at gO4 (by simp; omega)
  have gS5 := k5.at gS4 (by simp; omega)
  have gJ5 := k5.at g4o (by simp; omega)
  simp_arith []
  refine wp_mono (moved_spec (h := .ref S.length) (hs := h3.map .int) (boxes := boxes) (slots := slots) (eaten := eaten) (by omega) hsl.1 (lstOf_lst g5) (by rw [List.length_map]; exact lh3) hg.ob) ?_
  rintro _ S6 ⟨rfl, g6, k6⟩
  rw [mvs_map] at g6
  have gT6 := k6.at gT5 (by simp)
  have gO6 := k6.at gO5 (by simp)
  have gS6 := k6.at gS5 (by simp)
  have gJ6 := k6.at gJ5 (by simp)
  have lS5 : S.length < S5.length := lt_of_get g5
  have tS5 : t < S5.length := lt_of_get gT5
  unfold oneB at gO6
  simp_arith [insOf_ins gO6]
  have hv : r.asks = true → ((xs.drop (b2i (isMk r)).toNat).map D.int)[0]? = some (.int (rd xs 0)) := fun ha => by
    have e1 : (b2i (isMk r)).toNat = 0 := by cases r <;> first | rfl | cases ha
    rw [e1, List.drop_zero]
    have : 0 < xs.length := by rw [lxs]; cases r <;> simp [Row.nms] <;> cases ha
    simp [rd, this]
  have hmd := ok.sd
  have K5 : Keep [o, sd, od] S S5 := ((k3.all (W := [S.length, od])).trans (k4.trans (k5.mono (by intro i _ h; simp at h ⊢; exact .inl h)))).mono (by intro i l h; simp at h ⊢; omega)
  have K6 : Keep [o, sd, od] S S6 := K5.trans k6.all
  refine wp_mono (go2_spec (a := m.at_) (done := m.done) (v := rd xs 0) (l := m.said) gO6 gS6 nos gT6 hv (fun e => by rw [e, gO6] at gT6; cases gT6) ok.at0 er (by omega)) ?_
  rintro _ S7 ⟨rfl, g7o, g7s, k7⟩
  have nho : S5.length ≠ o := by omega
  have nhs : S5.length ≠ sd := by omega
  refine ⟨S5.length, _, _, _, _, _, _, rfl, k7.at g6 (by simp; exact ⟨nho, nhs⟩), g7o, g7s, k7.at gJ6 (by simp; exact ⟨Ne.symm noo, nod⟩), K6.trans (k7.mono (by intro i _ h; simp at h ⊢; omega))⟩
end PG
end
section
set_option linter.all false
set_option autoImplicit false
set_option maxRecDepth 100003
namespace PG
open PF
theorem fputJ1 {v : D} : fput [] 4 v = [(4, v)] := rfl
theorem fputJ2 {a v : D} : fput [(4, a)] 5 v = [(4, a), (5, v)] := rfl
theorem lay_app {α : Type} {boxes : Int} {p : Pl} {x : α} : ∀ {h : List α} {ps : List Pl} {xs : List α}, ps.length = xs.length → lay boxes h (ps ++ [p]) (xs ++ [x]) = (lay boxes h ps xs).set (pix boxes p).toNat x
  | h, [], [], _ => by simp [lay]
  | h, q :: ps, y :: xs, e => by
    show lay boxes (h.set (pix boxes q).toNat y) (ps ++ [p]) (xs ++ [x]) = _
    rw [lay_app (by simpa using e)]
    conv => rhs; unfold lay
theorem zipD_get : ∀ {xs ys : List D} {k : Nat} {z : D}, (zipD xs ys)[k]? = some z → ∃ x y, xs[k]? = some x ∧ ys[k]? = some y ∧ z = .tup [x, y]
  | [], _, _, _, h => by simp [zipD] at h
  | _ :: _, [], _, _, h => by simp [zipD] at h
  | x :: xs, y :: ys, 0, z, h => by simp [zipD] at h; exact ⟨x, y, rfl, rfl, h.symm⟩
  | x :: xs, y :: ys, k + 1, z, h => by simp only [zipD, List.getElem?_cons_succ] at h; obtain ⟨a, b, h1, h2, h3⟩ := zipD_get (xs := xs) (ys := ys) (k := k) h; exact ⟨a, b, by simpa using h1, by simpa using h2, h3⟩
theorem zipD_len : ∀ {xs ys : List D}, xs.length = ys.length → (zipD xs ys).length = ys.length
  | [], [], _ => rfl
  | x :: xs, y :: ys, h => by simp only [zipD, List.length_cons]; rw [zipD_len (by simpa using h)]
theorem told2_eq {S : Sto} {P : D → Sto → Prop} {o sd : Nat} {rows : List Row} {a done : Int} (h : S[o]? = some (oneB rows a done sd)) (ha : 0 ≤ a) : wp (f_Run_told [.ref o] S) P = P (tellB sd rows a done) S := told_eq (m := ⟨a, [], [], done⟩) h ha
theorem over2_eq {S : Sto} {P : D → Sto → Prop} {o sd : Nat} {rows : List Row} {a done : Int} (h : S[o]? = some (oneB rows a done sd)) (ha : 0 ≤ a) : wp (f_Run_is_over [.ref o] S) P = P (.bl (over rows a)) S := over_eq (m := ⟨a, [], [], done⟩) h ha
/-- the first numbers that nobody knows -/
theorem odd_loop {S : Sto} {ρ : Env} {i j od jr N : Nat} {junk : List Int} (hij : i ≠ j) (hj : ρ[j]? = some (some (.ref od))) (gJ : S[od]? = some (junkO jr 0)) (gj : S[jr]? = some (.lst (junk.map .int))) :
    wp (compLoop ⟨[], rangeD 0 (N : Int)⟩ (PF.gName i) tYes (eMeth 1 f_Junk_next_one (eVar j) aNil) ρ (rangeD 0 (N : Int)) S) fun ys S' => ys = ((List.range N).map (jv junk)).map .int ∧ S'[od]? = some (junkO jr N) ∧ Keep [od] S S' := by
  have njd : jr ≠ od := fun e => by rw [e, gJ] at gj; cases gj
  refine wp_mono (wp_loop (it := ⟨[], rangeD 0 (N : Int)⟩) (fun k acc S' => acc = ((List.range k).map (jv junk)).map .int ∧ S'[od]? = some (junkO jr k) ∧ Keep [od] S S') (fun _ _ _ _ => rfl) ?_ ⟨rfl, gJ, .refl⟩) ?_
  · rintro k x acc S1 hx ⟨rfl, g1, K1⟩
    refine ⟨_, rfl, ?_⟩
    have e1 : (ρ.set i (some x))[j]? = some (some (.ref od)) := by rw [List.getElem?_set_ne hij]; exact hj
    have g1' := g1
    unfold junkO at g1'
    rw [w_tyes, if_pos rfl, v_meth, w_var e1]
    refine ⟨od, rfl, ?_⟩
    rw [insOf_ins g1', on_some, w_nil]
    refine wp_mono (next_spec g1 (K1.at gj (by simp; exact njd))) ?_
    rintro _ S2 ⟨rfl, g2, k2⟩
    exact ⟨by rw [List.range_succ]; simp, g2, K1.trans k2⟩
  · rintro ys S1 ⟨rfl, g1, K1⟩
    have e : (Iter.mk [] (rangeD 0 (N : Int))).all.length = N := by show (rangeD 0 (N : Int)).length = N; rw [rangeD_len]; omega
    rw [e] at g1 ⊢
    exact ⟨rfl, g1, K1⟩
theorem run_boxes_spec {S : Sto} {params names boxes slots fuel : Int} {rows : List Row} {eaten gs junk : List Int} {c : Choice} {jr : Nat} (hc : CaseOk params names rows boxes slots eaten c) (hl : (gs.length : Int) = params) (hg : ∀ g ∈ gs, In0 g 1000) (hf : 0 ≤ fuel ∧ fuel ≤ 1000) (gj : S[jr]? = some (.lst (junk.map .int))) (hj : ∀ x ∈ junk, In0 x 1000) :
    wp (f_run_boxes [progD params names rows, frameD boxes slots eaten, c.D, .tup (gs.map .int), .int fuel, .ref jr] S) fun d S' => ∃ (sd : Nat) (m : Bc), m = brun (jv junk) boxes eaten rows c.groups fuel.toNat (bc0 (jv junk) boxes (boxes + slots).toNat c.places gs) ∧ d = tellB sd rows m.at_ m.done ∧ S'[sd]? = some (.lst (m.said.map .int)) ∧ S.length ≤ sd ∧ Keep [] S S' := by
  obtain ⟨hP, hF, hC, fit⟩ := id hc
  have hp := hP.pr
  have hn := hP.nm
  have hb := hF.bx
  have hsl := hF.sl
  unfold f_run_boxes b_run_boxes
  rw [stTurn_eq]
  simp_arith []
  refine wp_mono (need_program_spec hP) ?_
  rintro _ S1 ⟨rfl, k1⟩
  refine wp_mono (need_frame_spec hF) ?_
  rintro _ S2 ⟨rfl, k2⟩
  refine wp_mono (need_choice_spec hP hC) ?_
  rintro _ S3 ⟨rfl, k3⟩
  refine wp_mono (need_given_spec hl hg) ?_
  rintro _ S4 ⟨rfl, k4⟩
  refine wp_mono (need_fuel_spec hf) ?_
  rintro _ S5 ⟨rfl, rfl⟩
  have K5 : Keep [] S S5 := ((k1.trans k2).trans k3).trans k4
  have gj5 := K5.at gj (by simp)
  clear k1 k2 k3 k4
  simp_arith [lstOf_lst gj5, chkOf]
  refine wp_mono (wp_loop (it := ⟨[(jr, junk.map D.int)], junk.map D.int⟩) (fun k acc S' => acc = [] ∧ S' = S5) (fun k acc S' h => by rw [h.2]; simp [Iter.same, lstOf_lst gj5]) ?_ ⟨rfl, rfl⟩) ?_
  · rintro k x acc S6 hx ⟨rfl, rfl⟩
    rw [List.getElem?_map] at hx
    cases e : junk[k]? with
    | none => rw [e] at hx; cases hx
    | some v =>
      rw [e] at hx
      cases hx
      obtain ⟨v1, v2⟩ := hj v (List.mem_of_getElem? e)
      refine ⟨_, rfl, ?_⟩
      simp_arith [num_eq v1 (show v ≤ 999 by omega)]
  rintro ys S6 ⟨rfl, rfl⟩
  refine ⟨by decide, ?_⟩
  simp_arith [eq_nils]
  have K7 : Keep [] S ((S6 ++ [MO.lst []]) ++ [MO.lst []]) := (K5.trans .app).trans .app
  have gj7 : ((S6 ++ [MO.lst []]) ++ [MO.lst []])[jr]? = some (.lst (junk.map .int)) := get_app (get_app gj5)
  generalize ((S6 ++ [MO.lst []]) ++ [MO.lst []]) = S7 at *
  have lod : S7.length < (S7 ++ [MO.ins 1 []]).length := by simp
  have i1 : insOf 1 S7.length (S7 ++ [MO.ins 1 []]) = some [] := insOf_ins get_last
  have i2 : ∀ x, insOf 1 S7.length ((S7 ++ [MO.ins 1 []]).set S7.length (.ins 1 x)) = some x := fun x => insOf_ins (get_set lod)
  simp_arith [f_Junk___init__, b_Junk___init__, i1, i2, fputJ1, fputJ2]
  have gJ8 : (((S7 ++ [MO.ins 1 []]).set S7.length (.ins 1 [(4, .ref jr)])).set S7.length (.ins 1 [(4, .ref jr), (5, .int 0)]))[S7.length]? = some (junkO jr 0) := get_set (by simpa using lod)
  have lj7 := lt_of_get gj7
  have gj8 : (((S7 ++ [MO.ins 1 []]).set S7.length (.ins 1 [(4, .ref jr)])).set S7.length (.ins 1 [(4, .ref jr), (5, .int 0)]))[jr]? = some (.lst (junk.map .int)) := get_ne (get_ne (get_app gj7) (by omega)) (by omega)
  have K8 : Keep [] S (((S7 ++ [MO.ins 1 []]).set S7.length (.ins 1 [(4, .ref jr)])).set S7.length (.ins 1 [(4, .ref jr), (5, .int 0)])) := (K7.trans .app).past (W := [S7.length]) (.trans (.set (by simp)) (.set (by simp))) (by intro i hi; simp at hi; rw [hi]; exact K7.len)
  have od_ : S.length ≤ S7.length := K7.len
  generalize (((S7 ++ [MO.ins 1 []]).set S7.length (.ins 1 [(4, .ref jr)])).set S7.length (.ins 1 [(4, .ref jr), (5, .int 0)])) = S8 at *
  generalize S7.length = od at *
  have fr : frameD boxes slots eaten = .tup [.int boxes, .int slots, .tup (eaten.map .int)] := rfl
  have fc : c.D = .tup [.tup (c.places.map Pl.D), .tup (c.groups.map Grp.D)] := rfl
  simp_arith [fr, at0, at_1]
  refine ⟨by omega, ?_⟩
  have eN : boxes + slots = (((boxes + slots).toNat : Nat) : Int) := by omega
  have hol := odd_loop (S := S8) (ρ := [some (progD params names rows), some (frameD boxes slots eaten), some c.D, some (.tup (gs.map .int)), some (.int fuel), some (.ref jr), some (.ref od), none, none, none, none, none, none, none, none, none, none]) (i := 8) (j := 6) (N := (boxes + slots).toNat) (by decide) rfl gJ8 gj8
  rw [← eN] at hol
  refine wp_mono hol ?_
  rintro _ S9 ⟨rfl, g9, k9⟩
  refine ⟨by rw [List.length_map, List.length_map, List.length_range]; exact lim_le (by omega), ?_⟩
  have gj9 := k9.at gj8 (by simp; exact fun e => by rw [e, gJ8] at gj8; cases gj8)
  have K9 : Keep [] S S9 := K8.past k9 (by intro i hi; simp at hi; omega)
  have gH : (S9 ++ [MO.lst (((List.range (boxes + slots).toNat).map (jv junk)).map .int)])[S9.length]? = some (.lst (((List.range (boxes + slots).toNat).map (jv junk)).map .int)) := get_last
  have gJ10 : (S9 ++ [MO.lst (((List.range (boxes + slots).toNat).map (jv junk)).map .int)])[od]? = some (junkO jr (boxes + slots).toNat) := get_app g9
  have gj10 : (S9 ++ [MO.lst (((List.range (boxes + slots).toNat).map (jv junk)).map .int)])[jr]? = some (.lst (junk.map .int)) := get_app gj9
  have K10 : Keep [] S (S9 ++ [MO.lst (((List.range (boxes + slots).toNat).map (jv junk)).map .int)]) := K9.trans .app
  have hl9 : S.length ≤ S9.length := K9.len
  generalize S9 ++ [MO.lst (((List.range (boxes + slots).toNat).map (jv junk)).map .int)] = S10 at *
  generalize S9.length = h at *
  have lb : ((List.range (boxes + slots).toNat).map (jv junk)).length = (boxes + slots).toNat := by simp
  generalize eb : (List.range (boxes + slots).toNat).map (jv junk) = base at *
  simp_arith [fc, at0, w_zip, seqZ, chkOf, List.append_nil]
  have pl : (c.places.map Pl.D).length = (gs.map D.int).length := by rw [List.length_map, List.length_map]; have := hC.pn; omega
  refine wp_for (it := ⟨[], zipD (c.places.map Pl.D) (gs.map .int)⟩) (fun k ρ S' => ∃ c8 c9, ρ = [some (progD params names rows), some (frameD boxes slots eaten), some c.D, some (.tup (gs.map .int)), some (.int fuel), some (.ref jr), some (.ref od), some (.ref h), c8, c9, none, none, none, none, none, none, none] ∧
    S'[h]? = some (.lst ((lay boxes base (c.places.take k) (gs.take k)).map .int)) ∧ Keep [h] S10 S') (fun _ _ _ _ => rfl) ?_ ⟨none, none, rfl, by rw [gH]; simp [lay], .refl⟩ ?_
  · rintro k x ρ S11 hx ⟨c8, c9, rfl, g11, k11⟩
    obtain ⟨x, y, hx1, hy1, rfl⟩ := zipD_get hx
    rw [List.getElem?_map] at hx1 hy1
    cases ep : c.places[k]? with
    | none => rw [ep] at hx1; cases hx1
    | some p =>
      cases eg : gs[k]? with
      | none => rw [eg] at hy1; cases hy1
      | some v =>
        rw [ep] at hx1
        rw [eg] at hy1
        cases hx1
        cases hy1
        refine ⟨_, rfl, ?_⟩
        have hpx := pix_in (hC.po p (List.mem_of_getElem? ep)) (by omega) hsl.1
        have ll : ((lay boxes base (c.places.take k) (gs.take k)).length : Int) = boxes + slots := by rw [lay_len]; omega
        simp_arith []
        rw [index_spec]
        simp_arith [wrOf_lst g11, ixN_held ll hpx]
        have e1 : c.places.take (k + 1) = c.places.take k ++ [p] := by rw [List.take_add_one, ep]; rfl
        have e2 : gs.take (k + 1) = gs.take k ++ [v] := by rw [List.take_add_one, eg]; rfl
        refine ⟨_, _, rfl, ?_, k11.trans (.set (by simp))⟩
        rw [get_set (lt_of_get g11), e1, e2, lay_app (by rw [List.length_take, List.length_take]; simp at pl; omega), List.map_set]
  rintro ρ S11 ⟨c8, c9, rfl, g11, k11⟩
  have en : (zipD (c.places.map Pl.D) (gs.map D.int)).length = gs.length := by rw [zipD_len pl]; simp
  have g11 : S11[h]? = some (.lst ((lay boxes base (c.places.take (zipD (c.places.map Pl.D) (gs.map D.int)).length) (gs.take (zipD (c.places.map Pl.D) (gs.map D.int)).length)).map .int)) := g11
  rw [en, List.take_length, List.take_of_length_le (by simp at pl; omega)] at g11
  have nhj : jr ≠ h := fun e => by
    have h1 := lt_of_get gj9
    have := lt_of_get gj
    omega
  have gj11 := k11.at gj10 (by simp; exact nhj)
  have gJ11 := k11.at gJ10 (by simp; exact fun e => by rw [e, gH] at gJ10; cases gJ10)
  have K11 : Keep [] S S11 := K10.past k11 (by intro i hi; simp at hi; omega)
  have gH11 : S11[h]? = some (.lst ((bc0 (jv junk) boxes (boxes + slots).toNat c.places gs).held.map .int)) := by
    rw [g11]
    show _ = some (MO.lst ((lay boxes ((List.range (boxes + slots).toNat).map (jv junk)) c.places gs).map .int))
    rw [eb]
  have b0 := bc0_ok (jf := jv junk) (boxes := boxes) (slots := slots) (N := (boxes + slots).toNat) (ps := c.places) (gs := gs) (jv_in hj) (by omega) hg
  clear g11 gH K10 gj10 gJ10 k11 hol
  unfold progD
  simp_arith [at_2]
  have lh11 := lt_of_get gH11
  have lj11 := lt_of_get gj11
  have ld11 := lt_of_get gJ11
  refine wp_mono (init_spec (h0 := []) get_last) ?_
  rintro _ S12 ⟨rfl, sd, gO, gS, nos, lsd, k12⟩
  have gO : S12[S11.length]? = some (oneB rows 0 0 sd) := gO
  have lsd : S11.length + 1 ≤ sd := by simpa using lsd
  have gH12 := k12.at (get_app gH11) (by simp; omega)
  have gJ12 := k12.at (get_app gJ11) (by simp; omega)
  have gj12 := k12.at (get_app gj11) (by simp; omega)
  have K12 : Keep [] S S12 := by
    refine K11.trans (Keep.new (W := [S11.length]) ?_ (by simp))
    exact Keep.trans .app k12
  simp_arith []
  generalize ho : S11.length = o at *
  have lo : S.length ≤ o := by rw [← ho]; exact K11.len
  refine wp_while (fun n ρ S' => ∃ (m : Bc) (h' : Nat) (c11 c12 c13 c14 c15 c16 : Option D), ρ = [some (progD params names rows), some (frameD boxes slots eaten), some c.D, some (.tup (gs.map .int)), some (.int fuel), some (.ref jr), some (.ref od), some (.ref h'), c8, c9, some (.ref o), c11, c12, c13, c14, c15, c16] ∧ BcOk boxes slots m ∧ 0 ≤ m.done ∧ m.done ≤ fuel ∧ n = (fuel - m.done).toNat ∧ brun (jv junk) boxes eaten rows c.groups n m = brun (jv junk) boxes eaten rows c.groups fuel.toNat (bc0 (jv junk) boxes (boxes + slots).toNat c.places gs) ∧
    S'[h']? = some (.lst (m.held.map .int)) ∧ S'[o]? = some (oneB rows m.at_ m.done sd) ∧ S'[sd]? = some (.lst (m.said.map .int)) ∧ S'[od]? = some (junkO jr m.many) ∧ S'[jr]? = some (.lst (junk.map .int)) ∧ Keep [] S S') fuel.toNat (by unfold TURNS; omega) ?_ ⟨bc0 (jv junk) boxes (boxes + slots).toNat c.places gs, h, none, none, none, none, none, none, rfl, b0, Int.le_refl 0, hf.1, by show _ = (fuel - 0).toNat; omega, rfl, gH12, gO, gS, gJ12, gj12, K12⟩
  rintro n ρ S13 ⟨m, h', c11, c12, c13, c14, c15, c16, rfl, ok, d0, d1, en, em, gH, gO, gS, gJ, gj', K13⟩
  have done : ∀ S14 : Sto, S14 = S13 → brun (jv junk) boxes eaten rows c.groups fuel.toNat (bc0 (jv junk) boxes (boxes + slots).toNat c.places gs) = m → wp (f_Run_told [.ref o] S14) fun d S' => ∃ (sd : Nat) (m' : Bc), m' = brun (jv junk) boxes eaten rows c.groups fuel.toNat (bc0 (jv junk) boxes (boxes + slots).toNat c.places gs) ∧ d = tellB sd rows m'.at_ m'.done ∧ S'[sd]? = some (.lst (m'.said.map .int)) ∧ S.length ≤ sd ∧ Keep [] S S' := by
    rintro S14 rfl e
    rw [told2_eq gO ok.at0]
    exact ⟨sd, m, e.symm, rfl, gS, by omega, K13⟩
  have gO' := gO
  unfold oneB at gO'
  have e01 := insOf_ins gO'
  simp_arith [e01, over2_eq gO ok.at0]
  cases ov : over rows m.at_ with
  | true =>
    simp_arith [e01]
    exact done S13 rfl (by rw [← em, brun_over ov])
  | false =>
    obtain ⟨r, er, fr_⟩ := not_over ov
    have hg_ : m.at_.toNat < c.groups.length := by rw [hC.gn]; exact (List.getElem?_eq_some_iff.mp er).1
    have eg : c.groups[m.at_.toNat]? = some c.groups[m.at_.toNat] := by simp [hg_]
    generalize c.groups[m.at_.toNat] = g at eg
    simp_arith [e01, fget3]
    by_cases cf : m.done < fuel
    · simp_arith [cf]
      refine wp_mono (turn_spec hP hF hC hj ok er eg (by omega) gH gO gS gJ gj' (by omega)) ?_
      rintro ⟨fl, ρ⟩ S14 ⟨rfl, h2, c11, c12, c13, c14, c15, c16, rfl, g1, g2, g3, g4, k14⟩
      obtain ⟨n', rfl⟩ : ∃ n', n = n' + 1 := ⟨n - 1, by omega⟩
      have sd1 : (bstep (jv junk) boxes eaten m r g).done = m.done + 1 := rfl
      have njo : jr ≠ o := by omega
      have njs : jr ≠ sd := by omega
      have njd : jr ≠ od := fun e => by rw [e, gJ] at gj'; cases gj'
      refine ⟨n', by omega, bstep (jv junk) boxes eaten m r g, h2, c11, c12, c13, c14, c15, c16, rfl, bstep_ok (jv_in hj) ok (hP.ok r (List.mem_of_getElem? er)), by omega, by omega, by omega, ?_, g1, g2, g3, g4, k14.at gj' (by simp; exact ⟨njo, njs, njd⟩), K13.past k14 (by intro i hi; simp at hi; omega)⟩
      rw [← em, brun_step er eg fr_]
    · simp_arith [cf, e01]
      have en0 : n = 0 := by omega
      subst en0
      exact done S13 rfl em.symm
end PG
end
section
set_option linter.all false
set_option autoImplicit false
set_option maxRecDepth 100003
namespace PF
theorem map_inj {α β : Type} {f : α → β} (hf : ∀ a b, f a = f b → a = b) : ∀ {l m : List α}, l.map f = m.map f → l = m
  | [], [], _ => rfl
  | [], _ :: _, h => by simp at h
  | _ :: _, [], h => by simp at h
  | a :: l, b :: m, h => by
    simp only [List.map_cons, List.cons.injEq] at h
    rw [hf a b h.1, map_inj hf h.2]
end PF
namespace PG
open PF
/-- a mark -/
inductive Mrk where
  | name (i : Nat) | held (i : Nat) | made (k : Nat)
  deriving DecidableEq
def Mrk.ok (P N : Nat) : Mrk → Prop
  | .name i => i < P
  | .held i => i < N
  | .made _ => True
/-- the goal's name -/
def Row.goal : Row → Int
  | .put d _ => d
  | .copy d _ => d
  | .op _ d _ _ => d
  | .call d _ => d
  | _ => 0
def Row.isCopy : Row → Bool
  | .copy _ _ => true
  | _ => false
def Row.src : Row → Int
  | .copy _ a => a
  | _ => 0
end PG
end
section
set_option linter.all false
set_option autoImplicit false
set_option maxRecDepth 100003
namespace PF
/-- [x for x in xs if p x], p on what is there -/
theorem comp_filter2 {S : Sto} {ρ : Env} {it : Iter} {t : T} {i : Nat} {is : List Int} (p : Int → Bool) (ea : it.all = is.map .int) (hs : it.same S = true) (hi : i < ρ.length)
    (ht : ∀ (x : Int) (P : Bool → Sto → Prop), x ∈ is → wp (t (ρ.set i (some (.int x))) S) P = P (p x) S) :
    wp (compLoop it (PF.gName i) t (eVar i) ρ it.all S) fun ys S' => ys = (is.filter p).map .int ∧ S' = S := by
  refine wp_mono (wp_loop (it := it) (fun k acc S' => acc = ((is.take k).filter p).map D.int ∧ S' = S) (fun k acc S' h => by rw [h.2]; exact hs) ?_ ⟨rfl, rfl⟩) ?_
  · rintro k x acc S1 hx ⟨rfl, rfl⟩
    rw [ea, List.getElem?_map] at hx
    cases e : is[k]? with
    | none => rw [e] at hx; cases hx
    | some v =>
      rw [e] at hx
      cases hx
      refine ⟨_, rfl, ?_⟩
      rw [ht v _ (List.mem_of_getElem? e)]
      have e2 : is.take (k + 1) = is.take k ++ [v] := by rw [List.take_add_one, e]; rfl
      cases hp : p v with
      | true =>
        rw [if_pos rfl, w_var (d := .int v) (by simp [hi])]
        refine ⟨?_, rfl⟩
        rw [e2, List.filter_append, List.map_append]
        simp [hp]
      | false =>
        rw [if_neg (by simp)]
        refine ⟨?_, rfl⟩
        rw [e2, List.filter_append]
        simp [hp]
  · rintro ys S1 ⟨rfl, rfl⟩
    refine ⟨?_, rfl⟩
    rw [ea, List.length_map, List.take_length]
theorem v_range2 {S : Sto} {ρ : Env} {P : Iter → Sto → Prop} {a b : E} : wp (iRange2 a b ρ S) P = wp (a ρ S) fun x S => wp (b ρ S) fun y S => ∃ i, x = .int i ∧ ∃ j, y = .int j ∧ (-(2 ^ 62) ≤ i ∧ i < 2 ^ 62 ∧ -(2 ^ 62) ≤ j ∧ j < 2 ^ 62) ∧ P ⟨[], rangeD i j⟩ S := by
  unfold iRange2
  simp only [wp_bind]
  congr
  funext x S
  congr
  funext y S
  cases x with
  | int i =>
    cases y with
    | int j =>
      refine propext ⟨fun h => ?_, fun ⟨k, e, l, e2, c, p⟩ => ?_⟩
      · dsimp only at h
        split at h
        · rename_i c; rw [wp_ok] at h; exact ⟨i, rfl, j, rfl, c, h⟩
        · rw [wp_bad] at h; exact h.elim
      · cases e
        cases e2
        dsimp only
        rw [if_pos c, wp_ok]
        exact p
    | _ => simp [wp_bad]
  | _ => cases y <;> simp [wp_bad]
end PF
namespace PG
open PF
end PG
end
section
set_option linter.all false
set_option autoImplicit false
set_option maxRecDepth 100003
namespace PG
open PF
theorem w_fnil {S : Sto} {ρ : Env} {it : Iter} {g : G} {b : St} {Z : Fl × Env → Sto → Prop} : wp (forLoop it g b [] ρ S) Z = (it.same S = true ∧ Z (.nx, ρ) S) := by
  unfold forLoop
  by_cases c : it.same S = true
  · simp only [c, if_true, wp_ok, true_and]
  · simp [c, wp_bad]
theorem w_copy_ {r : Row} : (r.w == z_copy) = r.isCopy := by
  cases r with
  | op o _ _ _ => cases o <;> rfl
  | _ => rfl
end PG
end
section
set_option linter.all false
set_option autoImplicit false
set_option maxRecDepth 100003
namespace PG
open PF
theorem isFin_w {r : Row} : (r.w == z_end) = r.isFin := by
  cases r with
  | op o _ _ _ => cases o <;> rfl
  | _ => rfl
end PG
end
section
set_option linter.all false
set_option autoImplicit false
set_option maxRecDepth 100003
namespace PG
open PF
/-- what lies where: for each place rising names -/
abbrev Hd := List (List Int)
def sD (s : List Int) : D := .tup (s.map .int)
def hD (h : Hd) : D := .tup (h.map sD)
structure HdOk (P N : Nat) (h : Hd) : Prop where
  len : h.length = N
  srt : ∀ s ∈ h, s.Pairwise (· < ·)
  inn : ∀ s ∈ h, ∀ k ∈ s, In0 k P
def hd0 (boxes : Int) (N : Nat) (ps : List Pl) : Hd := lay boxes (List.replicate N []) ps ((List.range ps.length).map fun i : Nat => [(i : Int)])
theorem hd0_ok {boxes : Int} {P N : Nat} {ps : List Pl} (h : ps.length ≤ P) : HdOk P N (hd0 boxes N ps) := by
  have key : ∀ s ∈ hd0 boxes N ps, s = [] ∨ ∃ i : Nat, i < ps.length ∧ s = [(i : Int)] := fun s hs => by
    rcases lay_mem hs with z | z
    · exact .inl (List.mem_replicate.mp z).2
    · obtain ⟨i, hi, rfl⟩ := List.mem_map.mp z
      exact .inr ⟨i, List.mem_range.mp hi, rfl⟩
  refine ⟨by simp [hd0, lay_len], fun s hs => ?_, fun s hs k hk => ?_⟩
  · rcases key s hs with rfl | ⟨i, _, rfl⟩ <;> simp
  · rcases key s hs with rfl | ⟨i, hi, rfl⟩
    · cases hk
    · have : k = (i : Int) := by simpa using hk
      subst this
      exact ⟨by omega, by omega⟩
theorem first_held_spec {S : Sto} {params boxes slots : Int} {P N : Nat} {rows : List Row} {eaten : List Int} {c : Choice} (hc : CaseOk params (P : Int) rows boxes slots eaten c) (hN : (N : Int) = boxes + slots) :
    wp (f_first_held [progD params (P : Int) rows, frameD boxes slots eaten, c.D] S) fun d S' => d = hD (hd0 boxes N c.places) ∧ Keep [] S S' := by
  obtain ⟨hP, hF, hC, fit⟩ := id hc
  have hb := hF.bx
  have hsl := hF.sl
  have fr : frameD boxes slots eaten = .tup [.int boxes, .int slots, .tup (eaten.map .int)] := rfl
  have fc : c.D = .tup [.tup (c.places.map Pl.D), .tup (c.groups.map Grp.D)] := rfl
  have eN : ∀ (S : Sto) (Q : D → Sto → Prop), wp (gIx (frameD boxes slots eaten) (.int 0) S) (fun x S => wp (gIx (frameD boxes slots eaten) (.int 1) S) fun y S => wp (gAdd x y S) Q) = Q (.int (N : Int)) S := fun S Q => by
    rw [fr]
    simp_arith [at0, at_1, ← hN]
  unfold f_first_held b_first_held
  rw [w_fn]
  refine ⟨by simp, ?_⟩
  simp only [List.map_cons, List.map_nil, List.length_cons, List.length_nil, Nat.zero_add, Nat.reduceAdd, Nat.reduceSub, List.replicate_succ, List.replicate_zero, List.cons_append, List.nil_append]
  rw [w_seq]
  simp only [w_set, w_e2, w_lst, w_cons, w_tup, w_nil, w_c, v_var, List.getElem?_cons_succ, List.getElem?_cons_zero, on_some, eN, w_mulL, wrOf_lst (get_last (S := S)), List.set_cons_succ, List.set_cons_zero]
  refine ⟨⟨by omega, by omega, by show 1 * _ ≤ _; have := lim_le (n := 1000) (Nat.le_refl _); omega⟩, ?_⟩
  rw [rep_one]
  have g0 : (S ++ [MO.lst [D.tup []]] ++ [MO.lst (List.replicate ((N : Int)).toNat (D.tup []))])[(S ++ [MO.lst [D.tup []]]).length]? = some (.lst ((List.replicate N ([] : List Int)).map sD)) := by
    rw [get_last, List.map_replicate]; rfl
  have k0 : Keep [] S (S ++ [MO.lst [D.tup []]] ++ [MO.lst (List.replicate ((N : Int)).toNat (D.tup []))]) := .trans .app .app
  have ln : S.length ≤ (S ++ [MO.lst [D.tup []]]).length := by simp
  generalize (S ++ [MO.lst [D.tup []]] ++ [MO.lst (List.replicate ((N : Int)).toNat (D.tup []))]) = S1 at *
  generalize (S ++ [MO.lst [D.tup []]]).length = fr_ at *
  rw [w_seq]
  have hl1 := lt_of_get g0
  simp only [w_for, v_enum, w_e2, w_c, v_var, List.getElem?_cons_succ, List.getElem?_cons_zero, on_some, fc, v_ixT, at0, seqZ, seqOf, chkOf]
  rw [← fc]
  refine wp_for (it := ⟨[], enumD 0 (c.places.map Pl.D)⟩) (fun k ρ S' => ∃ c4 c5, ρ = [some (progD params (P : Int) rows), some (frameD boxes slots eaten), some c.D, some (.ref fr_), c4, c5] ∧ S'[fr_]? = some (.lst ((lay boxes (List.replicate N []) (c.places.take k) ((List.range k).map fun i : Nat => [(i : Int)])).map sD)) ∧ Keep [fr_] S1 S') (fun _ _ _ _ => rfl) ?_ ⟨none, none, rfl, by rw [g0]; simp [lay], .refl⟩ ?_
  · rintro k x ρ S6 hx ⟨c4, c5, rfl, g6, k6⟩
    obtain ⟨d, e, rfl⟩ := enumD_get hx
    rw [List.getElem?_map] at e
    cases ep : c.places[k]? with
    | none => rw [ep] at e; cases e
    | some p =>
      rw [ep] at e
      cases e
      have hpin := pix_in (hC.po p (List.mem_of_getElem? ep)) (by omega) hsl.1
      have hkl := (List.getElem?_eq_some_iff.mp ep).1
      have h6 := lt_of_get g6
      refine ⟨_, rfl, ?_⟩
      have ell : ((lay boxes (List.replicate N ([] : List Int)) (c.places.take k) ((List.range k).map fun i : Nat => [(i : Int)])).map sD).length = N := by rw [List.length_map, lay_len, List.length_replicate]
      simp_arith [index_spec, wrOf_lst g6, ell, ixN_pos (n := N) (i := pix boxes p) ⟨hpin.1, by have := hpin.2; omega⟩]
      refine ⟨_, _, rfl, ?_, k6.trans (.set (by simp))⟩
      rw [get_set h6]
      have e1 : c.places.take (k + 1) = c.places.take k ++ [p] := by rw [List.take_add_one, ep]; rfl
      have e2 : (List.range (k + 1)).map (fun i : Nat => [(i : Int)]) = (List.range k).map (fun i : Nat => [(i : Int)]) ++ [[(k : Int)]] := by rw [List.range_succ]; simp
      rw [e1, e2, lay_app (by simp; omega), List.map_set]
      simp [sD]
  · rintro ρ S6 ⟨c4, c5, rfl, g6, k6⟩
    have e : (Iter.mk [] (enumD 0 (c.places.map Pl.D))).all.length = c.places.length := by show (enumD 0 (c.places.map Pl.D)).length = _; rw [enumD_len, List.length_map]
    rw [e, List.take_length] at g6
    simp only [w_ret, w_call, w_cons, w_nil, v_var, List.getElem?_cons_succ, List.getElem?_cons_zero, on_some, v_tupOf, seqOf, lstOf_lst g6]
    exact ⟨rfl, k0.past k6 (by intro i h; simp at h; omega)⟩
end PG
end
section
set_option linter.all false
set_option autoImplicit false
set_option maxRecDepth 100003
namespace PF
theorem w_sortI {S : Sto} {P : D → Sto → Prop} {n : Nat} {is : List Int} (h : lstOf n S = some (is.map .int)) : wp (fSortedI [.ref n] S) P = P (.ref S.length) (S ++ [.lst ((sortI is).map .int)]) := by
  unfold fSortedI
  simp only [h, intsOf_map, alloc, wp_ok]
end PF
namespace PG
open PF
/-- the names at a place -/
def hat (h : Hd) (p : Int) : List Int := h.getD p.toNat []
def askH (bx ns : List Int) (h : Hd) (k : Int) : Bool := (hat h (rd bx k)).any (· == rd ns k)
def sameH (r : Row) (g : Grp) (h : Hd) : Bool := (rangeI (b2i (isMk r)) (g.bx.length : Int)).filter (fun k => !(askH g.bx r.nms h k)) == []
theorem hat_at {h : Hd} {p : Int} {n : Nat} (hl : h.length = n) (hp : In0 p n) : at? (h.map sD) p = some (sD (hat h p)) ∧ hat h p ∈ h ∧ h[p.toNat]? = some (hat h p) := by
  have hk : p.toNat < h.length := by have := hp.1; have := hp.2; omega
  have e : hat h p = h[p.toNat] := by unfold hat; simp [hk]
  rw [e]
  refine ⟨?_, List.getElem_mem hk, by simp [hk]⟩
  rw [at_pos hp.1, List.getElem?_map]
  simp [hk]
theorem row_nm {r : Row} {k : Int} (h0 : 0 ≤ k) (h : k.toNat < r.nms.length) : ∃ ds, r.D = .tup ds ∧ at? ds (1 + k) = some (.int (rd r.nms k)) := by
  obtain ⟨j, rfl⟩ := Int.eq_ofNat_of_zero_le h0
  rw [Int.toNat_natCast] at h
  cases r <;> refine ⟨_, rfl, ?_⟩ <;> simp only [Row.nms, List.length_cons, List.length_nil] at h <;>
    (match j, h with
     | 0, _ => first | rfl | (exfalso; omega)
     | 1, _ => first | rfl | (exfalso; omega)
     | 2, _ => first | rfl | (exfalso; omega)
     | j + 3, h => exfalso; omega)
theorem mvs_ok {P N : Nat} {boxes : Int} {h : Hd} {ms : List Mv} (ok : HdOk P N h) : HdOk P N (mvs boxes h ms) := ⟨by rw [mvs_len]; exact ok.len, fun s hs => ok.srt s (mvs_mem hs), fun s hs => ok.inn s (mvs_mem hs)⟩
theorem is_handed_spec {S : Sto} {P N : Nat} {boxes slots many_ : Int} {eaten : List Int} {h : Hd} {r : Row} {g : Grp} (hf : FrameOk boxes slots eaten) (hN : (N : Int) = boxes + slots) (hr_ : r.ok (P : Int) many_) (hg : GrpOk boxes slots r g) (ok : HdOk P N h) :
    wp (f_is_handed [r.D, g.D, hD h, frameD boxes slots eaten] S) fun d S' => d = .bl (sameH r g (mvs boxes h g.ahead)) ∧ Keep [] S S' := by
  have hb := hf.bx
  have hsl := hf.sl
  have fg : g.D = .tup [.tup (g.ahead.map Mv.D), .tup (g.bx.map .int), .tup (g.behind.map Mv.D)] := rfl
  have g1 : ∀ (S : Sto) (Q : D → Sto → Prop), wp (gIx g.D (.int 0) S) Q = Q (.tup (g.ahead.map Mv.D)) S := fun S Q => by rw [fg]; simp_arith [at0]
  have g2 : ∀ (S : Sto) (Q : D → Sto → Prop), wp (gIx g.D (.int 1) S) Q = Q (.tup (g.bx.map .int)) S := fun S Q => by rw [fg]; simp_arith [at_1]
  unfold f_is_handed b_is_handed
  rw [w_fn]
  refine ⟨by simp, ?_⟩
  simp only [List.map_cons, List.map_nil, List.length_cons, List.length_nil, Nat.zero_add, Nat.reduceAdd, Nat.reduceSub, List.replicate_succ, List.replicate_zero, List.cons_append, List.nil_append]
  rw [w_seq]
  simp only [w_set, w_call, w_cons, w_nil, w_e2, w_c, v_var, List.getElem?_cons_succ, List.getElem?_cons_zero, on_some, g1, List.set_cons_succ, List.set_cons_zero]
  refine wp_mono (moved_spec (h := hD h) (hs := h.map sD) (boxes := boxes) (slots := slots) (eaten := eaten) (by omega) hsl.1 rfl (by rw [List.length_map, ok.len]; exact hN) hg.oa) ?_
  rintro _ S1 ⟨rfl, gh, k1⟩
  rw [mvs_map] at gh
  have ok1 := mvs_ok (boxes := boxes) (ms := g.ahead) ok
  generalize mvs boxes h g.ahead = h1 at *
  simp_arith [g2, makes_is, v_range2]
  have lbx : g.bx.length ≤ 3 := by rw [hg.bl]; exact nms_len r
  rw [List.length_map]
  refine ⟨by cases isMk r <;> simp [b2i] <;> omega, ?_⟩
  refine wp_mono (comp_filter2 (it := ⟨[], rangeD (b2i (isMk r)) (g.bx.length : Int)⟩) (is := rangeI (b2i (isMk r)) (g.bx.length : Int)) (fun k => !(askH g.bx r.nms h1 k)) (rangeD_map _ _) rfl (by simp) (fun k P' hk => ?_)) ?_
  · obtain ⟨k1', k2'⟩ := mem_rangeI hk
    have hk0 : 0 ≤ k := by have : 0 ≤ b2i (isMk r) := by cases isMk r <;> decide
                           omega
    have hkn : k.toNat < g.bx.length := by omega
    have hkm : k.toNat < r.nms.length := by rw [← hg.bl]; exact hkn
    have eb : at? (g.bx.map D.int) k = some (.int (rd g.bx k)) := at_held rfl ⟨hk0, k2'⟩
    obtain ⟨ds, ed, ea⟩ := row_nm hk0 hkm
    have hbx : rd g.bx k ∈ g.bx := by unfold rd; simp [hkn]
    obtain ⟨e2, em, _⟩ := hat_at ok1.len (p := rd g.bx k) ⟨(hg.bi _ hbx).1, by have := (hg.bi _ hbx).2; omega⟩
    rw [ed]
    simp_arith [ea, eb, lstOf_lst gh, e2, v_notIn]
    unfold sD
    rw [inB_tup, on_some]
    simp_arith []
    rfl
  rintro _ S3 ⟨rfl, rfl⟩
  have hb2 : 0 ≤ b2i (isMk r) := by cases isMk r <;> decide
  refine ⟨by rw [List.length_map]; exact lim_le (Nat.le_trans (List.length_filter_le ..) (by rw [rangeI_len]; omega)), ?_⟩
  have e1 := eq_nil (S := S3 ++ [MO.lst (((rangeI (b2i (isMk r)) (g.bx.length : Int)).filter fun k => !(askH g.bx r.nms h1 k)).map .int)]) (n := S3.length) (l := (rangeI (b2i (isMk r)) (g.bx.length : Int)).filter fun k => !(askH g.bx r.nms h1 k)) get_last
  simp_arith [e1]
  exact ⟨rfl, (k1.trans .app).trans .app⟩
/-- behind a copy of a name -/
def renH (d a : Int) (s : List Int) : List Int :=
  if d = a then s else if (s.filter fun x => !(x == d)).any (· == a) then sortI (s.filter (fun x => !(x == d)) ++ [d]) else s.filter fun x => !(x == d)
theorem renamed_spec {S : Sto} {d a : Int} {s : List Int} (hs : s.length ≤ 900) : wp (f_renamed [sD s, .int d, .int a] S) fun x S' => x = sD (renH d a s) ∧ Keep [] S S' := by
  unfold f_renamed b_renamed renH
  rw [w_fn]
  refine ⟨by simp, ?_⟩
  simp only [List.map_cons, List.map_nil, List.length_cons, List.length_nil, Nat.zero_add, Nat.reduceAdd, Nat.reduceSub, List.replicate_succ, List.replicate_zero, List.cons_append, List.nil_append]
  by_cases e : d = a
  · rw [if_pos e]
    simp_arith [show (d == a) = true by simp [e]]
    exact .refl
  · rw [if_neg e]
    simp_arith [show (d == a) = false by simp [e], sD, chkOf]
    refine wp_mono (comp_filter2 (it := ⟨[], s.map D.int⟩) (is := s) (fun k => !(k == d)) rfl rfl (by simp) (fun k P' hk => ?_)) ?_
    · simp_arith []
    rintro _ S3 ⟨rfl, rfl⟩
    have hl : (s.filter fun k => !(k == d)).length ≤ 900 := Nat.le_trans (List.length_filter_le ..) hs
    refine ⟨by rw [List.length_map]; exact lim_le (by omega), ?_⟩
    generalize s.filter (fun k => !(k == d)) = l at *
    have gl : (S3 ++ [MO.lst (l.map D.int)])[S3.length]? = some (.lst (l.map .int)) := get_last
    simp_arith [v_in, inB_lst (lstOf_lst gl)]
    cases hq : l.any (· == a) with
    | false =>
      simp_arith [lstOf_lst gl]
      exact .app
    | true =>
      have gl2 := get_app (U := [MO.lst [D.int d]]) gl
      have gd2 : ((S3 ++ [MO.lst (l.map D.int)]) ++ [MO.lst [D.int d]])[(S3 ++ [MO.lst (l.map D.int)]).length]? = some (.lst [D.int d]) := get_last
      rw [if_pos rfl, if_pos rfl, w_addL, wrOf_lst gl2, on_some, wrOf_lst gd2, on_some]
      refine ⟨by rw [List.length_map]; exact lim_le (by show l.length + 1 ≤ 1000; omega), ?_⟩
      have e3 : l.map D.int ++ [D.int d] = (l ++ [d]).map D.int := by simp
      rw [e3, w_sortI (lstOf_lst get_last)]
      dsimp only
      rw [lstOf_lst get_last, on_some]
      exact ⟨rfl, ((Keep.app.trans .app).trans .app).trans .app⟩
end PG
end
section
set_option linter.all false
set_option autoImplicit false
set_option maxRecDepth 100003
namespace PF
/-- [e for x in xs], where e may make things -/
theorem comp_mapK {α : Type} {S : Sto} {ρ : Env} {it : Iter} {e : E} {i : Nat} {φ f : α → D} {xs : List α} (ea : it.all = xs.map φ) (hs : ∀ S', Keep [] S S' → it.same S' = true)
    (ht : ∀ x ∈ xs, ∀ S1, Keep [] S S1 → wp (e (ρ.set i (some (φ x))) S1) fun d S2 => d = f x ∧ Keep [] S1 S2) :
    wp (compLoop it (PF.gName i) tYes e ρ it.all S) fun ys S' => ys = xs.map f ∧ Keep [] S S' := by
  refine wp_mono (wp_loop (it := it) (fun k acc S' => acc = (xs.take k).map f ∧ Keep [] S S') (fun k acc S' h => hs S' h.2) ?_ ⟨rfl, .refl⟩) ?_
  · rintro k x acc S1 hx ⟨rfl, K1⟩
    rw [ea, List.getElem?_map] at hx
    cases e2 : xs[k]? with
    | none => rw [e2] at hx; cases hx
    | some v =>
      rw [e2] at hx
      cases hx
      refine ⟨_, rfl, ?_⟩
      rw [w_tyes, if_pos rfl]
      refine wp_mono (ht v (List.mem_of_getElem? e2) S1 K1) ?_
      rintro _ S2 ⟨rfl, k2⟩
      refine ⟨?_, K1.trans k2⟩
      rw [List.take_add_one, e2]
      simp
  · rintro ys S1 ⟨rfl, K1⟩
    refine ⟨?_, K1⟩
    rw [ea, List.length_map, List.take_length]
end PF
namespace PG
open PF
def eatH (es : List Int) (h : Hd) : Hd := es.foldl (fun h e => h.set e.toNat []) h
theorem eatH_len : ∀ {es : List Int} {h : Hd}, (eatH es h).length = h.length
  | [], _ => rfl
  | e :: es, h => by
    show (eatH es (h.set e.toNat [])).length = _
    rw [eatH_len, List.length_set]
theorem eatH_app {es : List Int} {e : Int} {h : Hd} : eatH (es ++ [e]) h = (eatH es h).set e.toNat [] := by
  unfold eatH
  rw [List.foldl_append]
  rfl
def hmid (eaten : List Int) (h1 : Hd) (r : Row) (g : Grp) (s : Bool) : Hd :=
  if r.isCopy then (h1.map (renH r.goal r.src)).set (rd g.bx 0).toNat (hat (h1.map (renH r.goal r.src)) (rd g.bx 1))
  else if isMk r then (if r.isCall then eatH eaten (h1.map fun t => t.filter fun x => !(x == r.goal)) else h1.map fun t => t.filter fun x => !(x == r.goal)).set (rd g.bx 0).toNat (if s then [r.goal] else [])
  else h1
def hbeh (eaten : List Int) (boxes : Int) (h : Hd) (r : Row) (g : Grp) : Hd := mvs boxes (hmid eaten (mvs boxes h g.ahead) r g (sameH r g (mvs boxes h g.ahead))) g.behind
def stHmid : St := sIf (tE (e2 gEq (e2 gIx (eVar 0) (eC (.int 0))) (eC (.str z_copy)))) (sSeq (sSet 5 (eComp (iSeq (eVar 5)) [8] (PF.gName 8) (tYes) (eCall f_renamed (aCons (eVar 8) (aCons (e2 gIx (eVar 0) (eC (.int 1))) (aCons (e2 gIx (eVar 0) (eC (.int 2))) (aNil)))))))
  (sSub (eVar 5) (e2 gIx (eVar 6) (eC (.int 0))) (e2 gIx (eVar 5) (e2 gIx (eVar 6) (eC (.int 1)))))) (sIf (tE (eCall f_makes (aCons (eVar 0) (aNil)))) (sSeq (sSet 5 (eComp (iSeq (eVar 5)) [8] (PF.gName 8) (tYes) (eCall fTuple (aCons (eComp (iSeq (eVar 8)) [9] (PF.gName 9) (tE (e2 gNe (eVar 9) (e2 gIx (eVar 0) (eC (.int 1))))) (eVar 9)) (aNil)))))
  (sSeq (sFor (iSeq (eIf (tE (e2 gEq (e2 gIx (eVar 0) (eC (.int 0))) (eC (.str z_call)))) (e2 gIx (eVar 3) (eC (.int 2))) (eTup (aNil)))) (PF.gName 7) (sSub (eVar 5) (eVar 7) (eTup (aNil))))
  (sSub (eVar 5) (e2 gIx (eVar 6) (eC (.int 0))) (eIf (tE (eVar 4)) (eTup (aCons (e2 gIx (eVar 0) (eC (.int 1))) (aNil))) (eTup (aNil)))))) (sNext))
theorem stHmid_eq : sIf (tE (e2 gEq (e2 gIx (eVar 0) (eC (.int 0))) (eC (.str z_copy)))) (sSeq (sSet 5 (eComp (iSeq (eVar 5)) [8] (PF.gName 8) (tYes) (eCall f_renamed (aCons (eVar 8) (aCons (e2 gIx (eVar 0) (eC (.int 1))) (aCons (e2 gIx (eVar 0) (eC (.int 2))) (aNil)))))))
  (sSub (eVar 5) (e2 gIx (eVar 6) (eC (.int 0))) (e2 gIx (eVar 5) (e2 gIx (eVar 6) (eC (.int 1)))))) (sIf (tE (eCall f_makes (aCons (eVar 0) (aNil)))) (sSeq (sSet 5 (eComp (iSeq (eVar 5)) [8] (PF.gName 8) (tYes) (eCall fTuple (aCons (eComp (iSeq (eVar 8)) [9] (PF.gName 9) (tE (e2 gNe (eVar 9) (e2 gIx (eVar 0) (eC (.int 1))))) (eVar 9)) (aNil)))))
  (sSeq (sFor (iSeq (eIf (tE (e2 gEq (e2 gIx (eVar 0) (eC (.int 0))) (eC (.str z_call)))) (e2 gIx (eVar 3) (eC (.int 2))) (eTup (aNil)))) (PF.gName 7) (sSub (eVar 5) (eVar 7) (eTup (aNil))))
  (sSub (eVar 5) (e2 gIx (eVar 6) (eC (.int 0))) (eIf (tE (eVar 4)) (eTup (aCons (e2 gIx (eVar 0) (eC (.int 1))) (aNil))) (eTup (aNil)))))) (sNext)) = stHmid := rfl
theorem up_in {P : Nat} {s : List Int} (h1 : s.Pairwise (· < ·)) (h2 : ∀ k ∈ s, In0 k P) : s.length ≤ P := by
  have := up_len (lo := 0) (n := (P : Int)) h1 (fun e he => ⟨(h2 e he).1, (h2 e he).2⟩) (by omega)
  omega
theorem filt_spec {S : Sto} {s : List Int} {d : Int} {ds : List D} {r : D} {d1 d2 d3 d4 d5 d6 d7 d9 : Option D} (hr : r = .tup ds) (h1 : at? ds 1 = some (.int d)) (hl : s.length ≤ 900) :
    wp (eCall fTuple (aCons (eComp (iSeq (eVar 8)) [9] (PF.gName 9) (tE (e2 gNe (eVar 9) (e2 gIx (eVar 0) (eC (.int 1))))) (eVar 9)) (aNil)) [some r, d1, d2, d3, d4, d5, d6, d7, some (sD s), d9] S) fun x S' => x = sD (s.filter fun x => !(x == d)) ∧ Keep [] S S' := by
  simp_arith [sD, chkOf]
  refine wp_mono (comp_filter2 (it := ⟨[], s.map D.int⟩) (is := s) (fun k => !(k == d)) rfl rfl (by simp) (fun k P' hk => ?_)) ?_
  · simp_arith [hr, h1]
  rintro _ S3 ⟨rfl, rfl⟩
  refine ⟨by rw [List.length_map]; exact lim_le (Nat.le_trans (List.length_filter_le ..) (by omega)), ?_⟩
  simp_arith [lstOf_lst get_last]
  exact .app
theorem row_goal {r : Row} (h : isMk r = true) : ∃ ds, r.D = .tup ds ∧ at? ds 1 = some (.int r.goal) := by
  cases r <;> first | exact ⟨_, rfl, rfl⟩ | cases h
theorem hmid_spec {S : Sto} {sr P N : Nat} {boxes slots many_ : Int} {eaten : List Int} {r : Row} {g : Grp} {h1 : Hd} {s : Bool} {d1 d2 d7 d8 d9 : Option D} (hf : FrameOk boxes slots eaten) (hN : (N : Int) = boxes + slots) (hP : P ≤ 8) (hr_ : r.ok (P : Int) many_) (hg : GrpOk boxes slots r g) (ok : HdOk P N h1) (gh : S[sr]? = some (.lst (h1.map sD))) :
    wp (stHmid [some r.D, d1, d2, some (frameD boxes slots eaten), some (.bl s), some (.ref sr), some (.tup (g.bx.map .int)), d7, d8, d9] S) fun z S' => ∃ sr' c7 c8 c9, z = (.nx, [some r.D, d1, d2, some (frameD boxes slots eaten), some (.bl s), some (.ref sr'), some (.tup (g.bx.map .int)), c7, c8, c9]) ∧ S'[sr']? = some (.lst ((hmid eaten h1 r g s).map sD)) ∧ Keep [] S S' := by
  have hb := hf.bx
  have hsl := hf.sl
  have fr : frameD boxes slots eaten = .tup [.int boxes, .int slots, .tup (eaten.map .int)] := rfl
  have hlen : ∀ t ∈ h1, t.length ≤ 900 := fun t ht => by have := up_in (ok.srt t ht) (ok.inn t ht); omega
  have hN1 : h1.length ≤ 1000 := by rw [ok.len]; omega
  have lh1 := lt_of_get gh
  unfold stHmid
  rw [w_sif, w_te]
  simp only [w_e2, v_var, List.getElem?_cons_succ, List.getElem?_cons_zero, on_some, w_c, row_w, v_eq, eqF_str, w_copy_, ex_bl]
  cases hcp : r.isCopy with
  | true =>
    rw [if_pos rfl]
    cases r with
    | copy d a =>
      obtain ⟨b0, b1, ebx⟩ : ∃ b0 b1, g.bx = [b0, b1] := by
        match g.bx, hg.bl with
        | [x, y], _ => exact ⟨x, y, rfl⟩
      have hb0 : In0 b0 N := by have := hg.bi b0 (by rw [ebx]; simp); exact ⟨this.1, by have := this.2; omega⟩
      have hb1 : In0 b1 N := by have := hg.bi b1 (by rw [ebx]; simp); exact ⟨this.1, by have := this.2; omega⟩
      rw [ebx, w_seq]
      simp only [w_set, w_comp, v_iseq, v_var, List.getElem?_cons_succ, List.getElem?_cons_zero, on_some, seqOf, chkOf, lstOf_lst gh, wipe, List.set_cons_succ, List.set_cons_zero]
      refine wp_mono (comp_mapK (it := ⟨[(sr, h1.map sD)], h1.map sD⟩) (φ := sD) (f := fun t => sD (renH d a t)) (xs := h1) rfl (fun S' k => by simp [Iter.same, lstOf_lst (k.at gh (by simp))]) fun t ht S1 k1 => ?_) ?_
      · simp only [w_call, w_cons, w_nil, w_e2, w_c, v_var, List.getElem?_cons_succ, List.getElem?_cons_zero, List.set_cons_succ, List.set_cons_zero, on_some]
        simp_arith [Row.D, at_1, at_2]
        exact renamed_spec (hlen t ht)
      rintro _ S2 ⟨rfl, K2⟩
      refine ⟨by rw [List.length_map]; exact lim_le hN1, ?_⟩
      have ok2 : (h1.map (renH d a)).length = N := by rw [List.length_map]; exact ok.len
      have eq2 : h1.map (fun t => sD (renH d a t)) = (h1.map (renH d a)).map sD := by rw [List.map_map]; rfl
      have em : hmid eaten h1 (.copy d a) g s = (h1.map (renH d a)).set b0.toNat (hat (h1.map (renH d a)) b1) := by
        unfold hmid
        rw [if_pos hcp, ebx]
        rfl
      rw [em, eq2]
      generalize h1.map (renH d a) = h2 at *
      have g2 : (S2 ++ [MO.lst (h2.map sD)])[S2.length]? = some (.lst (h2.map sD)) := get_last
      obtain ⟨a1, _, _⟩ := hat_at ok2 hb1
      have hl2 : (h2.map sD).length = N := by rw [List.length_map]; exact ok2
      simp_arith [at0, at_1, lstOf_lst g2, a1, wrOf_lst g2, hl2, ixN_pos (n := N) (i := b0) hb0]
      refine ⟨S2.length, d7, d8, d9, rfl, ?_, (K2.trans .app).past (W := [S2.length]) (.set (by simp)) (by intro i hi; simp at hi; rw [hi]; exact K2.len)⟩
      rw [get_set (lt_of_get g2), List.map_set]
    | _ => cases hcp
  | false =>
    rw [if_neg (by decide), w_sif, w_te]
    simp only [w_call, w_cons, w_nil, v_var, List.getElem?_cons_succ, List.getElem?_cons_zero, on_some, makes_is, ex_bl]
    cases hmk : isMk r with
    | false =>
      rw [if_neg (by decide), w_next]
      have em : hmid eaten h1 r g s = h1 := by unfold hmid; rw [hcp, hmk]; rfl
      rw [em]
      exact ⟨sr, _, _, _, rfl, gh, .refl⟩
    | true =>
      rw [if_pos rfl]
      obtain ⟨dr, edr, hdr⟩ := row_goal hmk
      obtain ⟨rest, enm⟩ : ∃ rest, r.nms = r.goal :: rest := by
        cases r <;> first | exact ⟨_, rfl⟩ | cases hmk
      have hpos : 0 < g.bx.length := by rw [hg.bl, enm]; simp
      have eb0 : at? (g.bx.map D.int) 0 = some (.int (rd g.bx 0)) := at_held rfl ⟨by decide, by omega⟩
      have hb0 : In0 (rd g.bx 0) N := by
        have e : rd g.bx 0 = g.bx[0] := by unfold rd; simp [hpos]
        have := hg.bi _ (List.getElem_mem hpos)
        rw [e]
        exact ⟨this.1, by have := this.2; omega⟩
      rw [w_seq]
      simp only [w_set, w_comp, v_iseq, v_var, List.getElem?_cons_succ, List.getElem?_cons_zero, on_some, seqOf, chkOf, lstOf_lst gh, wipe, List.set_cons_succ, List.set_cons_zero]
      refine wp_mono (comp_mapK (it := ⟨[(sr, h1.map sD)], h1.map sD⟩) (φ := sD) (f := fun t => sD (t.filter fun x => !(x == r.goal))) (xs := h1) rfl (fun S' k => by simp [Iter.same, lstOf_lst (k.at gh (by simp))]) fun t ht S1 k1 => ?_) ?_
      · simp only [List.set_cons_succ, List.set_cons_zero]
        exact filt_spec edr hdr (hlen t ht)
      rintro _ S2 ⟨rfl, K2⟩
      refine ⟨by rw [List.length_map]; exact lim_le hN1, ?_⟩
      have ok2 : (h1.map fun t => t.filter fun x => !(x == r.goal)).length = N := by rw [List.length_map]; exact ok.len
      have eq2 : h1.map (fun t => sD (t.filter fun x => !(x == r.goal))) = (h1.map fun t => t.filter fun x => !(x == r.goal)).map sD := by rw [List.map_map]; rfl
      have em : hmid eaten h1 r g s = (if r.isCall then eatH eaten (h1.map fun t => t.filter fun x => !(x == r.goal)) else h1.map fun t => t.filter fun x => !(x == r.goal)).set (rd g.bx 0).toNat (if s then [r.goal] else []) := by
        unfold hmid
        rw [if_neg (by rw [hcp]; decide), if_pos hmk]
      rw [em, eq2]
      generalize (h1.map fun t => t.filter fun x => !(x == r.goal)) = h2 at *
      have g2 : (S2 ++ [MO.lst (h2.map sD)])[S2.length]? = some (.lst (h2.map sD)) := get_last
      have K3 : Keep [] S (S2 ++ [MO.lst (h2.map sD)]) := K2.trans .app
      have lS := K2.len
      generalize S2 ++ [MO.lst (h2.map sD)] = S3 at *
      generalize S2.length = sr2 at *
      have fin : ∀ (h3 : Hd) (S4 : Sto) (c7 c8 c9 : Option D), h3.length = N → S4[sr2]? = some (.lst (h3.map sD)) → Keep [] S S4 → wp (sSub (eVar 5) (e2 gIx (eVar 6) (eC (.int 0))) (eIf (tE (eVar 4)) (eTup (aCons (e2 gIx (eVar 0) (eC (.int 1))) (aNil))) (eTup (aNil))) [some r.D, d1, d2, some (frameD boxes slots eaten), some (.bl s), some (.ref sr2), some (.tup (g.bx.map .int)), c7, c8, c9] S4) fun z S' => ∃ sr' c7 c8 c9, z = (.nx, [some r.D, d1, d2, some (frameD boxes slots eaten), some (.bl s), some (.ref sr'), some (.tup (g.bx.map .int)), c7, c8, c9]) ∧ S'[sr']? = some (.lst ((h3.set (rd g.bx 0).toNat (if s then [r.goal] else [])).map sD)) ∧ Keep [] S S' := fun h3 S4 c7 c8 c9 l3 g4 k4 => by
        have hl3 : (h3.map sD).length = N := by rw [List.length_map]; exact l3
        rw [edr]
        cases s <;>
        · simp_arith [hdr, eb0, wrOf_lst g4, hl3, ixN_pos (n := N) (i := rd g.bx 0) hb0]
          refine ⟨sr2, c7, c8, c9, rfl, ?_, k4.past (W := [sr2]) (.set (by simp)) (by intro i hi; simp at hi; omega)⟩
          rw [get_set (lt_of_get g4), List.map_set]
          rfl
      cases hcall : r.isCall with
      | false =>
        simp only [w_seq, w_for, v_iseq, w_if, w_te, w_e2, w_c, v_var, List.getElem?_cons_succ, List.getElem?_cons_zero, on_some, row_w, v_eq, eqF_str, w_call_, hcall, ex_bl, Bool.false_eq_true, if_false, w_tup, w_nil, seqOf, chkOf, w_fnil, same_nil, true_and]
        exact fin h2 S3 _ _ _ ok2 g2 K3
      | true =>
        have f2 : ∀ (S : Sto) (Q : D → Sto → Prop), wp (gIx (frameD boxes slots eaten) (.int 2) S) Q = Q (.tup (eaten.map .int)) S := fun S Q => by rw [fr]; simp_arith [at_2]
        rw [w_seq, w_for]
        simp only [v_iseq, w_if, w_te, w_e2, w_c, v_var, List.getElem?_cons_succ, List.getElem?_cons_zero, on_some, row_w, v_eq, eqF_str, w_call_, hcall, ex_bl, if_true, f2, seqOf, chkOf]
        refine wp_for (it := ⟨[], eaten.map D.int⟩) (fun k ρ S' => ∃ c7, ρ = [some r.D, d1, d2, some (frameD boxes slots eaten), some (.bl s), some (.ref sr2), some (.tup (g.bx.map .int)), c7, d8, d9] ∧ S'[sr2]? = some (.lst ((eatH (eaten.take k) h2).map sD)) ∧ Keep [] S S') (fun _ _ _ _ => rfl) ?_ ⟨_, rfl, g2, K3⟩ ?_
        · rintro k x ρ S6 hx ⟨c7, rfl, g6, k6⟩
          rw [List.getElem?_map] at hx
          cases ee : eaten[k]? with
          | none => rw [ee] at hx; cases hx
          | some e =>
            rw [ee] at hx
            cases hx
            have hin := hf.wi e (List.mem_of_getElem? ee)
            have hl6 : ((eatH (eaten.take k) h2).map sD).length = N := by rw [List.length_map, eatH_len]; exact ok2
            refine ⟨_, rfl, ?_⟩
            simp_arith [wrOf_lst g6, hl6, ixN_pos (n := N) (i := e) ⟨hin.1, by have := hin.2; omega⟩]
            refine ⟨_, rfl, ?_, k6.past (W := [sr2]) (.set (by simp)) (by intro i hi; simp at hi; omega)⟩
            have e1 : eaten.take (k + 1) = eaten.take k ++ [e] := by rw [List.take_add_one, ee]; rfl
            rw [get_set (lt_of_get g6), e1, eatH_app, List.map_set]
            rfl
        · rintro ρ S6 ⟨c7, rfl, g6, k6⟩
          have e : (Iter.mk [] (eaten.map D.int)).all.length = eaten.length := by show (eaten.map D.int).length = _; simp
          rw [e, List.take_length] at g6
          exact fin (eatH eaten h2) S6 _ _ _ (by rw [eatH_len]; exact ok2) g6 k6
end PG
end
section
set_option linter.all false
set_option autoImplicit false
set_option maxRecDepth 100003
namespace PF
end PF
namespace PG
open PF
theorem hins_perm (x : Int) : ∀ l : List Int, (ins (fun a b => decide (a < b)) x l).Perm (x :: l)
  | [] => .refl _
  | y :: ys => by
    unfold ins
    split
    · exact ((hins_perm x ys).cons y).trans (.swap x y ys)
    · exact .refl _
theorem hsort_perm : ∀ l : List Int, (sortI l).Perm l
  | [] => .refl _
  | x :: xs => (hins_perm x _).trans ((hsort_perm xs).cons x)
theorem hins_srt (x : Int) : ∀ l : List Int, l.Pairwise (· < ·) → x ∉ l → (ins (fun a b => decide (a < b)) x l).Pairwise (· < ·)
  | [], _, _ => by simp [ins]
  | y :: ys, h, hn => by
    unfold ins
    rw [List.pairwise_cons] at h
    have hxy : x ≠ y := fun e => hn (by rw [e]; exact List.mem_cons_self)
    split
    · rename_i c
      have c' : y < x := of_decide_eq_true c
      refine List.pairwise_cons.mpr ⟨fun z hz => ?_, hins_srt x ys h.2 fun m => hn (List.mem_cons_of_mem _ m)⟩
      rcases List.mem_cons.mp ((hins_perm x ys).mem_iff.mp hz) with e | e
      · omega
      · exact h.1 z e
    · rename_i c
      have c' : ¬ y < x := fun e => c (decide_eq_true e)
      refine List.pairwise_cons.mpr ⟨fun z hz => ?_, List.pairwise_cons.mpr h⟩
      rcases List.mem_cons.mp hz with e | e
      · omega
      · have := h.1 z e; omega
theorem hsort_srt : ∀ l : List Int, l.Nodup → (sortI l).Pairwise (· < ·)
  | [], _ => .nil
  | x :: xs, h => by
    rw [List.nodup_cons] at h
    exact hins_srt x _ (hsort_srt xs h.2) fun m => h.1 ((hsort_perm xs).mem_iff.mp m)
theorem srt_nodup {l : List Int} (h : l.Pairwise (· < ·)) : l.Nodup := h.imp fun h => by omega
theorem mem_any {l : List Int} {x : Int} : l.any (· == x) = true ↔ x ∈ l := by
  rw [List.any_eq_true]
  constructor
  · rintro ⟨y, hy, e⟩
    have : y = x := by simpa using e
    exact this ▸ hy
  · intro h
    exact ⟨x, h, by simp⟩
theorem mem_ren {d a x : Int} {s : List Int} : x ∈ renH d a s ↔ (if d = a then x ∈ s else (x ∈ s ∧ x ≠ d) ∨ (x = d ∧ a ∈ s)) := by
  unfold renH
  by_cases e : d = a
  · rw [if_pos e, if_pos e]
  · rw [if_neg e, if_neg e]
    have hf : ∀ y, y ∈ s.filter (fun x => !(x == d)) ↔ y ∈ s ∧ y ≠ d := fun y => by simp
    have ha : (s.filter fun x => !(x == d)).any (· == a) = true ↔ a ∈ s := by
      rw [mem_any, hf]
      exact ⟨fun h => h.1, fun h => ⟨h, fun z => e z.symm⟩⟩
    by_cases c : a ∈ s
    · rw [if_pos (ha.mpr c), (hsort_perm _).mem_iff, List.mem_append, hf, List.mem_singleton]
      simp [c]
    · rw [if_neg (fun h => c (ha.mp h)), hf]
      simp [c]
theorem ren_srt {d a : Int} {s : List Int} (h : s.Pairwise (· < ·)) : (renH d a s).Pairwise (· < ·) := by
  unfold renH
  split
  · exact h
  · split
    · refine hsort_srt _ ?_
      rw [List.nodup_append]
      refine ⟨(srt_nodup h).filter _, by simp, fun x hx y hy => ?_⟩
      have : y = d := by simpa using hy
      subst this
      intro e
      subst e
      simp at hx
    · exact h.filter _
theorem mem_set_or {α : Type} {l : List α} {i : Nat} {a x : α} (h : x ∈ l.set i a) : x ∈ l ∨ x = a := List.mem_or_eq_of_mem_set h
theorem eatH_mem : ∀ {es : List Int} {h : Hd} {s : List Int}, s ∈ eatH es h → s ∈ h ∨ s = []
  | [], _, _, hs => .inl hs
  | e :: es, h, s, hs => by
    rcases eatH_mem (es := es) (h := h.set e.toNat []) hs with z | z
    · exact mem_set_or z
    · exact .inr z
theorem goal_in {r : Row} {P : Nat} {m : Int} (hr : r.ok (P : Int) m) (h : isMk r = true) : In0 r.goal (P : Int) := by
  cases r <;> first | exact hr.1 | cases h
theorem hmid_ok {P N : Nat} {boxes slots m : Int} {eaten : List Int} {h1 : Hd} {r : Row} {g : Grp} {s : Bool} (ok : HdOk P N h1) (hr : r.ok (P : Int) m) : HdOk P N (hmid eaten h1 r g s) := by
  unfold hmid
  split
  · rename_i hc
    cases r with
    | copy d a =>
      have okr : HdOk P N (h1.map (renH d a)) := by
        refine ⟨by rw [List.length_map]; exact ok.len, fun t ht => ?_, fun t ht k hk => ?_⟩
        · obtain ⟨u, hu, rfl⟩ := List.mem_map.mp ht
          exact ren_srt (ok.srt u hu)
        · obtain ⟨u, hu, rfl⟩ := List.mem_map.mp ht
          rw [mem_ren] at hk
          split at hk
          · exact ok.inn u hu k hk
          · rcases hk with hk | hk
            · exact ok.inn u hu k hk.1
            · rw [hk.1]; exact hr.1
      show HdOk P N ((h1.map (renH d a)).set _ (hat (h1.map (renH d a)) _))
      generalize h1.map (renH d a) = h2 at *
      have key : ∀ t ∈ h2.set (rd g.bx 0).toNat (hat h2 (rd g.bx 1)), t ∈ h2 ∨ t = [] := fun t ht => by
        rcases mem_set_or ht with z | z
        · exact .inl z
        · unfold hat at z
          by_cases c : (rd g.bx 1).toNat < h2.length
          · refine .inl ?_
            rw [z, List.getD_eq_getElem?_getD, List.getElem?_eq_getElem c]
            exact List.getElem_mem c
          · refine .inr ?_
            rw [z, List.getD_eq_getElem?_getD, List.getElem?_eq_none (by omega)]
            rfl
      refine ⟨by rw [List.length_set]; exact okr.len, fun t ht => ?_, fun t ht k hk => ?_⟩
      · rcases key t ht with z | z
        · exact okr.srt t z
        · rw [z]; exact .nil
      · rcases key t ht with z | z
        · exact okr.inn t z k hk
        · rw [z] at hk; cases hk
    | _ => cases hc
  · split
    · rename_i hmk
      have key : ∀ t ∈ (if r.isCall then eatH eaten (h1.map fun t => t.filter fun x => !(x == r.goal)) else h1.map fun t => t.filter fun x => !(x == r.goal)).set (rd g.bx 0).toNat (if s then [r.goal] else []), (∃ u ∈ h1, t = u.filter fun x => !(x == r.goal)) ∨ t = [] ∨ t = [r.goal] := fun t ht => by
        rcases mem_set_or ht with z | z
        · split at z
          · rcases eatH_mem z with z | z
            · obtain ⟨u, hu, rfl⟩ := List.mem_map.mp z
              exact .inl ⟨u, hu, rfl⟩
            · exact .inr (.inl z)
          · obtain ⟨u, hu, rfl⟩ := List.mem_map.mp z
            exact .inl ⟨u, hu, rfl⟩
        · cases s
          · exact .inr (.inl z)
          · exact .inr (.inr z)
      refine ⟨?_, fun t ht => ?_, fun t ht k hk => ?_⟩
      · rw [List.length_set]
        split
        · rw [eatH_len, List.length_map]; exact ok.len
        · rw [List.length_map]; exact ok.len
      · rcases key t ht with ⟨u, hu, z⟩ | z | z <;> rw [z]
        · exact (ok.srt u hu).filter _
        · exact .nil
        · simp
      · rcases key t ht with ⟨u, hu, z⟩ | z | z <;> rw [z] at hk
        · exact ok.inn u hu k (List.mem_filter.mp hk).1
        · cases hk
        · have : k = r.goal := by simpa using hk
          rw [this]; exact goal_in hr hmk
    · exact ok
theorem hbeh_ok {P N : Nat} {boxes m : Int} {eaten : List Int} {h : Hd} {r : Row} {g : Grp} (ok : HdOk P N h) (hr : r.ok (P : Int) m) : HdOk P N (hbeh eaten boxes h r g) := mvs_ok (hmid_ok (boxes := boxes) (slots := 0) (mvs_ok ok) hr)
theorem held_behind_spec {S : Sto} {P N : Nat} {boxes slots many_ : Int} {eaten : List Int} {h : Hd} {r : Row} {g : Grp} (hf : FrameOk boxes slots eaten) (hN : (N : Int) = boxes + slots) (hP : P ≤ 8) (hr_ : r.ok (P : Int) many_) (hg : GrpOk boxes slots r g) (ok : HdOk P N h) :
    wp (f_held_behind [r.D, g.D, hD h, frameD boxes slots eaten] S) fun d S' => d = hD (hbeh eaten boxes h r g) ∧ Keep [] S S' := by
  have hb := hf.bx
  have hsl := hf.sl
  have fg : g.D = .tup [.tup (g.ahead.map Mv.D), .tup (g.bx.map .int), .tup (g.behind.map Mv.D)] := rfl
  have g1 : ∀ (S : Sto) (Q : D → Sto → Prop), wp (gIx g.D (.int 0) S) Q = Q (.tup (g.ahead.map Mv.D)) S := fun S Q => by rw [fg]; simp_arith [at0]
  have g2 : ∀ (S : Sto) (Q : D → Sto → Prop), wp (gIx g.D (.int 1) S) Q = Q (.tup (g.bx.map .int)) S := fun S Q => by rw [fg]; simp_arith [at_1]
  have g3 : ∀ (S : Sto) (Q : D → Sto → Prop), wp (gIx g.D (.int 2) S) Q = Q (.tup (g.behind.map Mv.D)) S := fun S Q => by rw [fg]; simp_arith [at_2]
  unfold f_held_behind b_held_behind
  rw [stHmid_eq, w_fn]
  refine ⟨by simp, ?_⟩
  simp only [List.map_cons, List.map_nil, List.length_cons, List.length_nil, Nat.zero_add, Nat.reduceAdd, Nat.reduceSub, List.replicate_succ, List.replicate_zero, List.cons_append, List.nil_append]
  rw [w_seq]
  simp only [w_set, w_call, w_cons, w_nil, v_var, List.getElem?_cons_succ, List.getElem?_cons_zero, on_some, List.set_cons_succ, List.set_cons_zero]
  refine wp_mono (is_handed_spec hf hN hr_ hg ok) ?_
  rintro _ S1 ⟨rfl, k1⟩
  rw [w_seq]
  simp only [w_set, w_call, w_cons, w_nil, w_e2, w_c, v_var, List.getElem?_cons_succ, List.getElem?_cons_zero, on_some, g1, List.set_cons_succ, List.set_cons_zero]
  refine wp_mono (moved_spec (h := hD h) (hs := h.map sD) (boxes := boxes) (slots := slots) (eaten := eaten) (by omega) hsl.1 rfl (by rw [List.length_map, ok.len]; exact hN) hg.oa) ?_
  rintro _ S2 ⟨rfl, gh, k2⟩
  rw [mvs_map] at gh
  rw [w_seq]
  simp only [w_set, w_call, w_cons, w_nil, w_e2, w_c, v_var, List.getElem?_cons_succ, List.getElem?_cons_zero, on_some, g2, List.set_cons_succ, List.set_cons_zero]
  have ok1 := mvs_ok (boxes := boxes) (ms := g.ahead) ok
  have eh : hbeh eaten boxes h r g = mvs boxes (hmid eaten (mvs boxes h g.ahead) r g (sameH r g (mvs boxes h g.ahead))) g.behind := rfl
  rw [eh]
  clear eh
  generalize mvs boxes h g.ahead = h1 at *
  rw [w_seq]
  refine wp_mono (hmid_spec hf hN hP hr_ hg ok1 gh) ?_
  rintro _ S3 ⟨sr', c7, c8, c9, rfl, g3', k3⟩
  have ok3 := hmid_ok (boxes := boxes) (slots := slots) (eaten := eaten) (g := g) (s := sameH r g h1) ok1 hr_
  generalize hmid eaten h1 r g (sameH r g h1) = h3 at *
  simp only [w_ret, w_call, w_cons, w_nil, w_e2, w_c, v_var, List.getElem?_cons_succ, List.getElem?_cons_zero, on_some, g3]
  refine wp_mono (moved_spec (h := .ref sr') (hs := h3.map sD) (boxes := boxes) (slots := slots) (eaten := eaten) (by omega) hsl.1 (lstOf_lst g3') (by rw [List.length_map, ok3.len]; exact hN) hg.ob) ?_
  rintro _ S4 ⟨rfl, g4, k4⟩
  rw [mvs_map] at g4
  simp_arith [lstOf_lst g4]
  exact ⟨rfl, ((k1.trans k2).trans k3).trans k4⟩
end PG
end
section
set_option linter.all false
set_option autoImplicit false
set_option maxRecDepth 100003
namespace PF
theorem all_tree {α : Type} {S : Sto} {n : Nat} {φ : α → D} {f : α → J} (h : ∀ a, tree S n (φ a) = some (f a)) : ∀ L : List α, allSome (tree S n) (L.map φ) = some (L.map f)
  | [] => rfl
  | a :: L => by simp only [List.map_cons, allSome, h a, all_tree h L]
end PF
namespace PG
open PF
def sJ (s : List Int) : J := .tup (s.map .int)
def hJ (h : Hd) : J := .tup (h.map sJ)
theorem tree_sD {S : Sto} {n : Nat} (s : List Int) : tree S (n + 1) (sD s) = some (sJ s) := by
  have : allSome (tree S n) (s.map D.int) = some (s.map J.int) := all_tree (fun a => by cases n <;> simp only [tree]) s
  unfold sD sJ
  simp only [tree, this]
theorem tree_hD {S : Sto} {n : Nat} (h : Hd) : tree S (n + 2) (hD h) = some (hJ h) := by
  have : allSome (tree S (n + 1)) (h.map sD) = some (h.map sJ) := all_tree tree_sD h
  unfold hD hJ
  simp only [tree, this]
/-- the rows behind a row -/
def leads (n : Int) : Row → List Int
  | .fin => []
  | .go t => [t]
  | .ife _ t => [n + 1, t]
  | _ => [n + 1]
def meetS (s t : List Int) : List Int := s.filter fun x => t.any (· == x)
def meetH (a b : Hd) : Hd := (a.zip b).map fun p => meetS p.1 p.2
end PG
end
section
set_option linter.all false
set_option autoImplicit false
set_option maxRecDepth 100003
namespace PG
open PF
def leH (a b : Hd) : Prop := a.length = b.length ∧ ∀ (p : Nat) (x : Int), x ∈ a.getD p [] → x ∈ b.getD p []
theorem leH.refl {a : Hd} : leH a a := ⟨rfl, fun _ _ h => h⟩
theorem leH.trans {a b c : Hd} (h : leH a b) (k : leH b c) : leH a c := ⟨h.1.trans k.1, fun p x m => k.2 p x (h.2 p x m)⟩
theorem getD_out {h : Hd} {p : Nat} (hp : ¬ p < h.length) : h.getD p [] = [] := by
  rw [List.getD_eq_getElem?_getD, List.getElem?_eq_none (by omega)]
  rfl
theorem get?_getD {h : Hd} {p : Nat} (hp : p < h.length) : h[p]? = some (h.getD p []) := by
  rw [List.getD_eq_getElem?_getD, List.getElem?_eq_getElem hp]
  rfl
theorem getD_set {h : Hd} {i p : Nat} {v : List Int} : (h.set i v).getD p [] = if i = p ∧ p < h.length then v else h.getD p [] := by
  rw [List.getD_eq_getElem?_getD, List.getD_eq_getElem?_getD, List.getElem?_set]
  by_cases e : i = p
  · subst e
    by_cases c : i < h.length
    · simp [c]
    · simp [c]
  · simp [e]
theorem leH.set {a b : Hd} {i : Nat} {v w : List Int} (h : leH a b) (hv : ∀ x ∈ v, x ∈ w) : leH (a.set i v) (b.set i w) := by
  refine ⟨by rw [List.length_set, List.length_set]; exact h.1, fun p x hx => ?_⟩
  rw [getD_set] at hx ⊢
  rw [← h.1]
  split
  · rename_i c; rw [if_pos c] at hx; exact hv x hx
  · rename_i c; rw [if_neg c] at hx; exact h.2 p x hx
theorem getD_map {f : List Int → List Int} (hf : f [] = []) {h : Hd} {p : Nat} : (h.map f).getD p [] = f (h.getD p []) := by
  rw [List.getD_eq_getElem?_getD, List.getD_eq_getElem?_getD, List.getElem?_map]
  cases h[p]? with
  | none => exact hf.symm
  | some s => rfl
theorem leH.map {f : List Int → List Int} (hf : f [] = []) (mf : ∀ s t, (∀ x ∈ s, x ∈ t) → ∀ x ∈ f s, x ∈ f t) {a b : Hd} (h : leH a b) : leH (a.map f) (b.map f) := by
  refine ⟨by rw [List.length_map, List.length_map]; exact h.1, fun p x hx => ?_⟩
  rw [getD_map hf] at hx ⊢
  exact mf _ _ (h.2 p) x hx
theorem leH.mv {boxes : Int} {a b : Hd} {m : Mv} (h : leH a b) : leH (mv1 boxes a m) (mv1 boxes b m) := by
  have key : ∀ j : Nat, (a[j]? = some (a.getD j []) ∧ b[j]? = some (b.getD j [])) ∨ (a[j]? = none ∧ b[j]? = none) := fun j => by
    by_cases c : j < a.length
    · exact .inl ⟨get?_getD c, get?_getD (by rw [← h.1]; exact c)⟩
    · exact .inr ⟨List.getElem?_eq_none (by omega), List.getElem?_eq_none (by rw [← h.1]; omega)⟩
  cases m with
  | copy x y =>
    unfold mv1
    dsimp only
    rcases key y.toNat with ⟨e1, e2⟩ | ⟨e1, e2⟩ <;> rw [e1, e2]
    · exact h.set (h.2 _)
    · exact h
  | store x y =>
    unfold mv1
    dsimp only
    rcases key y.toNat with ⟨e1, e2⟩ | ⟨e1, e2⟩ <;> rw [e1, e2]
    · exact h.set (h.2 _)
    · exact h
  | load x y =>
    unfold mv1
    dsimp only
    rcases key (boxes + y).toNat with ⟨e1, e2⟩ | ⟨e1, e2⟩ <;> rw [e1, e2]
    · exact h.set (h.2 _)
    · exact h
  | swap x y =>
    unfold mv1
    dsimp only
    rcases key x.toNat with ⟨e1, e2⟩ | ⟨e1, e2⟩ <;> rw [e1, e2]
    · rcases key y.toNat with ⟨e3, e4⟩ | ⟨e3, e4⟩ <;> rw [e3, e4]
      · exact (h.set (h.2 _)).set (h.2 _)
      · exact h
    · exact h
theorem leH.mvs {boxes : Int} : ∀ {ms : List Mv} {a b : Hd}, leH a b → leH (mvs boxes a ms) (mvs boxes b ms)
  | [], _, _, h => h
  | m :: ms, a, b, h => leH.mvs (ms := ms) h.mv
theorem leH.eat : ∀ {es : List Int} {a b : Hd}, leH a b → leH (eatH es a) (eatH es b)
  | [], _, _, h => h
  | e :: es, a, b, h => leH.eat (es := es) (h.set fun x hx => hx)
theorem same_mono {r : Row} {g : Grp} {a b : Hd} (h : leH a b) (hs : sameH r g a = true) : sameH r g b = true := by
  unfold sameH at *
  rw [beq_iff_eq, List.filter_eq_nil_iff] at *
  intro k hk
  have := hs k hk
  simp only [Bool.not_eq_true', Bool.not_eq_false] at this ⊢
  unfold askH at *
  rw [mem_any] at *
  exact h.2 _ _ this
theorem hmid_mono {eaten : List Int} {a b : Hd} {r : Row} {g : Grp} {s t : Bool} (h : leH a b) (hs : s = true → t = true) : leH (hmid eaten a r g s) (hmid eaten b r g t) := by
  unfold hmid
  have h1 : leH (a.map (renH r.goal r.src)) (b.map (renH r.goal r.src)) := by
    refine h.map (by unfold renH; simp) fun u v huv x hx => ?_
    rw [mem_ren] at *
    split
    · rename_i c; rw [if_pos c] at hx; exact huv x hx
    · rename_i c
      rw [if_neg c] at hx
      rcases hx with hx | hx
      · exact .inl ⟨huv x hx.1, hx.2⟩
      · exact .inr ⟨hx.1, huv _ hx.2⟩
  have h2 : leH (a.map fun t => t.filter fun x => !(x == r.goal)) (b.map fun t => t.filter fun x => !(x == r.goal)) := by
    refine h.map rfl fun u v huv x hx => ?_
    have := List.mem_filter.mp hx
    exact List.mem_filter.mpr ⟨huv x this.1, this.2⟩
  split
  · exact h1.set (h1.2 _)
  · split
    · have h3 : ∀ x ∈ (if s = true then [r.goal] else []), x ∈ (if t = true then [r.goal] else []) := fun x hx => by
        cases s
        · cases hx
        · rw [hs rfl]; exact hx
      split
      · exact h2.eat.set h3
      · exact h2.set h3
    · exact h
theorem hbeh_mono {eaten : List Int} {boxes : Int} {a b : Hd} {r : Row} {g : Grp} (h : leH a b) : leH (hbeh eaten boxes a r g) (hbeh eaten boxes b r g) :=
  leH.mvs (hmid_mono (leH.mvs h) (same_mono (leH.mvs h)))
theorem mem_meetS {s t : List Int} {x : Int} : x ∈ meetS s t ↔ x ∈ s ∧ x ∈ t := by
  unfold meetS
  rw [List.mem_filter, mem_any]
theorem meetH_len {a b : Hd} (h : a.length = b.length) : (meetH a b).length = a.length := by
  unfold meetH
  rw [List.length_map, List.length_zip]
  omega
theorem meetH_getD {a b : Hd} (h : a.length = b.length) {p : Nat} : (meetH a b).getD p [] = meetS (a.getD p []) (b.getD p []) := by
  by_cases c : p < a.length
  · rw [List.getD_eq_getElem?_getD]
    unfold meetH
    rw [List.getElem?_map, List.getElem?_zip_eq_some (z := (a.getD p [], b.getD p [])) |>.mpr ⟨get?_getD c, get?_getD (by rw [← h]; exact c)⟩]
    rfl
  · rw [getD_out (by rw [meetH_len h]; exact c), getD_out c]
    rfl
theorem meet_le1 {a b : Hd} (h : a.length = b.length) : leH (meetH a b) a := ⟨meetH_len h, fun p x hx => by rw [meetH_getD h, mem_meetS] at hx; exact hx.1⟩
theorem meet_le2 {a b : Hd} (h : a.length = b.length) : leH (meetH a b) b := ⟨(meetH_len h).trans h, fun p x hx => by rw [meetH_getD h, mem_meetS] at hx; exact hx.2⟩
theorem le_meet {a b u : Hd} (h : leH u a) (k : leH u b) : leH u (meetH a b) := by
  have e : a.length = b.length := h.1.symm.trans k.1
  exact ⟨h.1.trans (meetH_len e).symm, fun p x hx => by rw [meetH_getD e, mem_meetS]; exact ⟨h.2 p x hx, k.2 p x hx⟩⟩
theorem meet_ok {P N : Nat} {a b : Hd} (oa : HdOk P N a) (h : a.length = b.length) : HdOk P N (meetH a b) := by
  have key : ∀ t ∈ meetH a b, ∃ u ∈ a, ∃ v, t = meetS u v := fun t ht => by
    obtain ⟨p, hp, rfl⟩ := List.mem_map.mp ht
    exact ⟨p.1, (List.of_mem_zip hp).1, p.2, rfl⟩
  refine ⟨(meetH_len h).trans oa.len, fun t ht => ?_, fun t ht k hk => ?_⟩
  · obtain ⟨u, hu, v, rfl⟩ := key t ht
    exact (oa.srt u hu).filter _
  · obtain ⟨u, hu, v, rfl⟩ := key t ht
    exact oa.inn u hu k (mem_meetS.mp hk).1
def wH (h : Hd) : Nat := (h.map List.length).sum
theorem wH_le {P : Nat} : ∀ {h : Hd}, (∀ s ∈ h, s.length ≤ P) → wH h ≤ h.length * P
  | [], _ => by simp [wH]
  | s :: h, hs => by
    have h1 := hs s List.mem_cons_self
    have h2 := wH_le (h := h) fun t ht => hs t (List.mem_cons_of_mem _ ht)
    have e : wH (s :: h) = s.length + wH h := by simp [wH]
    rw [e, List.length_cons, Nat.succ_mul]
    omega
theorem wmeet : ∀ {a b : Hd}, a.length = b.length → wH (meetH a b) ≤ wH a ∧ (wH (meetH a b) = wH a → meetH a b = a)
  | [], [], _ => ⟨Nat.le_refl _, fun _ => rfl⟩
  | [], _ :: _, h => by simp at h
  | _ :: _, [], h => by simp at h
  | s :: a, t :: b, h => by
    have ih := wmeet (a := a) (b := b) (by simpa using h)
    have e1 : meetH (s :: a) (t :: b) = meetS s t :: meetH a b := rfl
    have e2 : wH (meetS s t :: meetH a b) = (meetS s t).length + wH (meetH a b) := by simp [wH]
    have e3 : wH (s :: a) = s.length + wH a := by simp [wH]
    have h1 : (meetS s t).length ≤ s.length := List.length_filter_le ..
    rw [e1, e2, e3]
    refine ⟨by omega, fun e => ?_⟩
    have h2 : meetS s t = s := by
      unfold meetS at *
      exact List.filter_eq_self.mpr (List.length_filter_eq_length_iff.mp (by omega))
    rw [h2, ih.2 (by omega)]
def wO (P N : Nat) : Option Hd → Nat
  | none => N * P + 1
  | some h => wH h
def wT (P N : Nat) (T : List (Option Hd)) : Nat := (T.map (wO P N)).sum
theorem wT_set {P N : Nat} : ∀ {T : List (Option Hd)} {l : Nat} {o o' : Option Hd}, T[l]? = some o → wO P N o' < wO P N o → wT P N (T.set l o') < wT P N T
  | [], _, _, _, h, _ => by simp at h
  | q :: T, 0, o, o', h, hw => by
    obtain rfl : q = o := by simpa using h
    show wT P N (o' :: T) < wT P N (q :: T)
    unfold wT
    simp only [List.map_cons, List.sum_cons]
    omega
  | q :: T, l + 1, o, o', h, hw => by
    have ih := wT_set (T := T) (l := l) (o := o) (o' := o') (by simpa using h) hw
    show wT P N (q :: T.set l o') < wT P N (q :: T)
    unfold wT at *
    simp only [List.map_cons, List.sum_cons]
    omega
/-- the entry met with what lies behind -/
def updO : Option Hd → Hd → Hd
  | none, b => b
  | some a, b => meetH a b
theorem updO_ok {P N : Nat} {o : Option Hd} {b : Hd} (ho : ∀ a, o = some a → HdOk P N a) (ob : HdOk P N b) : HdOk P N (updO o b) := by
  cases o with
  | none => exact ob
  | some a => exact meet_ok (ho a rfl) ((ho a rfl).len.trans ob.len.symm)
theorem updO_le {P N : Nat} {o : Option Hd} {b : Hd} (ho : ∀ a, o = some a → HdOk P N a) (ob : HdOk P N b) : leH (updO o b) b := by
  cases o with
  | none => exact .refl
  | some a => exact meet_le2 ((ho a rfl).len.trans ob.len.symm)
theorem updO_w {P N : Nat} {o : Option Hd} {b : Hd} (ho : ∀ a, o = some a → HdOk P N a) (ob : HdOk P N b) (ne : some (updO o b) ≠ o) : wO P N (some (updO o b)) < wO P N o := by
  cases o with
  | none =>
    show wH b < N * P + 1
    have := wH_le (h := b) (P := P) fun s hs => up_in (ob.srt s hs) (ob.inn s hs)
    rw [ob.len] at this
    omega
  | some a =>
    show wH (meetH a b) < wH a
    have := wmeet (a := a) (b := b) ((ho a rfl).len.trans ob.len.symm)
    refine Nat.lt_of_le_of_ne this.1 fun e => ne ?_
    show some (meetH a b) = some a
    rw [this.2 e]
end PG
end
section
set_option linter.all false
set_option autoImplicit false
set_option maxRecDepth 100003
namespace PG
open PF
/-- what a paper hangs on -/
structure Pc where
  P : Nat
  N : Nat
  boxes : Int
  eaten : List Int
  rows : List Row
  gs : List Grp
  first : Hd
structure Pc.Ok (C : Pc) : Prop where
  rok : ∀ r ∈ C.rows, r.ok (C.P : Int) C.rows.length
  gn : C.gs.length = C.rows.length
  fok : HdOk C.P C.N C.first
  one : 1 ≤ C.rows.length
abbrev Tb := List (Option Hd)
def Pc.beh (C : Pc) (r : Row) (g : Grp) (h : Hd) : Hd := hbeh C.eaten C.boxes h r g
structure Sol (C : Pc) (T : Tb) : Prop where
  len : T.length = C.rows.length
  ok : ∀ (n : Nat) (h : Hd), T[n]? = some (some h) → HdOk C.P C.N h
  fst : ∃ h, T[0]? = some (some h) ∧ leH h C.first
  stp : ∀ (n : Nat) r g h, C.rows[n]? = some r → C.gs[n]? = some g → T[n]? = some (some h) → ∀ l ∈ leads n r, l < C.rows.length → ∃ h2, T[l.toNat]? = some (some h2) ∧ leH h2 (C.beh r g h)
def Abv (T U : Tb) : Prop := ∀ (n : Nat) (t : Hd), T[n]? = some (some t) → ∃ u, U[n]? = some (some u) ∧ leH u t
/-- a table under way -/
structure Tab (C : Pc) (T : Tb) : Prop where
  len : T.length = C.rows.length
  ok : ∀ (n : Nat) (h : Hd), T[n]? = some (some h) → HdOk C.P C.N h
  fst : ∃ h, T[0]? = some (some h) ∧ leH h C.first
  abv : ∀ U, Sol C U → Abv T U
theorem leads_in {C : Pc} (hC : C.Ok) {n : Nat} {r : Row} {l : Int} (er : C.rows[n]? = some r) (hl : l ∈ leads n r) : 0 ≤ l := by
  have := hC.rok r (List.mem_of_getElem? er)
  cases r with
  | fin => cases hl
  | go t => have e : l = t := by simpa [leads] using hl
            rw [e]; exact this.1
  | ife a t =>
    have e : l = n + 1 ∨ l = t := by simpa [leads] using hl
    rcases e with e | e
    · omega
    · rw [e]; exact this.2.1
  | _ =>
    have e : l = n + 1 := by simpa [leads] using hl
    omega
theorem beh_ok {C : Pc} (hC : C.Ok) {n : Nat} {r : Row} {g : Grp} {h : Hd} (er : C.rows[n]? = some r) (ok : HdOk C.P C.N h) : HdOk C.P C.N (C.beh r g h) := hbeh_ok ok (hC.rok r (List.mem_of_getElem? er))
/-- one entry met anew -/
theorem Tab.step {C : Pc} (hC : C.Ok) {T : Tb} {n : Nat} {r : Row} {g : Grp} {h h0 : Hd} {l : Int} {o : Option Hd} (hT : Tab C T) (er : C.rows[n]? = some r) (eg : C.gs[n]? = some g) (eh : ∃ t, T[n]? = some (some t) ∧ leH t h) (oh : HdOk C.P C.N h) (hl : l ∈ leads n r) (eo : T[l.toNat]? = some o) :
    Tab C (T.set l.toNat (some (updO o (C.beh r g h)))) := by
  have l0 := leads_in hC er hl
  have hlt : l.toNat < T.length := (List.getElem?_eq_some_iff.mp eo).1
  have ob := beh_ok (g := g) hC er oh
  have oo : ∀ a, o = some a → HdOk C.P C.N a := fun a e => hT.ok l.toNat a (by rw [eo, e])
  have onew := updO_ok oo ob
  have hle : ∀ a, o = some a → leH (updO o (C.beh r g h)) a := fun a e => by subst e; exact meet_le1 ((oo a rfl).len.trans ob.len.symm)
  refine ⟨by rw [List.length_set]; exact hT.len, fun m t e => ?_, ?_, fun U hU m t e => ?_⟩
  · rw [List.getElem?_set] at e
    split at e
    · injection e with e; injection e with e; rw [← e]; exact onew
    · exact hT.ok m t e
  · obtain ⟨f, e, lf⟩ := hT.fst
    rw [List.getElem?_set]
    by_cases c : l.toNat = 0
    · rw [if_pos c, if_pos (by omega)]
      rw [c, e] at eo
      refine ⟨_, rfl, (hle f ?_).trans lf⟩
      injection eo with eo
      exact eo.symm
    · rw [if_neg c]
      exact ⟨f, e, lf⟩
  · rw [List.getElem?_set] at e
    by_cases c : l.toNat = m
    · rw [if_pos c, if_pos (by omega)] at e
      injection e with e; injection e with e
      subst c
      obtain ⟨t0, et, lt0⟩ := eh
      obtain ⟨u, eu, lu⟩ := hT.abv U hU n t0 et
      have hlU : l < C.rows.length := by rw [← hT.len]; omega
      obtain ⟨u2, eu2, lu2⟩ := hU.stp n r g u er eg eu l hl hlU
      refine ⟨u2, eu2, ?_⟩
      rw [← e]
      have h3 : leH u2 (C.beh r g h) := lu2.trans (hbeh_mono (lu.trans lt0))
      cases o with
      | none => exact h3
      | some a =>
        obtain ⟨u3, eu3, lu3⟩ := hT.abv U hU l.toNat a eo
        rw [eu2] at eu3
        cases eu3
        exact le_meet lu3 h3
    · rw [if_neg c] at e
      exact hT.abv U hU m t e
/-- what is met just once more changes nothing -/
theorem upd_same {C : Pc} {T : Tb} {l : Int} {o : Option Hd} {b : Hd} (eo : T[l.toNat]? = some o) (e : some (updO o b) = o) : T.set l.toNat (some (updO o b)) = T := by
  rw [e]
  refine List.ext_getElem? fun i => ?_
  rw [List.getElem?_set]
  split
  · rename_i c
    subst c
    rw [if_pos (List.getElem?_eq_some_iff.mp eo).1, eo]
  · rfl
end PG
end
section
set_option linter.all false
set_option autoImplicit false
set_option maxRecDepth 100003
namespace PG
open PF
structure Gi (C : Pc) (T : Tb) (Q : List Int) : Prop where
  tab : Tab C T
  qs : ∀ x ∈ Q, 0 ≤ x ∧ ∃ h, T[x.toNat]? = some (some h)
  pend : ∀ (n : Nat) (r : Row) (g : Grp) (h : Hd), C.rows[n]? = some r → C.gs[n]? = some g → T[n]? = some (some h) → (n : Int) ∉ Q → ∀ l ∈ leads n r, l < C.rows.length → ∃ h2, T[l.toNat]? = some (some h2) ∧ leH h2 (C.beh r g h)
structure Gm (C : Pc) (q : Nat) (r : Row) (g : Grp) (h : Hd) (done : List Int) (T : Tb) (Q : List Int) : Prop where
  tab : Tab C T
  qs : ∀ x ∈ Q, 0 ≤ x ∧ ∃ h, T[x.toNat]? = some (some h)
  dn : ∀ l ∈ done, l < C.rows.length → ∃ h2, T[l.toNat]? = some (some h2) ∧ leH h2 (C.beh r g h)
  pend : ∀ (n : Nat) (r' : Row) (g' : Grp) (h' : Hd), n ≠ q → C.rows[n]? = some r' → C.gs[n]? = some g' → T[n]? = some (some h') → (n : Int) ∉ Q → ∀ l ∈ leads n r', l < C.rows.length → ∃ h2, T[l.toNat]? = some (some h2) ∧ leH h2 (C.beh r' g' h')
  cur : (q : Int) ∈ Q ∨ T[q]? = some (some h)
  low : ∃ t, T[q]? = some (some t) ∧ leH t h
section
variable {C : Pc} {T : Tb} {Q done : List Int} {q : Nat} {r : Row} {g : Grp} {h : Hd} {l : Int} {o : Option Hd}
theorem Gi.start (G : Gi C T ((q : Int) :: Q)) (e : T[q]? = some (some h)) : Gm C q r g h [] T Q :=
  ⟨G.tab, fun x hx => G.qs x (List.mem_cons_of_mem _ hx), fun _ h => (nomatch h), fun n r' g' h' ne er eg eh hn => G.pend n r' g' h' er eg eh fun m => by
    rcases List.mem_cons.mp m with m | m
    · exact ne (by omega)
    · exact hn m, .inr e, ⟨h, e, .refl⟩⟩
theorem Gm.oob (hC : C.Ok) (G : Gm C q r g h done T Q) (oh : HdOk C.P C.N h) (er : C.rows[q]? = some r) (eo : T[l.toNat]? = some o) : leH (updO o (C.beh r g h)) (C.beh r g h) :=
  updO_le (P := C.P) (N := C.N) (fun a e => G.tab.ok l.toNat a (by rw [eo, e])) (beh_ok hC er oh)
theorem Gm.same (hC : C.Ok) (G : Gm C q r g h done T Q) (oh : HdOk C.P C.N h) (er : C.rows[q]? = some r) (eo : T[l.toNat]? = some o) (e : some (updO o (C.beh r g h)) = o) : Gm C q r g h (done ++ [l]) T Q :=
  ⟨G.tab, G.qs, fun m hm hlt => by
    rcases List.mem_append.mp hm with hm | hm
    · exact G.dn m hm hlt
    · have : m = l := by simpa using hm
      subst this
      exact ⟨_, eo.trans (congrArg some e.symm), G.oob hC oh er eo⟩, G.pend, G.cur, G.low⟩
theorem Gm.fin (G : Gm C q r g h (leads q r) T Q) (er : C.rows[q]? = some r) (eg : C.gs[q]? = some g) : Gi C T Q :=
  ⟨G.tab, G.qs, fun n r' g' h' er' eg' eh' hn l hl hlt => by
    by_cases c : n = q
    · subst c
      rw [er] at er'
      rw [eg] at eg'
      cases er'
      cases eg'
      rcases G.cur with m | e
      · exact absurd m hn
      · rw [e] at eh'
        cases eh'
        exact G.dn l hl hlt
    · exact G.pend n r' g' h' c er' eg' eh' hn l hl hlt⟩
end
end PG
end
section
set_option linter.all false
set_option autoImplicit false
set_option maxRecDepth 100003
namespace PG
open PF
/-- the case as a paper sees it -/
def pcOf (P N : Nat) (boxes : Int) (rows : List Row) (eaten : List Int) (c : Choice) : Pc := ⟨P, N, boxes, eaten, rows, c.groups, hd0 boxes N c.places⟩
theorem pcOf_ok {params boxes slots : Int} {P N : Nat} {rows : List Row} {eaten : List Int} {c : Choice} (hc : CaseOk params (P : Int) rows boxes slots eaten c) : (pcOf P N boxes rows eaten c).Ok :=
  ⟨hc.P.ok, hc.C.gn, hd0_ok (show c.places.length ≤ P by have := hc.C.pn; have := hc.P.pr; omega), hc.P.ln.1⟩
end PG
end
section
set_option linter.all false
set_option autoImplicit false
set_option maxRecDepth 100003
namespace PG
open PF
def pD (x : Int × Int) : D := .tup [.int x.1, .int x.2]
/-- the law's pairs tell what lies where -/
def PR (L : List (Int × Int)) (h : Hd) : Prop := L.Nodup ∧ ∀ p k, (p, k) ∈ L ↔ 0 ≤ p ∧ k ∈ h.getD p.toNat []
def flat (h : Hd) : List (Int × Int) := (List.range h.length).flatMap fun p => (h.getD p []).map fun k => ((p : Int), k)
def sw (a b p : Int) : Int := if p = a then b else if p = b then a else p
theorem sw_sw {a b p : Int} : sw a b (sw a b p) = p := by
  unfold sw
  by_cases h1 : p = a <;> by_cases h2 : p = b <;> simp [h1, h2] <;> (try omega) <;> (split <;> simp_all)
theorem turned {a b p : Int} : (dget (putAll [] [(.int a, .int b), (.int b, .int a)]) (.int p)).getD (.int p) = .int (sw a b p) := by
  unfold sw
  by_cases e : a = b
  · subst e
    have e1 : putAll [] [(D.int a, D.int a), (.int a, .int a)] = [(.int a, .int a)] := by simp [putAll, dput]
    rw [e1]
    by_cases e2 : p = a
    · subst e2; simp [dget]
    · simp [dget, e2, Ne.symm e2]
  · have e1 : putAll [] [(D.int a, D.int b), (.int b, .int a)] = [(.int a, .int b), (.int b, .int a)] := by simp [putAll, dput, e]
    rw [e1]
    by_cases e2 : p = a
    · subst e2; simp [dget]
    · by_cases e3 : p = b
      · subst e3; simp [dget, e2, Ne.symm e2]
      · simp [dget, e2, e3, Ne.symm e2, Ne.symm e3]
theorem PR.swap {L : List (Int × Int)} {h : Hd} {a b : Int} (hL : PR L h) (ha : In0 a h.length) (hb : In0 b h.length) : PR (L.map fun x => (sw a b x.1, x.2)) ((h.set a.toNat (h.getD b.toNat [])).set b.toNat (h.getD a.toNat [])) := by
  obtain ⟨a0, a1⟩ := ha
  obtain ⟨b0, b1⟩ := hb
  have inj : ∀ x y : Int × Int, (sw a b x.1, x.2) = (sw a b y.1, y.2) → x = y := fun x y e => by
    obtain ⟨e1, e2⟩ : sw a b x.1 = sw a b y.1 ∧ x.2 = y.2 := by simpa using e
    have := congrArg (sw a b) e1
    rw [sw_sw, sw_sw] at this
    exact Prod.ext this e2
  refine ⟨List.pairwise_map.mpr (hL.1.imp fun {x y} h e => h (inj x y e)), fun p k => ?_⟩
  · have e1 : (p, k) ∈ L.map (fun x => (sw a b x.1, x.2)) ↔ (sw a b p, k) ∈ L := by
      rw [List.mem_map]
      constructor
      · rintro ⟨x, hx, e⟩
        obtain ⟨rfl, rfl⟩ : sw a b x.1 = p ∧ x.2 = k := by simpa using e
        rw [sw_sw]
        exact hx
      · intro hx
        exact ⟨_, hx, by rw [sw_sw]⟩
    rw [e1, hL.2, getD_set, getD_set, List.length_set]
    unfold sw
    by_cases c1 : p = a
    · subst c1
      by_cases c2 : b = p
      · subst c2
        simp [a0, a1]
      · have c3 : ¬ b.toNat = p.toNat := by omega
        have : p.toNat < h.length := by omega
        simp [c3, a0, b0, this]
    · by_cases c2 : p = b
      · subst c2
        have : p.toNat < h.length := by omega
        simp [c1, a0, b0, this]
      · by_cases p0 : 0 ≤ p
        · have c3 : ¬ b.toNat = p.toNat := by omega
          have c4 : ¬ a.toNat = p.toNat := by omega
          simp [c1, c2, c3, c4]
        · simp [c1, c2, p0]
theorem PR.copy {L : List (Int × Int)} {h : Hd} {i j : Int} (hL : PR L h) (hi : In0 i h.length) (hj : 0 ≤ j) (ne : i ≠ j) : PR (L.filter (fun x => !(x.1 == i)) ++ (L.filter fun x => x.1 == j).map fun x => (i, x.2)) (h.set i.toNat (h.getD j.toNat [])) := by
  obtain ⟨i0, i1⟩ := hi
  refine ⟨?_, fun p k => ?_⟩
  · rw [List.nodup_append]
    have inj : ∀ x y : Int × Int, x ∈ L.filter (fun x => x.1 == j) → y ∈ L.filter (fun x => x.1 == j) → (i, x.2) = (i, y.2) → x = y := fun x y hx hy e => by
      have h1 : x.1 = j := by simpa using (List.mem_filter.mp hx).2
      have h2 : y.1 = j := by simpa using (List.mem_filter.mp hy).2
      have h3 : x.2 = y.2 := by simpa using e
      exact Prod.ext (h1.trans h2.symm) h3
    refine ⟨hL.1.filter _, List.pairwise_map.mpr ((hL.1.filter (fun x => x.1 == j)).imp_of_mem fun {x y} hx hy h e => h (inj x y hx hy e)), fun x hx y hy => ?_⟩
    · obtain ⟨z, _, rfl⟩ := List.mem_map.mp hy
      have h1 : x.1 ≠ i := by simpa using (List.mem_filter.mp hx).2
      intro e
      exact h1 (by rw [e])
  · have e1 : (p, k) ∈ (L.filter fun x => x.1 == j).map (fun x => (i, x.2)) ↔ i = p ∧ (j, k) ∈ L := by
      rw [List.mem_map]
      constructor
      · rintro ⟨x, hx, e⟩
        obtain ⟨rfl, rfl⟩ : i = p ∧ x.2 = k := by simpa using e
        have h1 : x.1 = j := by simpa using (List.mem_filter.mp hx).2
        refine ⟨rfl, ?_⟩
        rw [← h1]
        exact (List.mem_filter.mp hx).1
      · rintro ⟨rfl, hx⟩
        exact ⟨(j, k), List.mem_filter.mpr ⟨hx, by simp⟩, rfl⟩
    rw [List.mem_append, e1, List.mem_filter, hL.2, hL.2, getD_set]
    by_cases c : i = p
    · subst c
      have : i.toNat < h.length := by omega
      simp [this, i0, hj]
    · by_cases p0 : 0 ≤ p
      · have c3 : ¬ i.toNat = p.toNat := by omega
        simp [c, Ne.symm c, c3, p0]
      · simp [c, p0]
theorem PR.same {L : List (Int × Int)} {h : Hd} {i : Int} (hL : PR L h) : PR L (h.set i.toNat (h.getD i.toNat [])) := by
  refine ⟨hL.1, fun p k => ?_⟩
  rw [hL.2, getD_set]
  split
  · rename_i c
    rw [c.1]
  · rfl
end PG
end
section
set_option linter.all false
set_option autoImplicit false
set_option maxRecDepth 100003
namespace PG
open PF
theorem eatH_getD : ∀ {es : List Int} {h : Hd} {p : Nat}, (eatH es h).getD p [] = if ∃ e ∈ es, e.toNat = p then [] else h.getD p []
  | [], h, p => by simp [eatH]
  | e :: es, h, p => by
    show (eatH es (h.set e.toNat [])).getD p [] = _
    rw [eatH_getD, getD_set]
    by_cases c2 : e.toNat = p
    · have h1 : ∃ x ∈ e :: es, x.toNat = p := ⟨e, List.mem_cons_self, c2⟩
      rw [if_pos h1]
      split
      · rfl
      · split
        · rfl
        · rename_i c3
          exact getD_out fun z => c3 ⟨c2, z⟩
    · simp only [c2, false_and, if_false, List.mem_cons, exists_eq_or_imp, false_or]
theorem PR.make {L : List (Int × Int)} {h : Hd} {d b : Int} {es : List Int} {s : Bool} (hL : PR L h) (hb : In0 b h.length) (he : ∀ e ∈ es, 0 ≤ e) :
    PR (L.filter (fun x => !(x.2 == d) && !((b :: es).any (· == x.1))) ++ (if s then [(b, d)] else [])) ((eatH es (h.map fun t => t.filter fun x => !(x == d))).set b.toNat (if s then [d] else [])) := by
  obtain ⟨b0, b1⟩ := hb
  refine ⟨?_, fun p k => ?_⟩
  · rw [List.nodup_append]
    refine ⟨hL.1.filter _, by cases s <;> simp, fun x hx y hy => ?_⟩
    cases s
    · cases hy
    · have e : y = (b, d) := by simpa using hy
      subst e
      intro e
      subst e
      have := (List.mem_filter.mp hx).2
      simp at this
  · have e2 : ((eatH es (h.map fun t => t.filter fun x => !(x == d))).set b.toNat (if s then [d] else [])).getD p.toNat [] = if b.toNat = p.toNat then (if s then [d] else []) else if ∃ e ∈ es, e.toNat = p.toNat then [] else (h.getD p.toNat []).filter fun x => !(x == d) := by
      rw [getD_set, eatH_len, List.length_map, eatH_getD, getD_map rfl]
      by_cases c : b.toNat = p.toNat
      · rw [if_pos ⟨c, by omega⟩, if_pos c]
      · rw [if_neg (fun z => c z.1), if_neg c]
    have e3 : (p, k) ∈ (if s then [(b, d)] else []) ↔ s = true ∧ p = b ∧ k = d := by cases s <;> simp
    rw [e2, List.mem_append, e3, List.mem_filter, hL.2]
    by_cases p0 : 0 ≤ p
    · by_cases c : p = b
      · subst c
        simp [p0]
      · have c1 : ¬ b.toNat = p.toNat := by omega
        rw [if_neg c1]
        have e4 : (∃ e ∈ es, e.toNat = p.toNat) ↔ p ∈ es := by
          constructor
          · rintro ⟨e, h1, h2⟩
            have : e = p := by have := he e h1; omega
            exact this ▸ h1
          · intro h1
            exact ⟨p, h1, rfl⟩
        by_cases c2 : p ∈ es
        · rw [if_pos (e4.mpr c2)]
          simp [c, c2, Ne.symm c]
        · rw [if_neg (fun z => c2 (e4.mp z))]
          have : es.any (· == p) = false := by
            rw [Bool.eq_false_iff]
            exact fun z => c2 (mem_any.mp z)
          simp [c, p0, this, Ne.symm c]
    · simp [p0]
      intro _ h1
      omega
end PG
end
section
set_option linter.all false
set_option autoImplicit false
set_option maxRecDepth 100003
namespace PG
open PF
/-- the law's table tells T -/
def ent (S : Sto) (tr lo : Nat) : Option Hd → D → Prop
  | none, d => d = .non
  | some h, d => ∃ r, d = .ref r ∧ (r ≠ tr ∧ lo ≤ r) ∧ S[r]? = some (.lst ((flat h).map pD))
def LT (S : Sto) (tr lo : Nat) (T : Tb) (ds : List D) : Prop := ds.length = T.length ∧ ∀ (i : Nat) (o : Option Hd), T[i]? = some o → ∃ d, ds[i]? = some d ∧ ent S tr lo o d
theorem ent.keep {S S' : Sto} {tr lo : Nat} {o : Option Hd} {d : D} (k : Keep [tr] S S') (h : ent S tr lo o d) : ent S' tr lo o d := by
  cases o with
  | none => exact h
  | some x =>
    obtain ⟨r, e, ne, g⟩ := h
    exact ⟨r, e, ne, k.at g (by simp; exact ne.1)⟩
theorem LT.keep {S S' : Sto} {tr lo : Nat} {T : Tb} {ds : List D} (k : Keep [tr] S S') (h : LT S tr lo T ds) : LT S' tr lo T ds := ⟨h.1, fun i o e => by
  obtain ⟨d, e1, e2⟩ := h.2 i o e
  exact ⟨d, e1, e2.keep k⟩⟩
theorem LT.put {S : Sto} {tr lo : Nat} {T : Tb} {ds : List D} {i : Nat} {o : Option Hd} {d : D} (h : LT S tr lo T ds) (he : ent S tr lo o d) : LT S tr lo (T.set i o) (ds.set i d) := ⟨by rw [List.length_set, List.length_set]; exact h.1, fun j p e => by
  by_cases c : i = j
  · subst c
    have hlt : i < T.length := by have := (List.getElem?_eq_some_iff.mp e).1; simpa using this
    rw [List.getElem?_set_self hlt] at e
    cases e
    exact ⟨d, List.getElem?_set_self (by rw [h.1]; exact hlt), he⟩
  · rw [List.getElem?_set_ne c] at e
    rw [List.getElem?_set_ne c]
    exact h.2 j p e⟩
end PG
end
section
set_option linter.all false
set_option autoImplicit false
set_option maxRecDepth 100003
namespace PG
open PF
def Sat (C : Pc) (T : Tb) (k : Nat) : Prop := ∀ (n : Nat) (r : Row) (g : Grp) (h : Hd), n < k → C.rows[n]? = some r → C.gs[n]? = some g → T[n]? = some (some h) → ∀ l ∈ leads n r, l < C.rows.length → ∃ h2, T[l.toNat]? = some (some h2) ∧ leH h2 (C.beh r g h)
structure Sw (C : Pc) (T0 T : Tb) (b : Bool) (k : Nat) : Prop where
  tab : Tab C T
  w : b = true → wT C.P C.N T < wT C.P C.N T0
  eq : b = false → T = T0 ∧ Sat C T k
structure Si (C : Pc) (T0 T : Tb) (b : Bool) (n : Nat) (r : Row) (g : Grp) (h : Hd) (done : List Int) : Prop where
  tab : Tab C T
  w : b = true → wT C.P C.N T < wT C.P C.N T0
  eq : b = false → T = T0 ∧ Sat C T n ∧ T[n]? = some (some h) ∧ ∀ l ∈ done, l < C.rows.length → ∃ h2, T[l.toNat]? = some (some h2) ∧ leH h2 (C.beh r g h)
  low : ∃ t, T[n]? = some (some t) ∧ leH t h
section
variable {C : Pc} {T0 T : Tb} {b : Bool} {n k : Nat} {r : Row} {g : Grp} {h : Hd} {done : List Int} {l : Int} {o : Option Hd}
theorem Sw.start (t : Tab C T) : Sw C T T false 0 := ⟨t, (fun h => nomatch h), fun _ => ⟨rfl, fun n _ _ _ h => absurd h (Nat.not_lt_zero n)⟩⟩
theorem Si.out (S : Si C T0 T b n r g h (leads n r)) (er : C.rows[n]? = some r) (eg : C.gs[n]? = some g) : Sw C T0 T b (n + 1) := ⟨S.tab, S.w, fun hb => ⟨(S.eq hb).1, fun m r' g' h' hm er' eg' eh => by
  by_cases c : m = n
  · subst c
    rw [er] at er'
    rw [eg] at eg'
    rw [(S.eq hb).2.2.1] at eh
    cases er'
    cases eg'
    cases eh
    exact (S.eq hb).2.2.2
  · exact (S.eq hb).2.1 m r' g' h' (by omega) er' eg' eh⟩⟩
theorem Si.oob (S : Si C T0 T b n r g h done) (hl : ¬ l < (C.rows.length : Int)) : Si C T0 T b n r g h (done ++ [l]) := ⟨S.tab, S.w, fun hb => ⟨(S.eq hb).1, (S.eq hb).2.1, (S.eq hb).2.2.1, fun m hm hlt => by
  rcases List.mem_append.mp hm with hm | hm
  · exact (S.eq hb).2.2.2 m hm hlt
  · have : m = l := by simpa using hm
    exact absurd (this ▸ hlt) hl⟩, S.low⟩
theorem Si.step (hC : C.Ok) (S : Si C T0 T b n r g h done) (oh : HdOk C.P C.N h) (er : C.rows[n]? = some r) (eg : C.gs[n]? = some g) (hl : l ∈ leads n r) (eo : T[l.toNat]? = some o) :
    Si C T0 (T.set l.toNat (some (updO o (C.beh r g h)))) (b || !decide (some (updO o (C.beh r g h)) = o)) n r g h (done ++ [l]) := by
  have ob := beh_ok (g := g) hC er oh
  have oo : ∀ a, o = some a → HdOk C.P C.N a := fun a e => S.tab.ok l.toNat a (by rw [eo, e])
  have hlt : l.toNat < T.length := (List.getElem?_eq_some_iff.mp eo).1
  have low2 : ∃ t, (T.set l.toNat (some (updO o (C.beh r g h))))[n]? = some (some t) ∧ leH t h := by
    obtain ⟨t, e, lt⟩ := S.low
    by_cases c : l.toNat = n
    · subst c
      rw [eo] at e
      refine ⟨_, List.getElem?_set_self hlt, ?_⟩
      have : o = some t := by injection e
      subst this
      exact (meet_le1 ((oo t rfl).len.trans ob.len.symm)).trans lt
    · exact ⟨t, by rw [List.getElem?_set_ne c]; exact e, lt⟩
  refine ⟨S.tab.step (h := h) (h0 := h) hC er eg S.low oh hl eo, fun hb => ?_, fun hb => ?_, low2⟩
  · by_cases e : some (updO o (C.beh r g h)) = o
    · rw [decide_eq_true e, Bool.not_true, Bool.or_false] at hb
      rw [upd_same (C := C) eo e]
      exact S.w hb
    · have hw := wT_set eo (updO_w oo ob e)
      cases b with
      | true => have := S.w rfl; omega
      | false => rw [← (S.eq rfl).1]; exact hw
  · rw [Bool.or_eq_false_iff] at hb
    have e : some (updO o (C.beh r g h)) = o := by simpa using hb.2
    rw [upd_same (C := C) eo e]
    obtain ⟨h1, h2, h3, h4⟩ := S.eq hb.1
    refine ⟨h1, h2, h3, fun m hm hmlt => ?_⟩
    rcases List.mem_append.mp hm with hm | hm
    · exact h4 m hm hmlt
    · have : m = l := by simpa using hm
      subst this
      exact ⟨_, eo.trans (congrArg some e.symm), updO_le oo ob⟩
end
end PG
end
section
set_option linter.all false
set_option autoImplicit false
set_option maxRecDepth 100003
namespace PG
open PF
/-- whether all of it lies in the other -/
def within (o : Option Hd) (b : Hd) : Bool := match o with
  | none => false
  | some a => decide (meetH a b = a)
end PG
end
section
set_option linter.all false
set_option autoImplicit false
set_option maxRecDepth 100003
namespace PF
end PF
namespace PG
open PF
def isAsk : Row → Bool
  | .say _ => true
  | .ife _ _ => true
  | _ => false
end PG
end
section
set_option linter.all false
set_option autoImplicit false
set_option maxRecDepth 100003
namespace PG
open PF
theorem ask_in5 {S : Sto} {x : E} {ρ : Env} {r : Row} {Q : D → Sto → Prop} (hx : ∀ (Q : D → Sto → Prop), wp (x ρ S) Q = Q r.D S) : wp (e2 gIn (e2 gIx x (eC (.int 0))) (eTup (aCons (eC (.str z_say)) (aCons (eC (.str z_if)) (aNil)))) ρ S) Q = Q (.bl (isAsk r)) S := by
  cases r with
  | op o _ _ _ => cases o <;> (simp only [w_e2, hx]; (simp_arith [v_in, v_notIn, inB, D.scal, inTree, tree_strlit, allSome, List.all_cons, List.all_nil, List.any_cons, List.any_nil, J.eqv, List.cons_beq_cons, cons_beq_nil, nil_beq_cons, Nat.reduceBEq, Nat.reduceLT, Bool.and_self, BEq.rfl, w_slice, w_osome, w_onone, gslN, cutB1, cutB2, cutB3, cutA1, cutA2, cutA3, cutA4, b2iF, b2iT, Row.D, at0, Op3.s]); rfl)
  | _ => simp only [w_e2, hx]; (simp_arith [v_in, v_notIn, inB, D.scal, inTree, tree_strlit, allSome, List.all_cons, List.all_nil, List.any_cons, List.any_nil, J.eqv, List.cons_beq_cons, cons_beq_nil, nil_beq_cons, Nat.reduceBEq, Nat.reduceLT, Bool.and_self, BEq.rfl, w_slice, w_osome, w_onone, gslN, cutB1, cutB2, cutB3, cutA1, cutA2, cutA3, cutA4, b2iF, b2iT, Row.D, at0]); rfl
end PG
end
section
set_option linter.all false
set_option autoImplicit false
set_option maxRecDepth 100003
namespace PG
open PF
abbrev Itm := Int × Hd × List Bool
/-- the rows behind a row, with their ways -/
def nxt (n : Int) (ws : List Bool) : Row → List (Int × List Bool)
  | .fin => []
  | .go t => [(t, ws)]
  | .ife _ t => [(n + 1, ws ++ [false]), (t, ws ++ [true])]
  | _ => [(n + 1, ws)]
structure Cq where
  M : List (Int × Hd)
  L : List Itm
def put1 (len : Int) (b : Hd) (q : Cq) (x : Int × List Bool) : Cq := if x.1 < len ∧ (x.1, b) ∉ q.M then ⟨q.M ++ [(x.1, b)], q.L ++ [(x.1, b, x.2)]⟩ else q
def lev (C : Pc) : List Itm → Cq → Except (List Bool × Int) Cq
  | [], q => .ok q
  | x :: xs, q => match C.rows[x.1.toNat]?, C.gs[x.1.toNat]? with
    | some r, some g => if (isAsk r && !sameH r g (mvs C.boxes x.2.1 g.ahead)) = true then .error (x.2.2, x.1) else lev C xs ((nxt x.1 x.2.2 r).foldl (put1 C.rows.length (C.beh r g x.2.1)) q)
    | _, _ => .ok q
def bfs (C : Pc) (lim : Nat) : Nat → List Itm → List (Int × Hd) → Option (Option (List Bool × Int))
  | 0, _, _ => none
  | n + 1, L, M => if L = [] then some none else if M.length + 2 * L.length ≤ lim then match lev C L ⟨M, []⟩ with
      | .error e => some (some e)
      | .ok q => bfs C lim n q.L q.M
    else none
theorem plain_ints : ∀ s : List Int, D.plains (s.map D.int) = true
  | [] => rfl
  | i :: s => by
    show (D.plain (.int i) && D.plains (s.map D.int)) = true
    rw [plain_ints s]
    rfl
theorem deep_ints : ∀ s : List Int, D.deeps (s.map D.int) = 0
  | [] => rfl
  | i :: s => by
    show max (D.deep (.int i)) (D.deeps (s.map D.int)) = 0
    rw [deep_ints s]
    rfl
theorem dry_ints : ∀ s : List Int, D.drys (s.map D.int) = true
  | [] => rfl
  | i :: s => by
    show (D.dry (.int i) && D.drys (s.map D.int)) = true
    rw [dry_ints s]
    rfl
theorem hD_facts : ∀ h : Hd, D.plains (h.map sD) = true ∧ D.deeps (h.map sD) ≤ 1 ∧ D.drys (h.map sD) = true
  | [] => ⟨rfl, Nat.zero_le _, rfl⟩
  | s :: h => by
    obtain ⟨h1, h2, h3⟩ := hD_facts h
    refine ⟨?_, ?_, ?_⟩
    · show (D.plain (sD s) && D.plains (h.map sD)) = true
      rw [h1]
      show (D.plains (s.map D.int) && true) = true
      rw [plain_ints]
      rfl
    · show max (D.deep (sD s)) (D.deeps (h.map sD)) ≤ 1
      have : D.deep (sD s) = 1 := by
        show D.deeps (s.map D.int) + 1 = 1
        rw [deep_ints]
      omega
    · show (D.dry (sD s) && D.drys (h.map sD)) = true
      rw [h3]
      show (D.drys (s.map D.int) && true) = true
      rw [dry_ints]
      rfl
def kxK (x : Int × Hd) : D := .tup [.int x.1, hD x.2]
def kxD (x : Int × Hd) : D × D := (kxK x, .bl true)
theorem kx_key (x : Int × Hd) : keyT (kxK x) = true := by
  obtain ⟨h1, h2, h3⟩ := hD_facts x.2
  have p : (kxK x).plain = true := by
    show (D.plain (.int x.1) && (D.plain (hD x.2) && true)) = true
    have : D.plain (hD x.2) = true := h1
    rw [this]
    rfl
  have d : (kxK x).deep ≤ 8 := by
    show max (D.deep (.int x.1)) (max (D.deep (hD x.2)) 0) + 1 ≤ 8
    have e : D.deep (hD x.2) = D.deeps (x.2.map sD) + 1 := rfl
    have e0 : D.deep (.int x.1) = 0 := rfl
    rw [e, e0]
    omega
  have y : (kxK x).dry = true := by
    show (D.dry (.int x.1) && (D.dry (hD x.2) && true)) = true
    have : D.dry (hD x.2) = true := h3
    rw [this]
    rfl
  unfold keyT tupK
  rw [p, y, decide_eq_true d]
  rfl
theorem int_inj {a b : Int} (h : D.int a = D.int b) : a = b := by injection h
theorem sD_inj {a b : List Int} (h : sD a = sD b) : a = b := by
  unfold sD at h
  injection h with h
  exact PF.map_inj (fun _ _ => int_inj) h
theorem kx_inj {x y : Int × Hd} (h : kxK x = kxK y) : x = y := by
  unfold kxK at h
  injection h with h
  simp only [List.cons.injEq, and_true] at h
  obtain ⟨h1, h2⟩ := h
  unfold hD at h2
  injection h2 with h2
  exact Prod.ext (int_inj h1) (PF.map_inj (fun _ _ => sD_inj) h2)
theorem kx_get {M : List (Int × Hd)} {x : Int × Hd} : (dget (M.map kxD) (kxK x)).isSome = decide (x ∈ M) := by
  unfold dget
  rw [Option.isSome_map]
  induction M with
  | nil => rfl
  | cons y M ih =>
    rw [List.map_cons, List.find?_cons]
    by_cases c : y = x
    · subst c
      rw [decide_eq_true (show (kxD y).1 = kxK y from rfl)]
      simp
    · rw [decide_eq_false (show ¬ (kxD y).1 = kxK x from fun e => c (kx_inj e))]
      dsimp only
      rw [ih]
      refine decide_eq_decide.mpr ⟨fun h => List.mem_cons_of_mem _ h, fun h => ?_⟩
      rcases List.mem_cons.mp h with e | h
      · exact absurd e.symm c
      · exact h
def ItRel (S : Sto) (mr : Nat) (L : List Itm) (ds : List D) : Prop := ds.length = L.length ∧ ∀ (i : Nat) (x : Itm), L[i]? = some x → ∃ wr, ds[i]? = some (.tup [.int x.1, hD x.2.1, .ref wr]) ∧ S[wr]? = some (.lst (x.2.2.map .bl)) ∧ wr ≠ mr
theorem ItRel.keep {S S' : Sto} {mr md : Nat} {L : List Itm} {ds : List D} {kvs : List (D × D)} (h : ItRel S mr L ds) (k : Keep [md, mr] S S') (gd : S[md]? = some (.dit kvs)) : ItRel S' mr L ds := by
  refine ⟨h.1, fun i x e => ?_⟩
  obtain ⟨wr, h1, h2, h3⟩ := h.2 i x e
  refine ⟨wr, h1, k.at h2 ?_, h3⟩
  simp only [List.mem_cons, List.not_mem_nil, or_false, not_or]
  exact ⟨fun e => (by rw [e, gd] at h2; cases h2), h3⟩
theorem ItRel.snoc {S : Sto} {mr wr : Nat} {L : List Itm} {ds : List D} {x : Itm} (h : ItRel S mr L ds) (g : S[wr]? = some (.lst (x.2.2.map .bl))) (ne : wr ≠ mr) : ItRel S mr (L ++ [x]) (ds ++ [.tup [.int x.1, hD x.2.1, .ref wr]]) := by
  refine ⟨by simp [h.1], fun i y e => ?_⟩
  by_cases c : i < L.length
  · rw [List.getElem?_append_left c] at e
    obtain ⟨w, h1, h2, h3⟩ := h.2 i y e
    exact ⟨w, by rw [List.getElem?_append_left (by rw [h.1]; exact c)]; exact h1, h2, h3⟩
  · rw [List.getElem?_append_right (by omega)] at e
    cases hi : i - L.length with
    | zero =>
      rw [hi] at e
      cases e
      exact ⟨wr, by rw [List.getElem?_append_right (by rw [h.1]; omega), h.1, hi]; rfl, g, ne⟩
    | succ j => rw [hi] at e; simp at e
structure CqRel (S : Sto) (md mr : Nat) (q : Cq) : Prop where
  m : S[md]? = some (.dit (q.M.map kxD))
  l : ∃ ds, S[mr]? = some (.lst ds) ∧ ItRel S mr q.L ds
/-- what lies behind -/
def NxRel (S : Sto) (mr : Nat) (xs : List (Int × List Bool)) (ds : List D) : Prop := ds.length = xs.length ∧ ∀ (i : Nat) (x : Int × List Bool), xs[i]? = some x → ∃ wr, ds[i]? = some (.tup [.int x.1, .ref wr]) ∧ S[wr]? = some (.lst (x.2.map .bl)) ∧ wr ≠ mr
theorem NxRel.keep {S S' : Sto} {mr md : Nat} {L : List (Int × List Bool)} {ds : List D} {kvs : List (D × D)} (h : NxRel S mr L ds) (k : Keep [md, mr] S S') (gd : S[md]? = some (.dit kvs)) : NxRel S' mr L ds := by
  refine ⟨h.1, fun i x e => ?_⟩
  obtain ⟨wr, h1, h2, h3⟩ := h.2 i x e
  refine ⟨wr, h1, k.at h2 ?_, h3⟩
  simp only [List.mem_cons, List.not_mem_nil, or_false, not_or]
  exact ⟨fun e => (by rw [e, gd] at h2; cases h2), h3⟩
theorem behind_row_spec {S : Sto} {params names n : Int} {rows : List Row} {r : Row} {ws : List Bool} {wr mr : Nat} (h0 : 0 ≤ n) (er : rows[n.toNat]? = some r) (gw : S[wr]? = some (.lst (ws.map .bl))) (nw : wr ≠ mr) (hm : mr < S.length) (hl : ws.length < 1000000) :
    wp (f_behind_row [progD params names rows, .int n, .ref wr] S) fun d S' => ∃ lr ds, d = .ref lr ∧ S'[lr]? = some (.lst ds) ∧ (r.isFin = false → NxRel S' mr (nxt n ws r) ds) ∧ S.length ≤ lr ∧ Keep [] S S' := by
  have fp : progD params names rows = .tup [.int params, .int names, .tup (rows.map Row.D)] := rfl
  have p2 : ∀ (S : Sto) (Q : D → Sto → Prop), wp (gIx (progD params names rows) (.int 2) S) Q = Q (.tup (rows.map Row.D)) S := fun S Q => by simp_arith [fp, at_2]
  have ea := at_rows h0 er
  unfold f_behind_row b_behind_row
  rw [w_fn]
  refine ⟨by simp, ?_⟩
  simp only [List.map_cons, List.map_nil, List.length_cons, List.length_nil, Nat.zero_add, Nat.reduceAdd, Nat.reduceSub, List.replicate_succ, List.replicate_zero, List.cons_append, List.nil_append]
  rw [w_seq]
  simp only [w_set, w_e2, w_c, v_var, List.getElem?_cons_succ, List.getElem?_cons_zero, on_some, p2, v_ixT, ea, List.set_cons_succ, List.set_cons_zero]
  have fin1 : ∀ l : Int, (r.isFin = false → nxt n ws r = [(l, ws)]) → ∃ lr ds, D.ref S.length = .ref lr ∧ (S ++ [MO.lst [.tup [.int l, .ref wr]]])[lr]? = some (.lst ds) ∧ (r.isFin = false → NxRel (S ++ [MO.lst [.tup [.int l, .ref wr]]]) mr (nxt n ws r) ds) ∧ S.length ≤ lr ∧ Keep [] S (S ++ [MO.lst [.tup [.int l, .ref wr]]]) := fun l e => by
    refine ⟨S.length, _, rfl, get_last, fun hf => ?_, Nat.le_refl _, .app⟩
    rw [e hf]
    refine ⟨rfl, fun i x hx => ?_⟩
    cases i with
    | zero => cases hx; exact ⟨wr, rfl, get_app gw, nw⟩
    | succ i => simp at hx
  rw [w_seq]
  simp only [w_sif, w_te, w_e2, w_c, v_var, List.getElem?_cons_succ, List.getElem?_cons_zero, on_some, row_w, w_eqS, ex_bl]
  cases hif : (r.w == z_if) with
  | false =>
    rw [if_neg (by decide), w_next]
    dsimp only
    simp only [w_ret, w_lst, w_cons, w_nil, w_tup, w_if, w_te, w_e2, w_c, v_var, List.getElem?_cons_succ, List.getElem?_cons_zero, on_some, row_w, w_eqS, ex_bl]
    have rest : (r.w == z_go) = false → (r.isFin = false → nxt n ws r = [(n + 1, ws)]) → ∀ Q : D → Sto → Prop, (∀ d S', (∃ lr ds, d = .ref lr ∧ S'[lr]? = some (.lst ds) ∧ (r.isFin = false → NxRel S' mr (nxt n ws r) ds) ∧ S.length ≤ lr ∧ Keep [] S S') → Q d S') → (if (r.w == z_go) = true then wp (gIx r.D (.int 1) S) fun x S_1 => Q (.ref S_1.length) (S_1 ++ [.lst [.tup [x, .ref wr]]]) else wp (gAdd (.int n) (.int 1) S) fun x S_1 => Q (.ref S_1.length) (S_1 ++ [.lst [.tup [x, .ref wr]]])) := fun e e2 Q hQ => by
      rw [e, if_neg (by decide), w_add]
      exact hQ _ _ (fin1 (n + 1) e2)
    have go : ∀ t, r = .go t → ∀ Q : D → Sto → Prop, (∀ d S', (∃ lr ds, d = .ref lr ∧ S'[lr]? = some (.lst ds) ∧ (r.isFin = false → NxRel S' mr (nxt n ws r) ds) ∧ S.length ≤ lr ∧ Keep [] S S') → Q d S') → (if (r.w == z_go) = true then wp (gIx r.D (.int 1) S) fun x S_1 => Q (.ref S_1.length) (S_1 ++ [.lst [.tup [x, .ref wr]]]) else wp (gAdd (.int n) (.int 1) S) fun x S_1 => Q (.ref S_1.length) (S_1 ++ [.lst [.tup [x, .ref wr]]])) := fun t e Q hQ => by
      subst e
      have e : (Row.w (.go t) == z_go) = true := rfl
      rw [e, if_pos rfl, show (Row.go t).D = .tup [D.str z_go, .int t] from rfl, w_ixT (ds := [D.str z_go, .int t]) (i := 1) (d := .int t) rfl]
      exact hQ _ _ (fin1 t fun _ => rfl)
    cases r with
    | go t => exact go t rfl _ fun d S' h => h
    | ife a t => exact absurd hif (by simp [Row.w])
    | op o a b c => exact rest (by cases o <;> rfl) (fun _ => rfl) _ fun d S' h => h
    | fin => exact rest rfl (fun h => by cases h) _ fun d S' h => h
    | put _ _ => exact rest rfl (fun _ => rfl) _ fun d S' h => h
    | copy _ _ => exact rest rfl (fun _ => rfl) _ fun d S' h => h
    | call _ _ => exact rest rfl (fun _ => rfl) _ fun d S' h => h
    | say _ => exact rest rfl (fun _ => rfl) _ fun d S' h => h
  | true =>
    rw [if_pos rfl]
    obtain ⟨a, t, rfl⟩ : ∃ a t, r = .ife a t := by
      cases r with
      | ife a t => exact ⟨a, t, rfl⟩
      | op o _ _ _ => cases o <;> cases hif
      | _ => cases hif
    have lw := lt_of_get gw
    simp only [w_ret, w_lst, w_cons, w_nil, w_tup, w_e2, w_c, v_var, List.getElem?_cons_succ, List.getElem?_cons_zero, on_some, w_add]
    have g1 : (S ++ [MO.lst [D.bl false]])[S.length]? = some (.lst [D.bl false]) := get_last
    have gw1 := get_app (U := [MO.lst [D.bl false]]) gw
    rw [w_addL, wrOf_lst gw1, on_some, wrOf_lst g1, on_some]
    refine ⟨by simp; unfold LIM; omega, ?_⟩
    have n1 : (S ++ [MO.lst [D.bl false]]).length ≠ mr := by simp; omega
    have g2 : ((S ++ [MO.lst [D.bl false]]) ++ [MO.lst (ws.map D.bl ++ [D.bl false])])[(S ++ [MO.lst [D.bl false]]).length]? = some (.lst ((ws ++ [false]).map .bl)) := by rw [get_last]; simp
    have gw2 := get_app (U := [MO.lst (ws.map D.bl ++ [D.bl false])]) gw1
    have k2 : Keep [] S ((S ++ [MO.lst [D.bl false]]) ++ [MO.lst (ws.map D.bl ++ [D.bl false])]) := Keep.app.trans .app
    generalize (S ++ [MO.lst [D.bl false]]).length = r1 at *
    generalize ((S ++ [MO.lst [D.bl false]]) ++ [MO.lst (ws.map D.bl ++ [D.bl false])]) = S2 at *
    have hS2 := k2.len
    rw [show (Row.ife a t).D = .tup [D.str z_if, .int a, .int t] from rfl, w_ixT (ds := [D.str z_if, .int a, .int t]) (i := 2) (d := .int t) rfl]
    have g3 : (S2 ++ [MO.lst [D.bl true]])[S2.length]? = some (.lst [D.bl true]) := get_last
    have gw3 := get_app (U := [MO.lst [D.bl true]]) gw2
    rw [w_addL, wrOf_lst gw3, on_some, wrOf_lst g3, on_some]
    refine ⟨by simp; unfold LIM; omega, ?_⟩
    have n2 : (S2 ++ [MO.lst [D.bl true]]).length ≠ mr := by simp; omega
    have g4 : ((S2 ++ [MO.lst [D.bl true]]) ++ [MO.lst (ws.map D.bl ++ [D.bl true])])[(S2 ++ [MO.lst [D.bl true]]).length]? = some (.lst ((ws ++ [true]).map .bl)) := by rw [get_last]; simp
    have g24 := get_app (U := [MO.lst (ws.map D.bl ++ [D.bl true])]) (get_app (U := [MO.lst [D.bl true]]) g2)
    have k4 : Keep [] S ((S2 ++ [MO.lst [D.bl true]]) ++ [MO.lst (ws.map D.bl ++ [D.bl true])]) := (k2.trans .app).trans .app
    generalize (S2 ++ [MO.lst [D.bl true]]).length = r2 at *
    generalize ((S2 ++ [MO.lst [D.bl true]]) ++ [MO.lst (ws.map D.bl ++ [D.bl true])]) = S4 at *
    refine ⟨S4.length, _, rfl, get_last, fun _ => ⟨rfl, fun i x hx => ?_⟩, k4.len, k4.trans .app⟩
    cases i with
    | zero => cases hx; exact ⟨r1, rfl, get_app g24, n1⟩
    | succ i =>
      cases i with
      | zero => cases hx; exact ⟨r2, rfl, get_app g4, n2⟩
      | succ i => simp [nxt] at hx
end PG
end
section
set_option linter.all false
set_option autoImplicit false
set_option maxRecDepth 100003
namespace PG
open PF
theorem ditOf_dit {S : Sto} {n : Nat} {kvs : List (D × D)} (h : S[n]? = some (.dit kvs)) : ditOf n S = some kvs := by unfold ditOf; rw [h]
theorem w_notInT {S : Sto} {P : D → Sto → Prop} {n : Nat} {M : List (Int × Hd)} {x : Int × Hd} (h : S[n]? = some (.dit (M.map kxD))) : wp (gNotInT (kxK x) (.ref n) S) P = P (.bl (!decide (x ∈ M))) S := by
  unfold gNotInT
  simp only [ditOf_dit h, kx_key, if_true, wp_ok, kx_get]
theorem setDit_new {S : Sto} {n : Nat} {M : List (Int × Hd)} {x : Int × Hd} (h : S[n]? = some (.dit (M.map kxD))) (hn : x ∉ M) (hl : M.length < LIM) : setDit (.ref n) (kxK x) (.bl true) S = some (S.set n (.dit ((M ++ [x]).map kxD))) := by
  unfold setDit
  have e : dget (M.map kxD) (kxK x) = none := by
    have := kx_get (M := M) (x := x)
    rw [decide_eq_false hn] at this
    cases hx : dget (M.map kxD) (kxK x) with
    | none => rfl
    | some _ => rw [hx] at this; cases this
  simp only [ditOf_dit h]
  rw [if_pos ⟨kx_key x, trivial, by rw [List.length_map]; exact hl, e⟩, List.map_append]
  rfl
theorem w_sdit {S : Sto} {ρ : Env} {Z : Fl × Env → Sto → Prop} {o i v : E} : wp (sDit o i v ρ S) Z = wp (v ρ S) fun x S => wp (o ρ S) fun a S => wp (i ρ S) fun k S => on (setDit a k x S) fun S1 => Z (.nx, ρ) S1 := by
  unfold sDit
  rw [wp_bind]
  congr
  funext x S
  rw [wp_bind]
  congr
  funext a S
  rw [wp_bind]
  congr
  funext k S
  cases setDit a k x S with
  | none => rw [wp_bad, on_none]
  | some S1 => rw [wp_ok, on_some]
def stPut : St := sIf (PF.tAnd (tE (e2 gLt (eVar 13) (eCall fLen (aCons (e2 gIx (eVar 0) (eC (.int 2))) (aNil))))) (tE (e2 gNotInT (eTup (aCons (eVar 13) (aCons (eVar 12) (aNil)))) (eVar 5)))) (sSeq (sDit (eVar 5) (eTup (aCons (eVar 13) (aCons (eVar 12) (aNil)))) (eC (.bl true)))
  (sExpr (eM1 mAppend (eVar 6) (eTup (aCons (eVar 13) (aCons (eVar 12) (aCons (eVar 14) (aNil)))))))) (sNext)
theorem put_spec {S : Sto} {params names l : Int} {rows : List Row} {b : Hd} {q : Cq} {lw : List Bool} {md mr w2 : Nat} {d1 d2 d3 d4 d7 d8 d9 d10 d11 : Option D} (hq : CqRel S md mr q) (gw : S[w2]? = some (.lst (lw.map .bl))) (nw : w2 ≠ mr) (hM : q.M.length < LIM) (hL : q.L.length < LIM) :
    wp (stPut [some (progD params names rows), d1, d2, d3, d4, some (.ref md), some (.ref mr), d7, d8, d9, d10, d11, some (hD b), some (.int l), some (.ref w2)] S) fun z S' => z = (.nx, [some (progD params names rows), d1, d2, d3, d4, some (.ref md), some (.ref mr), d7, d8, d9, d10, d11, some (hD b), some (.int l), some (.ref w2)]) ∧ CqRel S' md mr (put1 rows.length b q (l, lw)) ∧ Keep [md, mr] S S' := by
  have fp : progD params names rows = .tup [.int params, .int names, .tup (rows.map Row.D)] := rfl
  have p2 : ∀ (S : Sto) (Q : D → Sto → Prop), wp (gIx (progD params names rows) (.int 2) S) Q = Q (.tup (rows.map Row.D)) S := fun S Q => by simp_arith [fp, at_2]
  obtain ⟨gM, ds, gL, hL2⟩ := id hq
  have nmd : md ≠ mr := fun e => by rw [e, gL] at gM; cases gM
  have ek : D.tup [.int l, hD b] = kxK (l, b) := rfl
  unfold stPut put1
  simp only [w_sif, w_tand, w_te, w_e2, w_call, w_cons, w_nil, w_c, w_tup, v_var, List.getElem?_cons_succ, List.getElem?_cons_zero, on_some, p2, w_lenT, List.length_map, w_lt, ex_bl, ek, w_notInT gM]
  by_cases c1 : l < (rows.length : Int)
  · rw [decide_eq_true c1, if_pos rfl]
    by_cases c2 : (l, b) ∈ q.M
    · rw [decide_eq_true c2, if_neg (by decide), w_next, if_neg (fun h => h.2 c2)]
      exact ⟨by first | trivial | rfl, hq, .refl⟩
    · rw [decide_eq_false c2, if_pos (by decide), if_pos ⟨c1, c2⟩, w_seq]
      simp only [w_sdit, w_c, w_tup, w_cons, w_nil, v_var, List.getElem?_cons_succ, List.getElem?_cons_zero, on_some, ek, setDit_new gM c2 hM]
      have g1 : (S.set md (.dit ((q.M ++ [(l, b)]).map kxD)))[md]? = some (.dit ((q.M ++ [(l, b)]).map kxD)) := get_set (lt_of_get gM)
      have gL1 : (S.set md (.dit ((q.M ++ [(l, b)]).map kxD)))[mr]? = some (.lst ds) := get_ne gL nmd
      have k1 : Keep [md, mr] S (S.set md (.dit ((q.M ++ [(l, b)]).map kxD))) := .set (by simp)
      have hI1 := hL2.keep k1 gM
      have nwd : w2 ≠ md := fun e => by rw [e, gM] at gw; cases gw
      have gw1 : (S.set md (.dit ((q.M ++ [(l, b)]).map kxD)))[w2]? = some (.lst (lw.map .bl)) := get_ne gw (Ne.symm nwd)
      generalize S.set md (.dit ((q.M ++ [(l, b)]).map kxD)) = S1 at *
      simp only [w_expr, v_m1, w_tup, w_cons, w_nil, v_var, List.getElem?_cons_succ, List.getElem?_cons_zero, on_some, isL_lst gL1, true_and, v_append, wrOf_lst gL1]
      have k2 : Keep [md, mr] S1 (S1.set mr (.lst (ds ++ [.tup [.int l, hD b, .ref w2]]))) := .set (by simp)
      refine ⟨by rw [hL2.1]; exact hL, ⟨?_, _, get_set (lt_of_get gL1), ?_⟩, k1.trans k2⟩
      · exact get_ne g1 (Ne.symm nmd)
      · exact (hI1.snoc (x := (l, b, lw)) gw1 nw).keep k2 g1
  · rw [decide_eq_false c1, if_neg (by decide), if_neg (by decide), w_next, if_neg (fun h => c1 h.1)]
    exact ⟨by first | trivial | rfl, hq, .refl⟩
theorem put1_len {len : Int} {b : Hd} {q : Cq} {x : Int × List Bool} : (put1 len b q x).M.length ≤ q.M.length + 1 ∧ (put1 len b q x).L.length ≤ q.L.length + 1 := by
  unfold put1
  split
  · simp
  · exact ⟨by omega, by omega⟩
/-- all rows behind a row -/
theorem puts_spec {S : Sto} {params names : Int} {rows : List Row} {b : Hd} {q : Cq} {xs : List (Int × List Bool)} {ds : List D} {md mr nr : Nat} {d1 d2 d3 d4 d7 d8 d9 d10 d11 d13 d14 : Option D} (hq : CqRel S md mr q) (gn : S[nr]? = some (.lst ds)) (hx : NxRel S mr xs ds) (nn : nr ≠ mr) (hM : q.M.length + xs.length < LIM) (hL : q.L.length + xs.length < LIM) :
    wp (forLoop ⟨[(nr, ds)], ds⟩ (PF.gTup [13, 14]) stPut ds [some (progD params names rows), d1, d2, d3, d4, some (.ref md), some (.ref mr), d7, d8, d9, d10, d11, some (hD b), d13, d14] S) fun z S' => (∃ c13 c14, z = (.nx, [some (progD params names rows), d1, d2, d3, d4, some (.ref md), some (.ref mr), d7, d8, d9, d10, d11, some (hD b), c13, c14])) ∧ CqRel S' md mr (xs.foldl (put1 rows.length b) q) ∧ Keep [md, mr] S S' := by
  have nnd : nr ≠ md := fun e => by rw [e, hq.m] at gn; cases gn
  refine wp_for (it := ⟨[(nr, ds)], ds⟩) (fun k ρ S' => (∃ c13 c14, ρ = [some (progD params names rows), d1, d2, d3, d4, some (.ref md), some (.ref mr), d7, d8, d9, d10, d11, some (hD b), c13, c14]) ∧ CqRel S' md mr ((xs.take k).foldl (put1 rows.length b) q) ∧ ((xs.take k).foldl (put1 rows.length b) q).M.length ≤ q.M.length + k ∧ ((xs.take k).foldl (put1 rows.length b) q).L.length ≤ q.L.length + k ∧ Keep [md, mr] S S') (fun k ρ S' h => by simp [Iter.same, lstOf_lst (h.2.2.2.2.at gn (by simp; exact ⟨nnd, nn⟩))]) ?_ ⟨⟨_, _, rfl⟩, hq, Nat.le_refl _, Nat.le_refl _, .refl⟩ ?_
  · rintro k x ρ S1 hxk ⟨⟨c13, c14, rfl⟩, hq1, hM1, hL1, k1⟩
    have hxk : ds[k]? = some x := hxk
    have hk : k < ds.length := (List.getElem?_eq_some_iff.mp hxk).1
    rw [hx.1] at hk
    have ex : xs[k]? = some xs[k] := List.getElem?_eq_getElem hk
    obtain ⟨wr, h1, h2, h3⟩ := (hx.keep k1 hq.m).2 k _ ex
    rw [hxk] at h1
    cases h1
    refine ⟨_, rfl, ?_⟩
    refine wp_mono (put_spec hq1 h2 h3 (by omega) (by omega)) ?_
    rintro _ S2 ⟨rfl, hq2, k2⟩
    have et : (xs.take (k + 1)).foldl (put1 rows.length b) q = put1 rows.length b ((xs.take k).foldl (put1 rows.length b) q) xs[k] := by
      rw [List.take_add_one, ex, List.foldl_append]
      rfl
    have hp := put1_len (len := rows.length) (b := b) (q := (xs.take k).foldl (put1 rows.length b) q) (x := xs[k])
    refine ⟨⟨_, _, rfl⟩, ?_, ?_, ?_, k1.trans k2⟩
    · rw [et]; exact hq2
    · rw [et]; omega
    · rw [et]; omega
  · rintro ρ S1 ⟨⟨c13, c14, rfl⟩, hq1, -, -, k1⟩
    have el : (Iter.mk [(nr, ds)] ds).all.length = xs.length := hx.1
    rw [el, List.take_length] at hq1
    exact ⟨⟨_, _, rfl⟩, hq1, k1⟩
theorem nxt_len {n : Int} {ws : List Bool} {r : Row} : (nxt n ws r).length ≤ 2 := by cases r <;> simp [nxt]
theorem nxt_mem {n : Int} {ws : List Bool} {r : Row} {x : Int × List Bool} (h : x ∈ nxt n ws r) : x.1 ∈ leads n r ∧ x.2.length ≤ ws.length + 1 := by
  cases r <;> simp only [nxt, leads, List.mem_cons, List.not_mem_nil, or_false] at h ⊢
  case ife a t => rcases h with rfl | rfl <;> simp
  all_goals (subst h; simp)
theorem leads_pos {n : Int} {r : Row} {P m l : Int} (hr : r.ok P m) (h0 : 0 ≤ n) (h : l ∈ leads n r) : 0 ≤ l := by
  cases r <;> simp only [leads, List.mem_cons, List.not_mem_nil, or_false] at h <;> simp only [Row.ok, In0] at hr
  case ife a t => rcases h with rfl | rfl <;> omega
  all_goals (subst h; omega)
end PG
end
section
set_option linter.all false
set_option autoImplicit false
set_option maxRecDepth 100003
namespace PG
open PF
def stItem : St := sSeq (sPar [10, 11] (aCons (e2 gIx (e2 gIx (eVar 0) (eC (.int 2))) (eVar 7)) (aCons (e2 gIx (e2 gIx (eVar 2) (eC (.int 1))) (eVar 7)) (aNil))))
  (sSeq (sIf (PF.tAnd (tE (e2 gIn (e2 gIx (eVar 10) (eC (.int 0))) (eTup (aCons (eC (.str z_say)) (aCons (eC (.str z_if)) (aNil)))))) (PF.tNot (tE (eCall f_is_handed (aCons (eVar 10) (aCons (eVar 11) (aCons (eVar 8) (aCons (eVar 1) (aNil))))))))) (sRet (eTup (aCons (eVar 9) (aCons (eVar 7) (aNil))))) (sNext))
  (sSeq (sSet 12 (eCall f_held_behind (aCons (eVar 10) (aCons (eVar 11) (aCons (eVar 8) (aCons (eVar 1) (aNil)))))))
  (sFor (iSeq (eIf (tE (e2 gNe (e2 gIx (eVar 10) (eC (.int 0))) (eC (.str z_end)))) (eCall f_behind_row (aCons (eVar 0) (aCons (eVar 7) (aCons (eVar 9) (aNil))))) (eLst (aNil)))) (PF.gTup [13, 14]) stPut)))
/-- an item that is right -/
def ItOk (C : Pc) (w : Nat) (x : Itm) : Prop := 0 ≤ x.1 ∧ x.1 < C.rows.length ∧ HdOk C.P C.N x.2.1 ∧ x.2.2.length ≤ w
theorem puts_len {len : Int} {b : Hd} : ∀ {xs : List (Int × List Bool)} {q : Cq}, (xs.foldl (put1 len b) q).M.length ≤ q.M.length + xs.length ∧ (xs.foldl (put1 len b) q).L.length ≤ q.L.length + xs.length
  | [], q => ⟨Nat.le_refl _, Nat.le_refl _⟩
  | x :: xs, q => by
    have h1 := put1_len (len := len) (b := b) (q := q) (x := x)
    have h2 := puts_len (len := len) (b := b) (xs := xs) (q := put1 len b q x)
    simp only [List.foldl_cons, List.length_cons]
    omega
theorem puts_ok {C : Pc} {w : Nat} {b : Hd} (hb : HdOk C.P C.N b) : ∀ {xs : List (Int × List Bool)} {q : Cq}, (∀ x ∈ xs, 0 ≤ x.1 ∧ x.2.length ≤ w) → (∀ y ∈ q.L, ItOk C w y) → ∀ y ∈ (xs.foldl (put1 C.rows.length b) q).L, ItOk C w y
  | [], q, _, hq, y, hy => hq y hy
  | x :: xs, q, hx, hq, y, hy => by
    refine puts_ok hb (xs := xs) (q := put1 C.rows.length b q x) (fun z hz => hx z (List.mem_cons_of_mem _ hz)) (fun z hz => ?_) y hy
    unfold put1 at hz
    split at hz
    · rename_i c
      rcases List.mem_append.mp hz with hz | hz
      · exact hq z hz
      · have e : z = (x.1, b, x.2) := by simpa using hz
        subst e
        have h := hx x List.mem_cons_self
        exact ⟨h.1, c.1, hb, h.2⟩
    · exact hq z hz
theorem item_spec {S : Sto} {params boxes slots n : Int} {P N : Nat} {rows : List Row} {eaten : List Int} {c : Choice} {h : Hd} {ws : List Bool} {q : Cq} {r : Row} {g : Grp} {md mr wr w : Nat} {d3 d4 d10 d11 d12 d13 d14 : Option D} (hc : CaseOk params (P : Int) rows boxes slots eaten c) (hN : (N : Int) = boxes + slots) (hx : ItOk (pcOf P N boxes rows eaten c) w (n, h, ws)) (er : rows[n.toNat]? = some r) (eg : c.groups[n.toNat]? = some g)
    (hq : CqRel S md mr q) (hqo : ∀ y ∈ q.L, ItOk (pcOf P N boxes rows eaten c) (w + 1) y) (gw : S[wr]? = some (.lst (ws.map .bl))) (nw : wr ≠ mr) (hM : q.M.length + 2 < LIM) (hL : q.L.length + 2 < LIM) (hw : w < 900000) :
    wp (stItem [some (progD params (P : Int) rows), some (frameD boxes slots eaten), some c.D, d3, d4, some (.ref md), some (.ref mr), some (.int n), some (hD h), some (.ref wr), d10, d11, d12, d13, d14] S) fun z S' => Keep [md, mr] S S' ∧
      if (isAsk r && !sameH r g (mvs boxes h g.ahead)) = true then z.1 = .rt (.tup [.ref wr, .int n]) else (∃ c10 c11 c12 c13 c14, z = (.nx, [some (progD params (P : Int) rows), some (frameD boxes slots eaten), some c.D, d3, d4, some (.ref md), some (.ref mr), some (.int n), some (hD h), some (.ref wr), c10, c11, c12, c13, c14])) ∧
        CqRel S' md mr ((nxt n ws r).foldl (put1 rows.length (hbeh eaten boxes h r g)) q) ∧ ∀ y ∈ ((nxt n ws r).foldl (put1 rows.length (hbeh eaten boxes h r g)) q).L, ItOk (pcOf P N boxes rows eaten c) (w + 1) y := by
  obtain ⟨hP, hF, hC, fit⟩ := id hc
  obtain ⟨h0, h1, ho, hwl⟩ := hx
  have h0 : 0 ≤ n := h0
  have hP8 : P ≤ 8 := by have := hP.nm; omega
  have hr := hP.ok r (List.mem_of_getElem? er)
  have hgo := hC.go _ r g er eg
  have fp : progD params (P : Int) rows = .tup [.int params, .int (P : Int), .tup (rows.map Row.D)] := rfl
  have p2 : ∀ (S : Sto) (Q : D → Sto → Prop), wp (gIx (progD params (P : Int) rows) (.int 2) S) Q = Q (.tup (rows.map Row.D)) S := fun S Q => by simp_arith [fp, at_2]
  have cp : c.D = .tup [.tup (c.places.map Pl.D), .tup (c.groups.map Grp.D)] := rfl
  have q1 : ∀ (S : Sto) (Q : D → Sto → Prop), wp (gIx c.D (.int 1) S) Q = Q (.tup (c.groups.map Grp.D)) S := fun S Q => by simp_arith [cp, at_1]
  have ag : at? (c.groups.map Grp.D) n = some g.D := by rw [at_lit n.toNat n (by omega), List.getElem?_map, eg]; rfl
  obtain ⟨gM, dsL, gLl, hL2⟩ := id hq
  have lmr := lt_of_get gLl
  unfold stItem
  rw [w_seq]
  simp only [v_par, w_cons, w_nil, w_e2, w_c, v_var, List.getElem?_cons_succ, List.getElem?_cons_zero, on_some, p2, q1, v_ixT, at_rows h0 er, ag, setAll, List.set_cons_succ, List.set_cons_zero]
  rw [w_seq, w_sif, w_tand, w_te, ask_in5 (r := r) (fun Q => w_var rfl)]
  simp only [ex_bl]
  have rest : ∀ S1, Keep [] S S1 → (isAsk r && !sameH r g (mvs boxes h g.ahead)) = false → wp (sSeq (sSet 12 (eCall f_held_behind (aCons (eVar 10) (aCons (eVar 11) (aCons (eVar 8) (aCons (eVar 1) (aNil)))))))
      (sFor (iSeq (eIf (tE (e2 gNe (e2 gIx (eVar 10) (eC (.int 0))) (eC (.str z_end)))) (eCall f_behind_row (aCons (eVar 0) (aCons (eVar 7) (aCons (eVar 9) (aNil))))) (eLst (aNil)))) (PF.gTup [13, 14]) stPut) [some (progD params (P : Int) rows), some (frameD boxes slots eaten), some c.D, d3, d4, some (.ref md), some (.ref mr), some (.int n), some (hD h), some (.ref wr), some r.D, some g.D, d12, d13, d14] S1)
      fun z S' => Keep [md, mr] S S' ∧
      if (isAsk r && !sameH r g (mvs boxes h g.ahead)) = true then z.1 = .rt (.tup [.ref wr, .int n]) else (∃ c10 c11 c12 c13 c14, z = (.nx, [some (progD params (P : Int) rows), some (frameD boxes slots eaten), some c.D, d3, d4, some (.ref md), some (.ref mr), some (.int n), some (hD h), some (.ref wr), c10, c11, c12, c13, c14])) ∧
        CqRel S' md mr ((nxt n ws r).foldl (put1 rows.length (hbeh eaten boxes h r g)) q) ∧ ∀ y ∈ ((nxt n ws r).foldl (put1 rows.length (hbeh eaten boxes h r g)) q).L, ItOk (pcOf P N boxes rows eaten c) (w + 1) y := by
    intro S1 k1 hf
    rw [w_seq]
    simp only [w_set, w_call, w_cons, w_nil, v_var, List.getElem?_cons_succ, List.getElem?_cons_zero, on_some]
    refine wp_mono (held_behind_spec hF hN hP8 hr hgo ho) ?_
    rintro _ S2 ⟨rfl, k2⟩
    simp only [List.set_cons_succ, List.set_cons_zero]
    have K2 := k1.trans k2
    have hok : HdOk (pcOf P N boxes rows eaten c).P (pcOf P N boxes rows eaten c).N (hbeh eaten boxes h r g) := hbeh_ok ho hr
    have hb := fun (x : Int × List Bool) (hx : x ∈ nxt n ws r) => nxt_mem hx
    have okx : ∀ x ∈ nxt n ws r, 0 ≤ x.1 ∧ x.2.length ≤ w + 1 := fun x hx => ⟨leads_pos hr h0 (hb x hx).1, by have := (hb x hx).2; have : ws.length ≤ w := hwl; omega⟩
    have hlx := nxt_len (n := n) (ws := ws) (r := r)
    have relS : ∀ S', Keep [] S S' → CqRel S' md mr q := fun S' k => ⟨k.at gM (by simp), dsL, k.at gLl (by simp), hL2.keep (k.mono (fun i _ h => nomatch h)) gM⟩
    have fin : ∀ (S3 : Sto) (nr : Nat) (ds : List D), Keep [] S S3 → S3[nr]? = some (.lst ds) → NxRel S3 mr (nxt n ws r) ds → nr ≠ mr → wp (forLoop ⟨[(nr, ds)], ds⟩ (PF.gTup [13, 14]) stPut ds [some (progD params (P : Int) rows), some (frameD boxes slots eaten), some c.D, d3, d4, some (.ref md), some (.ref mr), some (.int n), some (hD h), some (.ref wr), some r.D, some g.D, some (hD (hbeh eaten boxes h r g)), d13, d14] S3)
        fun z S' => Keep [md, mr] S S' ∧
        if (isAsk r && !sameH r g (mvs boxes h g.ahead)) = true then z.1 = .rt (.tup [.ref wr, .int n]) else (∃ c10 c11 c12 c13 c14, z = (.nx, [some (progD params (P : Int) rows), some (frameD boxes slots eaten), some c.D, d3, d4, some (.ref md), some (.ref mr), some (.int n), some (hD h), some (.ref wr), c10, c11, c12, c13, c14])) ∧
          CqRel S' md mr ((nxt n ws r).foldl (put1 rows.length (hbeh eaten boxes h r g)) q) ∧ ∀ y ∈ ((nxt n ws r).foldl (put1 rows.length (hbeh eaten boxes h r g)) q).L, ItOk (pcOf P N boxes rows eaten c) (w + 1) y := by
      intro S3 nr ds k3 gn hnx nn
      refine wp_mono (puts_spec (relS S3 k3) gn hnx nn (by omega) (by omega)) ?_
      rintro _ S4 ⟨⟨c13, c14, rfl⟩, hq4, k4⟩
      refine ⟨(k3.mono (fun i _ h => nomatch h)).trans k4, ?_⟩
      rw [if_neg (by rw [hf]; decide)]
      exact ⟨⟨_, _, _, _, _, rfl⟩, hq4, puts_ok hok okx hqo⟩
    rw [w_for]
    simp only [v_iseq]
    rw [w_if, w_te]
    simp only [w_e2, w_c, v_var, List.getElem?_cons_succ, List.getElem?_cons_zero, on_some, row_w, w_neS, isFin_w, ex_bl]
    cases hfin : r.isFin with
    | true =>
      rw [if_neg (by decide), w_lst, w_nil]
      have g3 : (S2 ++ [MO.lst []])[S2.length]? = some (.lst []) := get_last
      simp only [seqOf, chkOf, lstOf_lst g3, on_some]
      have er2 : r = .fin := by cases r <;> first | rfl | cases hfin
      refine fin (S2 ++ [MO.lst []]) S2.length [] (K2.trans .app) g3 ?_ (by have := K2.len; omega)
      subst er2
      exact ⟨rfl, fun i x hx => by simp [nxt] at hx⟩
    | false =>
      rw [if_pos (by decide)]
      simp only [w_call, w_cons, w_nil, v_var, List.getElem?_cons_succ, List.getElem?_cons_zero, on_some]
      refine wp_mono (behind_row_spec h0 er (K2.at gw (by simp)) nw (by have := K2.len; omega) (by have : ws.length ≤ w := hwl; omega)) ?_
      rintro _ S3 ⟨lr, ds, rfl, gl, hnx, ll, k3⟩
      simp only [seqOf, chkOf, lstOf_lst gl, on_some]
      exact fin S3 lr ds (K2.trans k3) gl (hnx hfin) (by have := K2.len; omega)
  cases ha : isAsk r with
  | false =>
    rw [if_neg (by decide), if_neg (by decide), w_next]
    have := rest S .refl (by rw [ha]; rfl)
    rw [ha] at this
    exact this
  | true =>
    rw [if_pos rfl]
    simp only [w_tnot, w_te, w_call, w_cons, w_nil, v_var, List.getElem?_cons_succ, List.getElem?_cons_zero, on_some]
    refine wp_mono (is_handed_spec hF hN hr hgo ho) ?_
    rintro _ S1 ⟨rfl, k1⟩
    simp only [ex_bl]
    cases hsm : sameH r g (mvs boxes h g.ahead) with
    | false =>
      rw [if_pos (by decide)]
      simp only [w_ret, w_tup, w_cons, w_nil, v_var, List.getElem?_cons_succ, List.getElem?_cons_zero, on_some]
      exact ⟨k1.mono (fun i _ h => nomatch h), by rw [if_pos (by decide)]; trivial⟩
    | true =>
      rw [if_neg (by decide), w_next]
      have := rest S1 k1 (by rw [ha, hsm]; rfl)
      rw [ha, hsm] at this
      exact this
end PG
end
section
set_option linter.all false
set_option autoImplicit false
set_option maxRecDepth 100003
namespace PG
open PF
theorem lev_step {C : Pc} {x : Itm} {xs : List Itm} {q : Cq} {r : Row} {g : Grp} (er : C.rows[x.1.toNat]? = some r) (eg : C.gs[x.1.toNat]? = some g) :
    lev C (x :: xs) q = if (isAsk r && !sameH r g (mvs C.boxes x.2.1 g.ahead)) = true then .error (x.2.2, x.1) else lev C xs ((nxt x.1 x.2.2 r).foldl (put1 C.rows.length (C.beh r g x.2.1)) q) := by
  conv => lhs; unfold lev
  rw [er, eg]
theorem level_spec {S : Sto} {params boxes slots : Int} {P N lim : Nat} {rows : List Row} {eaten : List Int} {c : Choice} {L : List Itm} {ds : List D} {q0 : Cq} {md mr lr w : Nat} {d3 d7 d8 d9 d10 d11 d12 d13 d14 : Option D} (hc : CaseOk params (P : Int) rows boxes slots eaten c) (hN : (N : Int) = boxes + slots) (hL : ∀ x ∈ L, ItOk (pcOf P N boxes rows eaten c) w x)
    (gl : S[lr]? = some (.lst ds)) (hI : ItRel S mr L ds) (nl : lr ≠ mr) (hq : CqRel S md mr q0) (e0 : q0.L = []) (hb : q0.M.length + 2 * L.length ≤ lim) (hlim : lim ≤ 8000000) (hw : w < 900000) :
    wp (forLoop ⟨[(lr, ds)], ds⟩ (PF.gTup [7, 8, 9]) stItem ds [some (progD params (P : Int) rows), some (frameD boxes slots eaten), some c.D, d3, some (.ref lr), some (.ref md), some (.ref mr), d7, d8, d9, d10, d11, d12, d13, d14] S) fun z S' => Keep [md, mr] S S' ∧
      match lev (pcOf P N boxes rows eaten c) L q0 with
      | .error e => ∃ wr, z.1 = .rt (.tup [.ref wr, .int e.2]) ∧ S'[wr]? = some (.lst (e.1.map .bl))
      | .ok q => (∃ c7 c8 c9 c10 c11 c12 c13 c14, z = (.nx, [some (progD params (P : Int) rows), some (frameD boxes slots eaten), some c.D, d3, some (.ref lr), some (.ref md), some (.ref mr), c7, c8, c9, c10, c11, c12, c13, c14])) ∧ CqRel S' md mr q ∧ ∀ y ∈ q.L, ItOk (pcOf P N boxes rows eaten c) (w + 1) y := by
  have hC := hc.C
  have nld : lr ≠ md := fun e => by rw [e, hq.m] at gl; cases gl
  refine wp_for (it := ⟨[(lr, ds)], ds⟩) (fun k ρ S' => (∃ c7 c8 c9 c10 c11 c12 c13 c14, ρ = [some (progD params (P : Int) rows), some (frameD boxes slots eaten), some c.D, d3, some (.ref lr), some (.ref md), some (.ref mr), c7, c8, c9, c10, c11, c12, c13, c14]) ∧
    (∃ q, lev (pcOf P N boxes rows eaten c) L q0 = lev (pcOf P N boxes rows eaten c) (L.drop k) q ∧ CqRel S' md mr q ∧ (∀ y ∈ q.L, ItOk (pcOf P N boxes rows eaten c) (w + 1) y) ∧ q.M.length ≤ q0.M.length + 2 * k ∧ q.L.length ≤ 2 * k) ∧ Keep [md, mr] S S') (fun k ρ S' h => by simp [Iter.same, lstOf_lst (h.2.2.at gl (by simp; exact ⟨nld, nl⟩))]) ?_ ⟨⟨_, _, _, _, _, _, _, _, rfl⟩, ⟨q0, by rw [List.drop_zero], hq, (by rw [e0]; intro y hy; cases hy), Nat.le_refl _, by rw [e0]; exact Nat.le_refl _⟩, .refl⟩ ?_
  · rintro k x ρ S1 hxk ⟨⟨c7, c8, c9, c10, c11, c12, c13, c14, rfl⟩, ⟨q, eq, hq1, hqo, hM1, hL1⟩, k1⟩
    have hxk : ds[k]? = some x := hxk
    have hk : k < ds.length := (List.getElem?_eq_some_iff.mp hxk).1
    rw [hI.1] at hk
    have ex : L[k]? = some L[k] := List.getElem?_eq_getElem hk
    have ed : L.drop k = L[k] :: L.drop (k + 1) := List.drop_eq_getElem_cons hk
    obtain ⟨wr, h1, h2, h3⟩ := (hI.keep k1 hq.m).2 k _ ex
    rw [hxk] at h1
    cases h1
    have hx := hL _ (List.getElem_mem hk)
    rw [ed] at eq
    generalize L[k] = y at *
    obtain ⟨n, h, ws⟩ := y
    have hn0 : 0 ≤ n := hx.1
    have hn1 : n < rows.length := hx.2.1
    have hlt : n.toNat < rows.length := by omega
    obtain ⟨r, er⟩ : ∃ r, rows[n.toNat]? = some r := ⟨_, List.getElem?_eq_getElem hlt⟩
    obtain ⟨g, eg⟩ : ∃ g, c.groups[n.toNat]? = some g := ⟨_, List.getElem?_eq_getElem (by rw [hC.gn]; exact hlt)⟩
    rw [lev_step (C := pcOf P N boxes rows eaten c) (x := (n, h, ws)) er eg] at eq
    refine ⟨_, rfl, ?_⟩
    refine wp_mono (item_spec hc hN hx er eg hq1 hqo h2 h3 (by unfold LIM; omega) (by unfold LIM; omega) hw) ?_
    rintro ⟨f, ρ2⟩ S2 ⟨k2, hz⟩
    have eb : (pcOf P N boxes rows eaten c).boxes = boxes := rfl
    rw [eb] at eq
    dsimp only at eq
    split at hz
    · rename_i cc
      have hz : f = .rt (.tup [.ref wr, .int n]) := hz
      subst hz
      rw [if_pos cc] at eq
      dsimp only
      rw [eq]
      refine ⟨k1.trans k2, wr, rfl, k2.at h2 ?_⟩
      simp only [List.mem_cons, List.not_mem_nil, or_false, not_or]
      exact ⟨fun e => (by rw [e, hq1.m] at h2; cases h2), h3⟩
    · rename_i cc
      rw [if_neg cc] at eq
      obtain ⟨⟨c10', c11', c12', c13', c14', hz1⟩, hq2, hqo2⟩ := hz
      cases hz1
      have hl := puts_len (len := (rows.length : Int)) (b := hbeh eaten boxes h r g) (xs := nxt n ws r) (q := q)
      have hn2 := nxt_len (n := n) (ws := ws) (r := r)
      exact ⟨⟨_, _, _, _, _, _, _, _, rfl⟩, ⟨(nxt n ws r).foldl (put1 rows.length (hbeh eaten boxes h r g)) q, eq, hq2, hqo2, by omega, by omega⟩, k1.trans k2⟩
  · rintro ρ S1 ⟨⟨c7, c8, c9, c10, c11, c12, c13, c14, rfl⟩, ⟨q, eq, hq1, hqo, hM1, hL1⟩, k1⟩
    have el : (Iter.mk [(lr, ds)] ds).all.length = L.length := hI.1
    rw [el, List.drop_length] at eq
    refine ⟨k1, ?_⟩
    rw [eq]
    exact ⟨⟨_, _, _, _, _, _, _, _, rfl⟩, hq1, hqo⟩
theorem bls_tree {S : Sto} {n : Nat} : ∀ ws : List Bool, allSome (tree S n) (ws.map D.bl) = some (ws.map J.bl)
  | [] => rfl
  | b :: ws => by
    have : tree S n (.bl b) = some (.bl b) := by cases n <;> simp only [tree]
    simp only [List.map_cons, allSome, this, bls_tree ws]
theorem item_tree {S : Sto} {x : Itm} {wr : Nat} (g : S[wr]? = some (.lst (x.2.2.map .bl))) : tree S 39 (.tup [.int x.1, hD x.2.1, .ref wr]) = some (.tup [.int x.1, hJ x.2.1, .lst (x.2.2.map J.bl)]) := by
  have h1 : tree S 38 (.int x.1) = some (.int x.1) := by simp only [tree]
  have h2 : tree S 38 (hD x.2.1) = some (hJ x.2.1) := tree_hD (n := 36) x.2.1
  have h3 : tree S 38 (.ref wr) = some (.lst (x.2.2.map J.bl)) := by
    show tree S (37 + 1) (.ref wr) = _
    simp only [tree, lstOf_lst g, bls_tree]
  have ha : allSome (tree S 38) [.int x.1, hD x.2.1, .ref wr] = some [.int x.1, hJ x.2.1, .lst (x.2.2.map J.bl)] := by simp only [allSome, h1, h2, h3]
  show tree S (38 + 1) _ = _
  simp only [tree, ha]
theorem items_tree {S : Sto} {mr : Nat} : ∀ {L : List Itm} {ds : List D}, ItRel S mr L ds → ∃ js, allSome (tree S 39) ds = some js ∧ js.length = L.length
  | [], ds, h => by
    have e : ds = [] := List.length_eq_zero_iff.mp h.1
    subst e
    exact ⟨[], rfl, rfl⟩
  | x :: L, ds, h => by
    cases ds with
    | nil => have := h.1; simp at this
    | cons d ds =>
      obtain ⟨wr, h1, h2, h3⟩ := h.2 0 x rfl
      have e : d = .tup [.int x.1, hD x.2.1, .ref wr] := by simpa using h1
      subst e
      have ht : ItRel S mr L ds := ⟨by have := h.1; simpa using this, fun i y hy => by
        obtain ⟨w, a, b, c⟩ := h.2 (i + 1) y (by simpa using hy)
        exact ⟨w, by simpa using a, b, c⟩⟩
      obtain ⟨js, e1, e2⟩ := items_tree ht
      exact ⟨.tup [.int x.1, hJ x.2.1, .lst (x.2.2.map J.bl)] :: js, by simp only [allSome, item_tree h2, e1], by simp [e2]⟩
theorem eq_items {S : Sto} {mr a b : Nat} {L : List Itm} {ds : List D} (h : ItRel S mr L ds) (ha : lstOf a S = some ds) (hb : lstOf b S = some []) : eqF S (.ref a) (.ref b) = some L.isEmpty := by
  show eqT S (.ref a) (.ref b) = _
  unfold eqT
  obtain ⟨js, e, l⟩ := items_tree h
  have ea : tree S EQD (.ref a) = some (.lst js) := by
    show tree S (39 + 1) (.ref a) = _
    simp only [tree, ha, e]
  have eb : tree S EQD (.ref b) = some (.lst []) := by
    show tree S (39 + 1) (.ref b) = _
    simp only [tree, hb, allSome]
  rw [ea, eb]
  cases L with
  | nil =>
    cases js with
    | nil => rfl
    | cons _ _ => cases l
  | cons _ _ =>
    cases js with
    | nil => cases l
    | cons _ _ => rfl
/-- what checked tells -/
def CkRel (S : Sto) (d : D) : Option (List Bool × Int) → Prop
  | none => d = .non
  | some e => ∃ wr, d = .tup [.ref wr, .int e.2] ∧ S[wr]? = some (.lst (e.1.map .bl))
theorem w_dit1 {S : Sto} {ρ : Env} {P : D → Sto → Prop} {k v : E} : wp (eDit1 k v ρ S) P = wp (k ρ S) fun x S => wp (v ρ S) fun y S => (keyT x = true ∧ y = .bl true) ∧ P (.ref S.length) (S ++ [.dit [(x, y)]]) := by
  unfold eDit1
  rw [wp_bind]
  congr
  funext x S
  rw [wp_bind]
  congr
  funext y S
  by_cases c : keyT x = true ∧ y = .bl true
  · rw [if_pos c]
    simp only [alloc, wp_ok, c, and_self, true_and]
  · rw [if_neg c, wp_bad]
    simp [c]
theorem checked_by_spec {S : Sto} {params boxes slots : Int} {P N lim n : Nat} {rows : List Row} {eaten : List Int} {c : Choice} {res : Option (List Bool × Int)} (hc : CaseOk params (P : Int) rows boxes slots eaten c) (hN : (N : Int) = boxes + slots) (hlim : lim ≤ 8000000) (hn : n < 900000)
    (hres : bfs (pcOf P N boxes rows eaten c) lim n [(0, hd0 boxes N c.places, [])] [(0, hd0 boxes N c.places)] = some res) :
    wp (f_checked_by [progD params (P : Int) rows, frameD boxes slots eaten, c.D] S) fun d S' => CkRel S' d res ∧ Keep [] S S' := by
  obtain ⟨hP, hF, hC, fit⟩ := id hc
  have hO := pcOf_ok (N := N) hc
  unfold f_checked_by b_checked_by
  rw [w_fn]
  refine ⟨by simp, ?_⟩
  simp only [List.map_cons, List.map_nil, List.length_cons, List.length_nil, Nat.zero_add, Nat.reduceAdd, Nat.reduceSub, List.replicate_succ, List.replicate_zero, List.cons_append, List.nil_append]
  rw [w_seq]
  simp only [w_set, w_call, w_cons, w_nil, v_var, List.getElem?_cons_succ, List.getElem?_cons_zero, on_some]
  refine wp_mono (first_held_spec hc hN) ?_
  rintro _ S1 ⟨rfl, k1⟩
  simp only [List.set_cons_succ, List.set_cons_zero]
  rw [w_seq]
  simp only [w_set, w_lst, w_cons, w_nil, w_tup, w_c, v_var, List.getElem?_cons_succ, List.getElem?_cons_zero, on_some, List.set_cons_succ, List.set_cons_zero]
  have g1 : (S1 ++ [MO.lst []])[S1.length]? = some (.lst (([] : List Bool).map .bl)) := get_last
  have k2 : Keep [] S (S1 ++ [MO.lst []]) := k1.trans .app
  have l1 : S1.length < (S1 ++ [MO.lst []]).length := by simp
  generalize S1.length = wr at *
  generalize S1 ++ [MO.lst []] = S2 at *
  have g2 : (S2 ++ [MO.lst [.tup [.int 0, hD (hd0 boxes N c.places), .ref wr]]])[S2.length]? = some (.lst [.tup [.int 0, hD (hd0 boxes N c.places), .ref wr]]) := get_last
  have g12 := get_app (U := [MO.lst [.tup [.int 0, hD (hd0 boxes N c.places), .ref wr]]]) g1
  have k3 : Keep [] S (S2 ++ [MO.lst [.tup [.int 0, hD (hd0 boxes N c.places), .ref wr]]]) := k2.trans .app
  generalize S2.length = lr at *
  generalize S2 ++ [MO.lst [.tup [.int 0, hD (hd0 boxes N c.places), .ref wr]]] = S3 at *
  rw [w_seq]
  simp only [w_set, w_dit1, w_tup, w_cons, w_nil, w_c, v_var, List.getElem?_cons_succ, List.getElem?_cons_zero, on_some, List.set_cons_succ, List.set_cons_zero]
  have ek : D.tup [.int 0, hD (hd0 boxes N c.places)] = kxK (0, hd0 boxes N c.places) := rfl
  refine ⟨⟨by rw [ek]; exact kx_key _, trivial⟩, ?_⟩
  have g4 : (S3 ++ [MO.dit [(D.tup [.int 0, hD (hd0 boxes N c.places)], .bl true)]])[S3.length]? = some (.dit ([(0, hd0 boxes N c.places)].map kxD)) := get_last
  have g24 := get_app (U := [MO.dit [(D.tup [.int 0, hD (hd0 boxes N c.places)], .bl true)]]) g2
  have g14 := get_app (U := [MO.dit [(D.tup [.int 0, hD (hd0 boxes N c.places)], .bl true)]]) g12
  have k4 : Keep [] S (S3 ++ [MO.dit [(D.tup [.int 0, hD (hd0 boxes N c.places)], .bl true)]]) := k3.trans .app
  have nwd : wr ≠ S3.length := by have := lt_of_get g12; omega
  have lSd : S.length ≤ S3.length := k3.len
  generalize S3.length = md at *
  generalize S3 ++ [MO.dit [(D.tup [.int 0, hD (hd0 boxes N c.places)], .bl true)]] = S4 at *
  have hI4 : ItRel S4 md [(0, hd0 boxes N c.places, [])] [.tup [.int 0, hD (hd0 boxes N c.places), .ref wr]] := ⟨rfl, fun i x hx => by
    cases i with
    | zero => cases hx; exact ⟨wr, rfl, g14, nwd⟩
    | succ i => simp at hx⟩
  have ok4 : ∀ x ∈ [((0 : Int), hd0 boxes N c.places, ([] : List Bool))], ItOk (pcOf P N boxes rows eaten c) 0 x := fun x hx => by
    have e : x = (0, hd0 boxes N c.places, []) := by simpa using hx
    subst e
    exact ⟨Int.le_refl 0, by have := hO.one; show (0 : Int) < _; omega, hO.fok, Nat.le_refl 0⟩
  rw [w_seq]
  refine wp_while (fun m ρ S' => ∃ (L : List Itm) (M : List (Int × Hd)) (lr : Nat) (ds : List D) (w : Nat) (c6 c7 c8 c9 c10 c11 c12 c13 c14 : Option D), ρ = [some (progD params (P : Int) rows), some (frameD boxes slots eaten), some c.D, some (hD (hd0 boxes N c.places)), some (.ref lr), some (.ref md), c6, c7, c8, c9, c10, c11, c12, c13, c14] ∧
    bfs (pcOf P N boxes rows eaten c) lim m L M = some res ∧ S'[md]? = some (.dit (M.map kxD)) ∧ S'[lr]? = some (.lst ds) ∧ ItRel S' md L ds ∧ (∀ x ∈ L, ItOk (pcOf P N boxes rows eaten c) w x) ∧ w + m = n ∧ Keep [] S S') n (by unfold TURNS; omega) ?_ ⟨_, _, lr, _, 0, none, none, none, none, none, none, none, none, none, rfl, hres, g4, g24, hI4, ok4, by omega, k4⟩
  rintro m ρ S5 ⟨L, M, lr, ds, w, c6, c7, c8, c9, c10, c11, c12, c13, c14, rfl, hb, gM, gl, hI, hL, hwm, k5⟩
  simp only [w_te, w_e2, w_lst, w_nil, v_var, List.getElem?_cons_succ, List.getElem?_cons_zero, on_some]
  have gl1 := get_app (U := [MO.lst []]) gl
  have gM1 := get_app (U := [MO.lst []]) gM
  have gz1 : (S5 ++ [MO.lst []])[S5.length]? = some (.lst []) := get_last
  have k6 : Keep [] S5 (S5 ++ [MO.lst []]) := .app
  have hI1 : ItRel (S5 ++ [MO.lst []]) md L ds := ⟨hI.1, fun i x hx => by
    obtain ⟨w', a, b, c'⟩ := hI.2 i x hx
    exact ⟨w', a, get_app b, c'⟩⟩
  have K6 := k5.trans k6
  generalize S5.length = zr at *
  generalize S5 ++ [MO.lst []] = S6 at *
  rw [v_ne, eq_items hI1 (lstOf_lst gl1) (lstOf_lst gz1), on_some]
  simp only [ex_bl]
  cases m with
  | zero => cases hb
  | succ m =>
    unfold bfs at hb
    by_cases hLe : L = []
    · rw [if_pos hLe] at hb
      cases hb
      subst hLe
      rw [if_neg (by decide)]
      simp only [w_ret, w_c]
      exact ⟨rfl, K6⟩
    · rw [if_neg hLe] at hb
      have he : L.isEmpty = false := by cases L with
        | nil => exact absurd rfl hLe
        | cons _ _ => rfl
      rw [he, if_pos (by decide)]
      split at hb
      · rename_i hlm
        rw [w_seq]
        simp only [w_set, w_lst, w_nil, List.set_cons_succ, List.set_cons_zero]
        have gm : (S6 ++ [MO.lst []])[S6.length]? = some (.lst []) := get_last
        have gl2 := get_app (U := [MO.lst []]) gl1
        have gM2 := get_app (U := [MO.lst []]) gM1
        have k7 : Keep [] S (S6 ++ [MO.lst []]) := K6.trans .app
        have hI2 : ItRel (S6 ++ [MO.lst []]) S6.length L ds := ⟨hI1.1, fun i x hx => by
          obtain ⟨w', a, b, c'⟩ := hI1.2 i x hx
          exact ⟨w', a, get_app b, by have := lt_of_get b; omega⟩⟩
        have nlm : lr ≠ S6.length := by have := lt_of_get gl1; omega
        have nmd : md ≠ S6.length := by have := lt_of_get gM1; omega
        have lSm : S.length ≤ S6.length := K6.len
        generalize S6.length = mr at *
        generalize S6 ++ [MO.lst []] = S7 at *
        have hq : CqRel S7 md mr ⟨M, []⟩ := ⟨gM2, [], gm, rfl, fun i x hx => by simp at hx⟩
        rw [w_seq, w_for]
        simp only [v_iseq, v_var, List.getElem?_cons_succ, List.getElem?_cons_zero, on_some, seqOf, chkOf, lstOf_lst gl2]
        refine wp_mono (level_spec hc hN hL gl2 hI2 nlm hq rfl hlm hlim (by omega)) ?_
        rintro ⟨f, ρ2⟩ S8 ⟨k8, hz⟩
        have K8 : Keep [] S S8 := k7.past k8 (by intro i hi; simp at hi; omega)
        split at hz
        · rename_i e he
          obtain ⟨wr', hz1, hz2⟩ := hz
          have hz1 : f = .rt (.tup [.ref wr', .int e.2]) := hz1
          subst hz1
          rw [he] at hb
          cases hb
          exact ⟨⟨wr', rfl, hz2⟩, K8⟩
        · rename_i q he
          obtain ⟨⟨c7', c8', c9', c10', c11', c12', c13', c14', hz1⟩, hq8, hok8⟩ := hz
          cases hz1
          rw [he] at hb
          dsimp only
          simp only [w_set, v_var, List.getElem?_cons_succ, List.getElem?_cons_zero, on_some, List.set_cons_succ, List.set_cons_zero]
          obtain ⟨gM8, ds8, gl8, hI8⟩ := hq8
          refine ⟨m, Nat.lt_succ_self m, q.L, q.M, mr, ds8, w + 1, _, _, _, _, _, _, _, _, _, rfl, hb, gM8, gl8, ⟨hI8.1, fun i x hx => ?_⟩, hok8, by omega, K8⟩
          obtain ⟨w', a, b, c'⟩ := hI8.2 i x hx
          exact ⟨w', a, b, fun e => by rw [e, gM8] at b; cases b⟩
      · cases hb
theorem checked_spec {S : Sto} {params boxes slots : Int} {P N lim n : Nat} {rows : List Row} {eaten : List Int} {c : Choice} {res : Option (List Bool × Int)} (hc : CaseOk params (P : Int) rows boxes slots eaten c) (hN : (N : Int) = boxes + slots) (hlim : lim ≤ 8000000) (hn : n < 900000)
    (hres : bfs (pcOf P N boxes rows eaten c) lim n [(0, hd0 boxes N c.places, [])] [(0, hd0 boxes N c.places)] = some res) :
    wp (f_checked [progD params (P : Int) rows, frameD boxes slots eaten, c.D] S) fun d S' => CkRel S' d res ∧ Keep [] S S' := by
  obtain ⟨hP, hF, hC, fit⟩ := id hc
  unfold f_checked b_checked
  simp_arith []
  refine wp_mono (need_program_spec hP) ?_
  rintro _ S1 ⟨rfl, k1⟩
  simp_arith []
  refine wp_mono (need_frame_spec hF) ?_
  rintro _ S2 ⟨rfl, k2⟩
  simp_arith []
  refine wp_mono (need_choice_spec hP hC) ?_
  rintro _ S3 ⟨rfl, k3⟩
  simp_arith []
  refine wp_mono (checked_by_spec hc hN hlim hn hres) ?_
  rintro d S4 ⟨h, k4⟩
  exact ⟨h, ((k1.trans k2).trans k3).trans k4⟩
end PG
end
section
set_option linter.all false
set_option autoImplicit false
set_option maxRecDepth 100003
namespace PG
open PF
/-- the group that made tells for a row -/
def grpM : Row → Grp
  | .put d _ => ⟨[], [2], [.store d 2]⟩
  | .copy d a => ⟨[.load 0 a], [2, 0], [.store d 2]⟩
  | .op _ d a b => ⟨[.load 0 a, .load 1 b], [2, 0, 1], [.store d 2]⟩
  | .call d a => ⟨[.load 0 a], [2, 0], [.store d 2]⟩
  | .say a => ⟨[.load 0 a], [0], []⟩
  | .ife a _ => ⟨[.load 0 a], [0], []⟩
  | .go _ => ⟨[], [], []⟩
  | .fin => ⟨[], [], []⟩
def gd (h : Hd) (p : Nat) : List Int := h.getD p []
theorem gd_set {h : Hd} {i p : Nat} {x : List Int} (hi : i < h.length) : gd (h.set i x) p = if i = p then x else gd h p := by
  unfold gd
  rw [List.getD_eq_getElem?_getD, List.getElem?_set, List.getD_eq_getElem?_getD]
  by_cases c : i = p
  · rw [if_pos c, if_pos c, if_pos hi]
    rfl
  · rw [if_neg c, if_neg c]
theorem gd_map {f : List Int → List Int} (f0 : f [] = []) {h : Hd} {p : Nat} : gd (h.map f) p = f (gd h p) := by
  unfold gd
  rw [List.getD_eq_getElem?_getD, List.getElem?_map, List.getD_eq_getElem?_getD]
  cases h[p]? with
  | none => exact f0.symm
  | some x => rfl
theorem gd_nil_set {h : Hd} {i p : Nat} (e : gd h p = []) : gd (h.set i []) p = [] := by
  unfold gd at e ⊢
  rw [List.getD_eq_getElem?_getD] at e ⊢
  rw [List.getElem?_set]
  by_cases c : i = p
  · rw [if_pos c]
    split <;> rfl
  · rw [if_neg c]
    exact e
theorem gd_eat0 : ∀ {es : List Int} {h : Hd} {p : Nat}, gd h p = [] → gd (eatH es h) p = []
  | [], _, _, e => e
  | e :: es, h, p, e0 => by
    show gd (eatH es (h.set e.toNat [])) p = []
    exact gd_eat0 (gd_nil_set e0)
theorem gd_eat1 : ∀ {es : List Int} {h : Hd} {p : Nat}, (∀ e ∈ es, e.toNat ≠ p) → gd (eatH es h) p = gd h p
  | [], _, _, _ => rfl
  | e :: es, h, p, e0 => by
    show gd (eatH es (h.set e.toNat [])) p = gd h p
    rw [gd_eat1 fun x hx => e0 x (List.mem_cons_of_mem _ hx)]
    unfold gd
    rw [List.getD_eq_getElem?_getD, List.getElem?_set, if_neg (e0 e List.mem_cons_self), List.getD_eq_getElem?_getD]
structure MdI (P B N : Nat) (ex : Int) (h : Hd) : Prop where
  len : h.length = N
  mid : ∀ p, 3 ≤ p → p < B → gd h p = []
  out : ∀ p, B + P ≤ p → gd h p = []
  hom : ∀ k : Nat, k < P → (k : Int) ≠ ex → (k : Int) ∈ gd h (B + k)
theorem MdI.set {P B N i : Nat} {ex : Int} {h : Hd} {x : List Int} (m : MdI P B N ex h) (hB : 3 ≤ B) (hN : B ≤ N) (hi : i < 3) : MdI P B N ex (h.set i x) := by
  have hl : i < h.length := by rw [m.len]; omega
  refine ⟨by rw [List.length_set]; exact m.len, fun p h1 h2 => ?_, fun p h1 => ?_, fun k hk e => ?_⟩
  · rw [gd_set hl, if_neg (by omega)]
    exact m.mid p h1 h2
  · rw [gd_set hl, if_neg (by omega)]
    exact m.out p h1
  · rw [gd_set hl, if_neg (by omega)]
    exact m.hom k hk e
theorem MdI.map {P B N : Nat} {d : Int} {h : Hd} {f : List Int → List Int} (m : MdI P B N (-1) h) (f0 : f [] = []) (ff : ∀ s x, x ∈ s → x ≠ d → x ∈ f s) : MdI P B N d (h.map f) := by
  refine ⟨by rw [List.length_map]; exact m.len, fun p h1 h2 => ?_, fun p h1 => ?_, fun k hk e => ?_⟩
  · rw [gd_map f0, m.mid p h1 h2, f0]
  · rw [gd_map f0, m.out p h1, f0]
  · rw [gd_map f0]
    exact ff _ _ (m.hom k hk (by omega)) e
theorem MdI.eat {P B N : Nat} {ex : Int} {h : Hd} {es : List Int} (m : MdI P B N ex h) (he : ∀ e ∈ es, In0 e (B : Int)) : MdI P B N ex (eatH es h) := by
  refine ⟨by rw [eatH_len]; exact m.len, fun p h1 h2 => gd_eat0 (m.mid p h1 h2), fun p h1 => gd_eat0 (m.out p h1), fun k hk e => ?_⟩
  rw [gd_eat1 fun e he' => by have := he e he'; unfold In0 at this; omega]
  exact m.hom k hk e
theorem mdl_load {B : Nat} {h : Hd} {b k : Nat} (hl : B + k < h.length) : mv1 (B : Int) h (.load (b : Int) (k : Int)) = h.set b (gd h (B + k)) := by
  have e : ((B : Int) + (k : Int)).toNat = B + k := by omega
  unfold mv1
  dsimp only
  rw [e, List.getElem?_eq_getElem hl]
  dsimp only
  rw [Int.toNat_natCast]
  congr 1
  unfold gd
  rw [List.getD_eq_getElem?_getD, List.getElem?_eq_getElem hl]
  rfl
theorem mdl_store {B : Nat} {h : Hd} {b k : Nat} (hl : b < h.length) : mv1 (B : Int) h (.store (k : Int) (b : Int)) = h.set (B + k) (gd h b) := by
  have e : ((B : Int) + (k : Int)).toNat = B + k := by omega
  unfold mv1
  dsimp only
  rw [e, Int.toNat_natCast, List.getElem?_eq_getElem hl]
  dsimp only
  congr 1
  unfold gd
  rw [List.getD_eq_getElem?_getD, List.getElem?_eq_getElem hl]
  rfl
theorem MdI.store {P B N d : Nat} {h : Hd} (m : MdI P B N (d : Int) h) (hB : 3 ≤ B) (hN : B + P ≤ N) (hd : d < P) (h2 : (d : Int) ∈ gd h 2) : MdI P B N (-1) (mv1 (B : Int) h (.store (d : Int) 2)) := by
  have e2 : mv1 (B : Int) h (.store (d : Int) 2) = h.set (B + d) (gd h 2) := mdl_store (b := 2) (by rw [m.len]; omega)
  have hl : B + d < h.length := by rw [m.len]; omega
  rw [e2]
  refine ⟨by rw [List.length_set]; exact m.len, fun p h1 h2 => ?_, fun p h1 => ?_, fun k hk e => ?_⟩
  · rw [gd_set hl, if_neg (by omega)]
    exact m.mid p h1 h2
  · rw [gd_set hl, if_neg (by omega)]
    exact m.out p h1
  · rw [gd_set hl]
    by_cases c : d = k
    · subst c
      rw [if_pos rfl]
      exact h2
    · rw [if_neg (by omega)]
      exact m.hom k hk (by omega)
theorem hat_gd {h : Hd} {p : Nat} : hat h (p : Int) = gd h p := by
  unfold hat gd
  rw [Int.toNat_natCast]
/-- one name loaded -/
theorem same1 {r : Row} {bx ns : List Int} {h1 : Hd} {a b2 : Int} (hm : isMk r = true) (hn : r.nms = [a, b2]) (hb : bx = [2, 0]) (h0 : b2 ∈ gd h1 0) (g : Grp) (eg : g.bx = bx) : sameH r g h1 = true := by
  unfold sameH
  rw [eg, hb, hm, hn]
  show (List.filter (fun k => !(askH [2, 0] [a, b2] h1 k)) [1] == []) = true
  have : askH [2, 0] [a, b2] h1 1 = true := by
    show (hat h1 ((0 : Nat) : Int)).any (· == b2) = true
    rw [hat_gd]
    exact mem_any.mpr h0
  simp [this]
theorem same2 {r : Row} {h1 : Hd} {a b c : Int} (hm : isMk r = true) (hn : r.nms = [a, b, c]) (h0 : b ∈ gd h1 0) (h2 : c ∈ gd h1 1) (g : Grp) (eg : g.bx = [2, 0, 1]) : sameH r g h1 = true := by
  unfold sameH
  rw [eg, hm, hn]
  show (List.filter (fun k => !(askH [2, 0, 1] [a, b, c] h1 k)) [1, 2] == []) = true
  have e1 : askH [2, 0, 1] [a, b, c] h1 1 = true := by
    show (hat h1 ((0 : Nat) : Int)).any (· == b) = true
    rw [hat_gd]
    exact mem_any.mpr h0
  have e2 : askH [2, 0, 1] [a, b, c] h1 2 = true := by
    show (hat h1 ((1 : Nat) : Int)).any (· == c) = true
    rw [hat_gd]
    exact mem_any.mpr h2
  simp [e1, e2]
theorem same0 {r : Row} {h1 : Hd} {a : Int} (hm : isMk r = false) (hn : r.nms = [a]) (h0 : a ∈ gd h1 0) (g : Grp) (eg : g.bx = [0]) : sameH r g h1 = true := by
  unfold sameH
  rw [eg, hm, hn]
  show (List.filter (fun k => !(askH [0] [a] h1 k)) [0] == []) = true
  have e1 : askH [0] [a] h1 0 = true := by
    show (hat h1 ((0 : Nat) : Int)).any (· == a) = true
    rw [hat_gd]
    exact mem_any.mpr h0
  simp [e1]
theorem nat_of {x : Int} {P : Nat} (h : In0 x (P : Int)) : ∃ k : Nat, x = (k : Int) ∧ k < P := ⟨x.toNat, by unfold In0 at h; omega, by unfold In0 at h; omega⟩
theorem load0 {P B N a : Nat} {h : Hd} (m : MdI P B N (-1) h) (hB : 3 ≤ B) (hN : B + P ≤ N) (ha : a < P) : ∃ h1, mvs (B : Int) h [.load 0 (a : Int)] = h1 ∧ MdI P B N (-1) h1 ∧ (a : Int) ∈ gd h1 0 := by
  have e : mvs (B : Int) h [.load 0 (a : Int)] = h.set 0 (gd h (B + a)) := mdl_load (b := 0) (by rw [m.len]; omega)
  refine ⟨_, e, m.set hB (by omega) (by omega), ?_⟩
  rw [gd_set (by rw [m.len]; omega), if_pos rfl]
  exact m.hom a ha (by omega)
theorem load1 {P B N a b : Nat} {h : Hd} (m : MdI P B N (-1) h) (hB : 3 ≤ B) (hN : B + P ≤ N) (ha : a < P) (hb : b < P) : ∃ h1, mvs (B : Int) h [.load 0 (a : Int), .load 1 (b : Int)] = h1 ∧ MdI P B N (-1) h1 ∧ (a : Int) ∈ gd h1 0 ∧ (b : Int) ∈ gd h1 1 := by
  obtain ⟨h1, e, m1, h0⟩ := load0 m hB hN ha
  have e2 : mv1 (B : Int) h1 (.load 1 (b : Int)) = h1.set 1 (gd h1 (B + b)) := mdl_load (b := 1) (by rw [m1.len]; omega)
  refine ⟨h1.set 1 (gd h1 (B + b)), ?_, m1.set hB (by omega) (by omega), ?_, ?_⟩
  · rw [← e2, ← e]
    rfl
  · rw [gd_set (by rw [m1.len]; omega), if_neg (by omega)]
    exact h0
  · rw [gd_set (by rw [m1.len]; omega), if_pos rfl]
    exact m1.hom b hb (by omega)
theorem ne_filt {d : Int} : ∀ (s : List Int) (x : Int), x ∈ s → x ≠ d → x ∈ s.filter fun x => !(x == d) := fun s x h e => List.mem_filter.mpr ⟨h, by simp [e]⟩
theorem ren_nil {d a : Int} : renH d a [] = [] := by unfold renH; split <;> rfl
/-- behind a row of the choice made -/
theorem md_step {P B N : Nat} {eaten : List Int} {m : Int} {h : Hd} {r : Row} (i : MdI P B N (-1) h) (hB : 3 ≤ B) (hN : B + P ≤ N) (he : ∀ e ∈ eaten, In0 e (B : Int)) (hr : r.ok (P : Int) m) : (isAsk r = true → sameH r (grpM r) (mvs (B : Int) h (grpM r).ahead) = true) ∧ MdI P B N (-1) (hbeh eaten (B : Int) h r (grpM r)) := by
  have nf : ∀ d : Int, ∀ h1, MdI P B N (-1) h1 → MdI P B N d (h1.map fun t => t.filter fun x => !(x == d)) := fun d h1 m1 => m1.map rfl ne_filt
  have mk : ∀ (d : Nat) (h2 : Hd), d < P → MdI P B N (d : Int) h2 → MdI P B N (-1) (mvs (B : Int) (h2.set ((2 : Int).toNat) [(d : Int)]) [.store (d : Int) 2]) := fun d h2 hd m2 => by
    have m3 := m2.set (i := 2) (x := [(d : Int)]) hB (by omega) (by omega)
    refine m3.store hB hN hd ?_
    rw [gd_set (by rw [m2.len]; omega), if_pos rfl]
    simp
  cases r with
  | put d k =>
    obtain ⟨d, rfl, hd⟩ := nat_of hr.1
    refine ⟨(fun h => nomatch h), ?_⟩
    exact mk d _ hd (nf d h i)
  | copy d a =>
    obtain ⟨d, rfl, hd⟩ := nat_of hr.1
    obtain ⟨a, rfl, ha⟩ := nat_of hr.2
    refine ⟨(fun h => nomatch h), ?_⟩
    obtain ⟨h1, e1, m1, g1⟩ := load0 i hB hN ha
    have m2 : MdI P B N (d : Int) (h1.map (renH (d : Int) (a : Int))) := m1.map ren_nil fun s x hx hn => by
      rw [mem_ren]
      split
      · exact hx
      · exact .inl ⟨hx, hn⟩
    have g2 : (d : Int) ∈ gd (h1.map (renH (d : Int) (a : Int))) 0 := by
      rw [gd_map ren_nil, mem_ren]
      split
      · rename_i e
        rw [e]; exact g1
      · exact .inr ⟨rfl, g1⟩
    have e : hbeh eaten (B : Int) h (.copy d a) (grpM (.copy d a)) = mv1 (B : Int) ((h1.map (renH (d : Int) (a : Int))).set 2 (hat (h1.map (renH (d : Int) (a : Int))) ((0 : Nat) : Int))) (.store (d : Int) 2) := by rw [← e1]; rfl
    rw [e, hat_gd]
    have m3 := m2.set (i := 2) (x := gd (h1.map (renH (d : Int) (a : Int))) 0) hB (by omega) (by omega)
    refine m3.store hB hN hd ?_
    rw [gd_set (by rw [m2.len]; omega), if_pos rfl]
    exact g2
  | op o d a b =>
    obtain ⟨d, rfl, hd⟩ := nat_of hr.1
    obtain ⟨a, rfl, ha⟩ := nat_of hr.2.1
    obtain ⟨b, rfl, hb⟩ := nat_of hr.2.2
    refine ⟨(fun h => nomatch h), ?_⟩
    obtain ⟨h1, e1, m1, g1, g2⟩ := load1 i hB hN ha hb
    have s := same2 (r := .op o d a b) rfl rfl g1 g2 (grpM (.op o d a b)) rfl
    have e : hbeh eaten (B : Int) h (.op o d a b) (grpM (.op o d a b)) = mvs (B : Int) ((h1.map fun t => t.filter fun x => !(x == (d : Int))).set ((2 : Int).toNat) (if sameH (.op o d a b) (grpM (.op o d a b)) h1 then [(d : Int)] else [])) [.store (d : Int) 2] := by rw [← e1]; rfl
    rw [e, s, if_pos rfl]
    exact mk d _ hd (nf d h1 m1)
  | call d a =>
    obtain ⟨d, rfl, hd⟩ := nat_of hr.1
    obtain ⟨a, rfl, ha⟩ := nat_of hr.2
    refine ⟨(fun h => nomatch h), ?_⟩
    obtain ⟨h1, e1, m1, g1⟩ := load0 i hB hN ha
    have s := same1 (r := .call d a) (ns := []) rfl rfl rfl g1 (grpM (.call d a)) rfl
    have e : hbeh eaten (B : Int) h (.call d a) (grpM (.call d a)) = mvs (B : Int) ((eatH eaten (h1.map fun t => t.filter fun x => !(x == (d : Int)))).set ((2 : Int).toNat) (if sameH (.call d a) (grpM (.call d a)) h1 then [(d : Int)] else [])) [.store (d : Int) 2] := by rw [← e1]; rfl
    rw [e, s, if_pos rfl]
    exact mk d _ hd ((nf d h1 m1).eat he)
  | say a =>
    obtain ⟨a, rfl, ha⟩ := nat_of hr
    obtain ⟨h1, e1, m1, g1⟩ := load0 i hB hN ha
    refine ⟨fun _ => ?_, ?_⟩
    · show sameH _ _ (mvs (B : Int) h [.load 0 (a : Int)]) = true
      rw [e1]
      exact same0 rfl rfl g1 _ rfl
    · show MdI P B N (-1) (mvs (B : Int) h [.load 0 (a : Int)])
      rw [e1]
      exact m1
  | ife a t =>
    obtain ⟨a, rfl, ha⟩ := nat_of hr.1
    obtain ⟨h1, e1, m1, g1⟩ := load0 i hB hN ha
    refine ⟨fun _ => ?_, ?_⟩
    · show sameH _ _ (mvs (B : Int) h [.load 0 (a : Int)]) = true
      rw [e1]
      exact same0 rfl rfl g1 _ rfl
    · show MdI P B N (-1) (mvs (B : Int) h [.load 0 (a : Int)])
      rw [e1]
      exact m1
  | go t => exact ⟨(fun h => nomatch h), i⟩
  | fin => exact ⟨(fun h => nomatch h), i⟩
end PG
end
section
set_option linter.all false
set_option autoImplicit false
set_option maxRecDepth 100003
namespace PG
open PF
theorem pigeon {α β : Type} [DecidableEq β] {f : α → β} : ∀ {l : List α} {u : List β}, l.Nodup → (∀ x ∈ l, f x ∈ u) → (∀ x ∈ l, ∀ y ∈ l, f x = f y → x = y) → l.length ≤ u.length
  | [], _, _, _, _ => Nat.zero_le _
  | x :: l, u, hn, hu, hi => by
    rw [List.nodup_cons] at hn
    have hx := hu x List.mem_cons_self
    have := pigeon (f := f) (l := l) (u := u.erase (f x)) hn.2 (fun y hy => by
      have hne : f y ≠ f x := fun e => hn.1 (by have := hi y (List.mem_cons_of_mem _ hy) x List.mem_cons_self e; rw [← this]; exact hy)
      exact (List.mem_erase_of_ne hne).mpr (hu y (List.mem_cons_of_mem _ hy))) (fun y hy z hz => hi y (List.mem_cons_of_mem _ hy) z (List.mem_cons_of_mem _ hz))
    rw [List.length_erase_of_mem hx] at this
    have : 0 < u.length := List.length_pos_of_mem hx
    rw [List.length_cons]
    omega
def prodL {α β : Type} (a : List α) (b : List β) : List (α × β) := a.flatMap fun x => b.map fun y => (x, y)
theorem prod_len {α β : Type} {b : List β} : ∀ {a : List α}, (prodL a b).length = a.length * b.length
  | [] => by simp [prodL]
  | x :: a => by
    have := prod_len (b := b) (a := a)
    unfold prodL at this ⊢
    rw [List.flatMap_cons, List.length_append, this, List.length_map, List.length_cons, Nat.add_mul]
    omega
theorem prod_mem {α β : Type} {a : List α} {b : List β} {x : α} {y : β} (hx : x ∈ a) (hy : y ∈ b) : (x, y) ∈ prodL a b := List.mem_flatMap.mpr ⟨x, hx, List.mem_map.mpr ⟨y, hy, rfl⟩⟩
def sub3 : List (List Int) := [[], [0], [1], [2], [0, 1], [0, 2], [1, 2], [0, 1, 2]]
theorem sub3_mem {P : Nat} (hP : P ≤ 3) {s : List Int} (h1 : s.Pairwise (· < ·)) (h2 : ∀ k ∈ s, In0 k (P : Int)) : s ∈ sub3 := by
  have b : ∀ k ∈ s, k = 0 ∨ k = 1 ∨ k = 2 := fun k hk => by have := h2 k hk; unfold In0 at this; omega
  match s, h1, b with
  | [], _, _ => simp [sub3]
  | [a], _, b =>
    rcases b a (by simp) with rfl | rfl | rfl <;> simp [sub3]
  | [a, c], h1, b =>
    have : a < c := by simpa using h1
    rcases b a (by simp) with rfl | rfl | rfl <;> rcases b c (by simp) with rfl | rfl | rfl <;> first | omega | simp [sub3]
  | [a, c, d], h1, b =>
    simp only [List.pairwise_cons, List.mem_cons, List.not_mem_nil, or_false, forall_eq_or_imp, forall_eq] at h1
    have a0 := b a (by simp)
    have c0 := b c (by simp)
    have d0 := b d (by simp)
    obtain rfl : a = 0 := by omega
    obtain rfl : c = 1 := by omega
    obtain rfl : d = 2 := by omega
    simp [sub3]
  | a :: c :: d :: e :: t, h1, b =>
    simp only [List.pairwise_cons, List.mem_cons, forall_eq_or_imp] at h1
    have a0 := b a (by simp)
    have c0 := b c (by simp)
    have d0 := b d (by simp)
    have e0 := b e (by simp)
    omega
def cand (P k : Nat) : List (List Int) := if k < P then sub3.filter fun s => decide ((k : Int) ∈ s) else [[]]
def uAll (P : Nat) : List (Int × List Int × List Int × List Int × List Int × List Int × List Int) :=
  prodL ((List.range 10).map fun k : Nat => (k : Int)) (prodL sub3 (prodL sub3 (prodL sub3 (prodL (cand P 0) (prodL (cand P 1) (cand P 2))))))
theorem cand_len (P : Nat) {k : Nat} (hk : k < 3) : (cand P k).length ≤ 4 := by
  unfold cand
  split
  · have : k = 0 ∨ k = 1 ∨ k = 2 := by omega
    rcases this with rfl | rfl | rfl <;> decide
  · decide
theorem uAll_len (P : Nat) : (uAll P).length ≤ 327680 := by
  unfold uAll
  have a := cand_len P (k := 0) (by decide)
  have b := cand_len P (k := 1) (by decide)
  have c := cand_len P (k := 2) (by decide)
  rw [prod_len, prod_len, prod_len, prod_len, prod_len, prod_len]
  have e1 : ((List.range 10).map fun k : Nat => (k : Int)).length = 10 := by simp
  have e2 : sub3.length = 8 := rfl
  rw [e1, e2]
  have h1 : (cand P 1).length * (cand P 2).length ≤ 4 * 4 := Nat.mul_le_mul b c
  have h2 : (cand P 0).length * ((cand P 1).length * (cand P 2).length) ≤ 4 * (4 * 4) := Nat.mul_le_mul a h1
  omega
def codeH (B : Nat) (x : Int × Hd) : Int × List Int × List Int × List Int × List Int × List Int × List Int := (x.1, gd x.2 0, gd x.2 1, gd x.2 2, gd x.2 (B + 0), gd x.2 (B + 1), gd x.2 (B + 2))
structure Vs (C : Pc) (B : Nat) (x : Int × Hd) : Prop where
  lo : 0 ≤ x.1
  hi : x.1 < (C.rows.length : Int)
  md : MdI C.P B C.N (-1) x.2
  ok : HdOk C.P C.N x.2
theorem gd_sub {P N : Nat} {h : Hd} (hP : P ≤ 3) (ok : HdOk P N h) (p : Nat) : gd h p ∈ sub3 := by
  unfold gd
  rw [List.getD_eq_getElem?_getD]
  cases e : h[p]? with
  | none => simp [sub3]
  | some s => exact sub3_mem hP (ok.srt s (List.mem_of_getElem? e)) (ok.inn s (List.mem_of_getElem? e))
theorem code_mem {C : Pc} {B : Nat} {x : Int × Hd} (hP : C.P ≤ 3) (hr : C.rows.length ≤ 10) (v : Vs C B x) : codeH B x ∈ uAll C.P := by
  have c : ∀ k : Nat, k < 3 → gd x.2 (B + k) ∈ cand C.P k := fun k hk => by
    unfold cand
    split
    · rename_i h
      exact List.mem_filter.mpr ⟨gd_sub hP v.ok _, decide_eq_true (v.md.hom k h (by omega))⟩
    · rw [v.md.out (B + k) (by omega)]
      simp
  have h1 : x.1 ∈ (List.range 10).map fun k : Nat => (k : Int) := List.mem_map.mpr ⟨x.1.toNat, List.mem_range.mpr (by have := v.hi; have := v.lo; omega), by have := v.lo; omega⟩
  exact prod_mem h1 (prod_mem (gd_sub hP v.ok 0) (prod_mem (gd_sub hP v.ok 1) (prod_mem (gd_sub hP v.ok 2) (prod_mem (c 0 (by decide)) (prod_mem (c 1 (by decide)) (c 2 (by decide)))))))
theorem gd_ext {h k : Hd} (hl : h.length = k.length) (e : ∀ p, gd h p = gd k p) : h = k := by
  refine List.ext_getElem? fun p => ?_
  have := e p
  unfold gd at this
  rw [List.getD_eq_getElem?_getD, List.getD_eq_getElem?_getD] at this
  by_cases c : p < h.length
  · have c2 : p < k.length := by omega
    rw [List.getElem?_eq_getElem c, List.getElem?_eq_getElem c2] at this ⊢
    simpa using this
  · rw [List.getElem?_eq_none (by omega), List.getElem?_eq_none (by omega)]
theorem code_inj {C : Pc} {B : Nat} {x y : Int × Hd} (hP : C.P ≤ 3) (hx : Vs C B x) (hy : Vs C B y) (e : codeH B x = codeH B y) : x = y := by
  unfold codeH at e
  simp only [Prod.mk.injEq] at e
  obtain ⟨e1, e2, e3, e4, e5, e6, e7⟩ := e
  refine Prod.ext e1 (gd_ext (by rw [hx.md.len, hy.md.len]) fun p => ?_)
  by_cases c1 : p < 3
  · have : p = 0 ∨ p = 1 ∨ p = 2 := by omega
    rcases this with rfl | rfl | rfl <;> assumption
  · by_cases c2 : p < B
    · rw [hx.md.mid p (by omega) c2, hy.md.mid p (by omega) c2]
    · by_cases c3 : p < B + C.P
      · have : p = B + 0 ∨ p = B + 1 ∨ p = B + 2 := by omega
        rcases this with rfl | rfl | rfl <;> assumption
      · rw [hx.md.out p (by omega), hy.md.out p (by omega)]
theorem vs_count {C : Pc} {B : Nat} {M : List (Int × Hd)} (hP : C.P ≤ 3) (hr : C.rows.length ≤ 10) (hn : M.Nodup) (hv : ∀ x ∈ M, Vs C B x) : M.length ≤ 327680 :=
  Nat.le_trans (@pigeon _ _ (fun a b => Classical.propDecidable (a = b)) (codeH B) _ _ hn (fun x hx => code_mem hP hr (hv x hx)) fun x hx y hy e => code_inj hP (hv x hx) (hv y hy) e) (uAll_len C.P)
def keyL (x : Itm) : Int × Hd := (x.1, x.2.1)
structure Qi (C : Pc) (B : Nat) (M0 : List (Int × Hd)) (q : Cq) : Prop where
  eq : q.M = M0 ++ q.L.map keyL
  nd : q.M.Nodup
  vs : ∀ x ∈ q.M, Vs C B x
theorem put1_qi {C : Pc} {B : Nat} {M0 : List (Int × Hd)} {q : Cq} {b : Hd} {x : Int × List Bool} (h : Qi C B M0 q) (hm : MdI C.P B C.N (-1) b) (ho : HdOk C.P C.N b) (hx : 0 ≤ x.1) : Qi C B M0 (put1 C.rows.length b q x) := by
  unfold put1
  split
  · rename_i c
    refine ⟨?_, ?_, fun y hy => ?_⟩
    · show q.M ++ [(x.1, b)] = M0 ++ (q.L ++ [(x.1, b, x.2)]).map keyL
      rw [h.eq, List.map_append, List.append_assoc]
      rfl
    · show (q.M ++ [(x.1, b)]).Nodup
      rw [List.nodup_append]
      refine ⟨h.nd, by simp, fun a ha y hy e => ?_⟩
      have : y = (x.1, b) := by simpa using hy
      rw [e, this] at ha
      exact c.2 ha
    · rcases List.mem_append.mp hy with hy | hy
      · exact h.vs y hy
      · have : y = (x.1, b) := by simpa using hy
        subst this
        exact ⟨hx, c.1, hm, ho⟩
  · exact h
theorem puts_qi {C : Pc} {B : Nat} {M0 : List (Int × Hd)} {b : Hd} (hm : MdI C.P B C.N (-1) b) (ho : HdOk C.P C.N b) : ∀ {xs : List (Int × List Bool)} {q : Cq}, Qi C B M0 q → (∀ x ∈ xs, 0 ≤ x.1) → Qi C B M0 (xs.foldl (put1 C.rows.length b) q)
  | [], _, h, _ => h
  | x :: xs, q, h, hx => puts_qi hm ho (xs := xs) (q := put1 C.rows.length b q x) (put1_qi h hm ho (hx x List.mem_cons_self)) fun y hy => hx y (List.mem_cons_of_mem _ hy)
structure Mc14 (C : Pc) (B : Nat) : Prop where
  bx : C.boxes = (B : Int)
  b3 : 3 ≤ B
  nn : B + C.P ≤ C.N
  p3 : C.P ≤ 3
  rl : C.rows.length ≤ 10
  ro : ∀ r ∈ C.rows, r.ok (C.P : Int) C.rows.length
  gs : C.gs = C.rows.map grpM
  ea : ∀ e ∈ C.eaten, In0 e (B : Int)
theorem nxt_nn {n : Int} {ws : List Bool} {r : Row} {names many : Int} (h0 : 0 ≤ n) (hr : r.ok names many) : ∀ x ∈ nxt n ws r, 0 ≤ x.1 := by
  intro x hx
  cases r <;> simp only [nxt, List.mem_cons, List.not_mem_nil, or_false] at hx
  case go t => subst hx; exact hr.1
  case ife a t =>
    rcases hx with rfl | rfl
    · show 0 ≤ n + 1; omega
    · exact hr.2.1
  all_goals (first | (subst hx; show 0 ≤ n + 1; omega) | cases hx)
theorem lev_qi {C : Pc} {B : Nat} (hC : Mc14 C B) {M0 : List (Int × Hd)} : ∀ {L : List Itm} {q : Cq}, (∀ x ∈ L, Vs C B (keyL x)) → Qi C B M0 q → ∃ q', lev C L q = .ok q' ∧ Qi C B M0 q'
  | [], q, _, h => ⟨q, rfl, h⟩
  | x :: L, q, hL, h => by
    have v := hL x List.mem_cons_self
    have hi : x.1.toNat < C.rows.length := by have := v.hi; have := v.lo; unfold keyL at *; omega
    have er : C.rows[x.1.toNat]? = some (C.rows[x.1.toNat]) := List.getElem?_eq_getElem hi
    have eg : C.gs[x.1.toNat]? = some (grpM (C.rows[x.1.toNat])) := by rw [hC.gs, List.getElem?_map, er]; rfl
    generalize C.rows[x.1.toNat] = r at *
    have hr := hC.ro r (List.mem_of_getElem? er)
    obtain ⟨s1, s2⟩ := md_step v.md hC.b3 hC.nn hC.ea hr
    have hb : C.beh r (grpM r) x.2.1 = hbeh C.eaten (B : Int) x.2.1 r (grpM r) := by unfold Pc.beh; rw [hC.bx]
    have ok2 : HdOk C.P C.N (hbeh C.eaten (B : Int) x.2.1 r (grpM r)) := hbeh_ok v.ok hr
    unfold lev
    rw [er, eg]
    dsimp only
    have na : (isAsk r && !sameH r (grpM r) (mvs C.boxes x.2.1 (grpM r).ahead)) = false := by
      cases ha : isAsk r with
      | false => rfl
      | true =>
        rw [hC.bx]
        have := s1 ha
        show (true && !sameH r (grpM r) (mvs (B : Int) x.2.1 (grpM r).ahead)) = false
        have e : (keyL x).2 = x.2.1 := rfl
        rw [e] at this
        rw [this]
        rfl
    rw [na, if_neg (by decide), hb]
    exact lev_qi hC (fun y hy => hL y (List.mem_cons_of_mem _ hy)) (puts_qi s2 ok2 h (nxt_nn v.lo hr))
theorem bfs_none {C : Pc} {B : Nat} (hC : Mc14 C B) : ∀ (n : Nat) (L : List Itm) (M : List (Int × Hd)), (∀ x ∈ L, Vs C B (keyL x)) → M.Nodup → (∀ x ∈ M, Vs C B x) → L.length ≤ M.length → 327680 + 2 ≤ M.length + n → bfs C 8000000 n L M = some none
  | 0, L, M, _, hn, hv, _, hl => by have := vs_count hC.p3 hC.rl hn hv; omega
  | n + 1, L, M, hL, hn, hv, hlm, hl => by
    have hc := vs_count hC.p3 hC.rl hn hv
    unfold bfs
    by_cases c : L = []
    · rw [if_pos c]
    · rw [if_neg c, if_pos (by omega)]
      obtain ⟨q, e, h⟩ := lev_qi hC (M0 := M) (q := ⟨M, []⟩) hL ⟨by simp, hn, hv⟩
      rw [e]
      dsimp only
      have hlen : q.M.length = M.length + q.L.length := by rw [h.eq]; simp
      have hq := vs_count hC.p3 hC.rl h.nd h.vs
      by_cases c2 : q.L = []
      · rw [c2]
        obtain ⟨m, rfl⟩ : ∃ m, n = m + 1 := ⟨n - 1, by omega⟩
        unfold bfs
        rw [if_pos rfl]
      · have : 0 < q.L.length := List.length_pos_iff.mpr c2
        refine bfs_none hC n q.L q.M (fun x hx => h.vs _ ?_) h.nd h.vs (by omega) (by omega)
        rw [h.eq]
        exact List.mem_append_right _ (List.mem_map.mpr ⟨x, hx, rfl⟩)
end PG
end
section
set_option linter.all false
set_option autoImplicit false
set_option maxRecDepth 100003
namespace PG
open PF
def gi (h : List Int) (p : Nat) : Int := h.getD p 0
theorem rd_gi {h : List Int} {p : Nat} : rd h (p : Int) = gi h p := by unfold rd gi; rw [Int.toNat_natCast]
theorem gi_set {h : List Int} {i p : Nat} {x : Int} (hi : i < h.length) : gi (h.set i x) p = if i = p then x else gi h p := by
  unfold gi
  rw [List.getD_eq_getElem?_getD, List.getElem?_set, List.getD_eq_getElem?_getD]
  by_cases c : i = p
  · rw [if_pos c, if_pos c, if_pos hi]
    rfl
  · rw [if_neg c, if_neg c]
theorem eat_lenI {jf : Nat → Int} : ∀ {es : List Int} {n : Nat} {h : List Int}, (eat jf es n h).length = h.length
  | [], _, _ => rfl
  | e :: es, n, h => by
    show (eat jf es (n + 1) (h.set e.toNat (jf n))).length = _
    rw [eat_lenI, List.length_set]
theorem gi_eat {jf : Nat → Int} {p : Nat} : ∀ {es : List Int} {n : Nat} {h : List Int}, (∀ e ∈ es, e.toNat ≠ p) → gi (eat jf es n h) p = gi h p
  | [], _, _, _ => rfl
  | e :: es, n, h, he => by
    show gi (eat jf es (n + 1) (h.set e.toNat (jf n))) p = _
    rw [gi_eat fun x hx => he x (List.mem_cons_of_mem _ hx)]
    unfold gi
    rw [List.getD_eq_getElem?_getD, List.getElem?_set, if_neg (he e List.mem_cons_self), List.getD_eq_getElem?_getD]
theorem mvi_load {B : Nat} {h : List Int} {b k : Nat} (hl : B + k < h.length) : mv1 (B : Int) h (.load (b : Int) (k : Int)) = h.set b (gi h (B + k)) := by
  have e : ((B : Int) + (k : Int)).toNat = B + k := by omega
  unfold mv1
  dsimp only
  rw [e, List.getElem?_eq_getElem hl]
  dsimp only
  rw [Int.toNat_natCast]
  congr 1
  unfold gi
  rw [List.getD_eq_getElem?_getD, List.getElem?_eq_getElem hl]
  rfl
theorem mvi_store {B : Nat} {h : List Int} {b k : Nat} (hl : b < h.length) : mv1 (B : Int) h (.store (k : Int) (b : Int)) = h.set (B + k) (gi h b) := by
  have e : ((B : Int) + (k : Int)).toNat = B + k := by omega
  unfold mv1
  dsimp only
  rw [e, Int.toNat_natCast, List.getElem?_eq_getElem hl]
  dsimp only
  congr 1
  unfold gi
  rw [List.getD_eq_getElem?_getD, List.getElem?_eq_getElem hl]
  rfl
/-- each name lies in its slot -/
structure Sl (P B N : Nat) (h nm : List Int) : Prop where
  hl : h.length = N
  nl : nm.length = P
  eq : ∀ k, k < P → gi h (B + k) = gi nm k
theorem Sl.set {P B N i : Nat} {h nm : List Int} {x : Int} (s : Sl P B N h nm) (hB : 3 ≤ B) (hN : B ≤ N) (hi : i < 3) : Sl P B N (h.set i x) nm := by
  refine ⟨by rw [List.length_set]; exact s.hl, s.nl, fun k hk => ?_⟩
  rw [gi_set (by rw [s.hl]; omega), if_neg (by omega)]
  exact s.eq k hk
theorem Sl.eat {P B N : Nat} {h nm es : List Int} {jf : Nat → Int} {n : Nat} (s : Sl P B N h nm) (he : ∀ e ∈ es, In0 e (B : Int)) : Sl P B N (eat jf es n h) nm := by
  refine ⟨by rw [eat_lenI]; exact s.hl, s.nl, fun k hk => ?_⟩
  rw [gi_eat fun e he' => by have := he e he'; unfold In0 at this; omega]
  exact s.eq k hk
theorem Sl.put {P B N d : Nat} {h nm : List Int} {v : Int} (s : Sl P B N h nm) (hB : 3 ≤ B) (hN : B + P ≤ N) (hd : d < P) : Sl P B N (mvs (B : Int) (h.set (2 : Int).toNat v) [.store (d : Int) 2]) (nm.set (d : Int).toNat v) := by
  have s2 := s.set (i := 2) (x := v) hB (by omega) (by omega)
  have e2 : mvs (B : Int) (h.set (2 : Int).toNat v) [.store (d : Int) 2] = (h.set 2 v).set (B + d) v := by
    have : mv1 (B : Int) (h.set 2 v) (.store (d : Int) 2) = (h.set 2 v).set (B + d) (gi (h.set 2 v) 2) := mvi_store (b := 2) (by rw [s2.hl]; omega)
    have e : gi (h.set 2 v) 2 = v := by rw [gi_set (by rw [s.hl]; omega), if_pos rfl]
    rw [e] at this
    exact this
  rw [e2, Int.toNat_natCast]
  refine ⟨by rw [List.length_set]; exact s2.hl, by rw [List.length_set]; exact s.nl, fun k hk => ?_⟩
  rw [gi_set (h := h.set 2 v) (by rw [s2.hl]; omega), gi_set (h := nm) (by rw [s.nl]; omega)]
  by_cases c : d = k
  · rw [if_pos (by omega), if_pos c]
  · rw [if_neg (by omega), if_neg c]
    exact s2.eq k hk
theorem sl_load0 {P B N a : Nat} {h nm : List Int} (s : Sl P B N h nm) (hB : 3 ≤ B) (hN : B + P ≤ N) (ha : a < P) : ∃ h1, mvs (B : Int) h [.load 0 (a : Int)] = h1 ∧ Sl P B N h1 nm ∧ gi h1 0 = gi nm a := by
  have e : mvs (B : Int) h [.load 0 (a : Int)] = h.set 0 (gi h (B + a)) := mvi_load (b := 0) (by rw [s.hl]; omega)
  refine ⟨_, e, s.set hB (by omega) (by omega), ?_⟩
  rw [gi_set (by rw [s.hl]; omega), if_pos rfl]
  exact s.eq a ha
theorem sl_load1 {P B N a b : Nat} {h nm : List Int} (s : Sl P B N h nm) (hB : 3 ≤ B) (hN : B + P ≤ N) (ha : a < P) (hb : b < P) : ∃ h1, mvs (B : Int) h [.load 0 (a : Int), .load 1 (b : Int)] = h1 ∧ Sl P B N h1 nm ∧ gi h1 0 = gi nm a ∧ gi h1 1 = gi nm b := by
  obtain ⟨h1, e, s1, h0⟩ := sl_load0 s hB hN ha
  have e2 : mv1 (B : Int) h1 (.load 1 (b : Int)) = h1.set 1 (gi h1 (B + b)) := mvi_load (b := 1) (by rw [s1.hl]; omega)
  refine ⟨h1.set 1 (gi h1 (B + b)), ?_, s1.set hB (by omega) (by omega), ?_, ?_⟩
  · rw [← e2, ← e]
    rfl
  · rw [gi_set (by rw [s1.hl]; omega), if_neg (by omega)]
    exact h0
  · rw [gi_set (by rw [s1.hl]; omega), if_pos rfl]
    exact s1.eq b hb
structure RelM (P B N : Nat) (b : Bc) (m : Mc) : Prop where
  at_ : b.at_ = m.at_
  sd : b.said = m.said
  dn : b.done = m.done
  sl : Sl P B N b.held m.held
theorem md_run1 {P B N : Nat} {eaten : List Int} {many : Int} {jf : Nat → Int} {b : Bc} {m : Mc} {r : Row} (h : RelM P B N b m) (hB : 3 ≤ B) (hN : B + P ≤ N) (he : ∀ e ∈ eaten, In0 e (B : Int)) (hr : r.ok (P : Int) many) : RelM P B N (bstep jf (B : Int) eaten b r (grpM r)) (r.step m) := by
  obtain ⟨ea, es, ed, sl⟩ := h
  have dn : b.done + 1 = m.done + 1 := by rw [ed]
  cases r with
  | put d k =>
    obtain ⟨d, rfl, hd⟩ := nat_of hr.1
    exact ⟨by show b.at_ + 1 = m.at_ + 1; rw [ea], es, dn, sl.put hB hN hd⟩
  | copy d a =>
    obtain ⟨d, rfl, hd⟩ := nat_of hr.1
    obtain ⟨a, rfl, ha⟩ := nat_of hr.2
    obtain ⟨h1, e1, s1, g1⟩ := sl_load0 sl hB hN ha
    refine ⟨by show b.at_ + 1 = m.at_ + 1; rw [ea], es, dn, ?_⟩
    show Sl P B N (mvs (B : Int) ((mvs (B : Int) b.held [.load 0 (a : Int)]).set (2 : Int).toNat (gi (mvs (B : Int) b.held [.load 0 (a : Int)]) 0)) [.store (d : Int) 2]) (m.held.set (d : Int).toNat (rd m.held (a : Int)))
    rw [e1, g1, rd_gi]
    exact s1.put hB hN hd
  | op o d a c =>
    obtain ⟨d, rfl, hd⟩ := nat_of hr.1
    obtain ⟨a, rfl, ha⟩ := nat_of hr.2.1
    obtain ⟨c, rfl, hc⟩ := nat_of hr.2.2
    obtain ⟨h1, e1, s1, g1, g2⟩ := sl_load1 sl hB hN ha hc
    refine ⟨by show b.at_ + 1 = m.at_ + 1; rw [ea], es, dn, ?_⟩
    show Sl P B N (mvs (B : Int) ((mvs (B : Int) b.held [.load 0 (a : Int), .load 1 (c : Int)]).set (2 : Int).toNat (o.v (gi (mvs (B : Int) b.held [.load 0 (a : Int), .load 1 (c : Int)]) 0) (gi (mvs (B : Int) b.held [.load 0 (a : Int), .load 1 (c : Int)]) 1))) [.store (d : Int) 2]) (m.held.set (d : Int).toNat (o.v (rd m.held (a : Int)) (rd m.held (c : Int))))
    rw [e1, g1, g2, rd_gi, rd_gi]
    exact s1.put hB hN hd
  | call d a =>
    obtain ⟨d, rfl, hd⟩ := nat_of hr.1
    obtain ⟨a, rfl, ha⟩ := nat_of hr.2
    obtain ⟨h1, e1, s1, g1⟩ := sl_load0 sl hB hN ha
    refine ⟨by show b.at_ + 1 = m.at_ + 1; rw [ea], es, dn, ?_⟩
    show Sl P B N (mvs (B : Int) ((eat jf eaten b.many (mvs (B : Int) b.held [.load 0 (a : Int)])).set (2 : Int).toNat ((gi (mvs (B : Int) b.held [.load 0 (a : Int)]) 0 * gi (mvs (B : Int) b.held [.load 0 (a : Int)]) 0 * 7 + gi (mvs (B : Int) b.held [.load 0 (a : Int)]) 0 + 3) % 1000)) [.store (d : Int) 2]) (m.held.set (d : Int).toNat ((rd m.held (a : Int) * rd m.held (a : Int) * 7 + rd m.held (a : Int) + 3) % 1000))
    rw [e1, g1, rd_gi]
    exact (s1.eat he).put hB hN hd
  | say a =>
    obtain ⟨a, rfl, ha⟩ := nat_of hr
    obtain ⟨h1, e1, s1, g1⟩ := sl_load0 sl hB hN ha
    refine ⟨by show b.at_ + 1 = m.at_ + 1; rw [ea], ?_, dn, ?_⟩
    · show b.said ++ [gi (mvs (B : Int) b.held [.load 0 (a : Int)]) 0] = m.said ++ [rd m.held (a : Int)]
      rw [e1, g1, rd_gi, es]
    · show Sl P B N (mvs (B : Int) b.held [.load 0 (a : Int)]) m.held
      rw [e1]; exact s1
  | ife a t =>
    obtain ⟨a, rfl, ha⟩ := nat_of hr.1
    obtain ⟨h1, e1, s1, g1⟩ := sl_load0 sl hB hN ha
    refine ⟨?_, es, dn, ?_⟩
    · show (if gi (mvs (B : Int) b.held [.load 0 (a : Int)]) 0 = 0 then b.at_ + 1 else t) = (if rd m.held (a : Int) = 0 then m.at_ + 1 else t)
      rw [e1, g1, rd_gi, ea]
    · show Sl P B N (mvs (B : Int) b.held [.load 0 (a : Int)]) m.held
      rw [e1]; exact s1
  | go t => exact ⟨rfl, es, dn, sl⟩
  | fin => exact ⟨by show b.at_ + 1 = m.at_ + 1; rw [ea], es, dn, sl⟩
theorem md_run {P B N : Nat} {eaten : List Int} {jf : Nat → Int} {rows : List Row} (hB : 3 ≤ B) (hN : B + P ≤ N) (he : ∀ e ∈ eaten, In0 e (B : Int)) (hr : ∀ r ∈ rows, r.ok (P : Int) rows.length) : ∀ (n : Nat) (b : Bc) (m : Mc), RelM P B N b m → RelM P B N (brun jf (B : Int) eaten rows (rows.map grpM) n b) (mrun rows n m)
  | 0, _, _, h => h
  | n + 1, b, m, h => by
    unfold brun mrun
    rw [h.at_]
    rw [List.getElem?_map]
    cases e : rows[m.at_.toNat]? with
    | none => exact h
    | some r =>
      dsimp only [Option.map_some]
      by_cases c : r.isFin = true
      · rw [if_pos c, if_pos c]
        exact h
      · rw [if_neg c, if_neg c]
        exact md_run hB hN he hr n _ _ (md_run1 h hB hN he (hr r (List.mem_of_getElem? e)))
def plsM (P : Nat) : List Pl := (List.range P).map fun k : Nat => .slot (k : Int)
theorem lay_slots {α : Type} {B : Nat} : ∀ {n s : Nat} {h xs : List α}, xs.length = n → B + s + n ≤ h.length → (lay (B : Int) h ((List.range' s n).map fun k : Nat => Pl.slot (k : Int)) xs).length = h.length ∧ ∀ p, (lay (B : Int) h ((List.range' s n).map fun k : Nat => Pl.slot (k : Int)) xs)[p]? = if B + s ≤ p ∧ p < B + s + n then xs[p - (B + s)]? else h[p]?
  | 0, s, h, xs, hx, hl => by
    have : xs = [] := List.length_eq_zero_iff.mp hx
    subst this
    refine ⟨rfl, fun p => ?_⟩
    rw [if_neg (by omega)]
    rfl
  | n + 1, s, h, x :: xs, hx, hl => by
    have e : pix (B : Int) (.slot (s : Int)) = ((B + s : Nat) : Int) := by show (B : Int) + (s : Int) = _; omega
    have e2 : lay (B : Int) h ((List.range' s (n + 1)).map fun k : Nat => Pl.slot (k : Int)) (x :: xs) = lay (B : Int) (h.set (B + s) x) ((List.range' (s + 1) n).map fun k : Nat => Pl.slot (k : Int)) xs := by
      rw [List.range'_succ, List.map_cons]
      show lay (B : Int) (h.set (pix (B : Int) (.slot (s : Int))).toNat x) _ xs = _
      rw [e, Int.toNat_natCast]
    rw [e2]
    obtain ⟨h1, h2⟩ := lay_slots (B := B) (n := n) (s := s + 1) (h := h.set (B + s) x) (xs := xs) (by simpa using hx) (by rw [List.length_set]; omega)
    refine ⟨by rw [h1, List.length_set], fun p => ?_⟩
    rw [h2 p]
    by_cases c : p = B + s
    · subst c
      rw [if_neg (by omega), if_pos (by omega), List.getElem?_set, if_pos rfl, if_pos (by omega), Nat.sub_self]
      rfl
    · by_cases c2 : B + s ≤ p ∧ p < B + s + (n + 1)
      · rw [if_pos (by omega), if_pos c2, show p - (B + s) = (p - (B + (s + 1))) + 1 by omega, List.getElem?_cons_succ]
      · rw [if_neg (by omega), if_neg c2, List.getElem?_set, if_neg (by omega)]
theorem range_r {n : Nat} : List.range n = List.range' 0 n := List.range_eq_range'
theorem hd0_md {P B N : Nat} (hN : B + P ≤ N) : MdI P B N (-1) (hd0 (B : Int) N (plsM P)) := by
  have hx : (((List.range (plsM P).length).map fun i : Nat => [(i : Int)])).length = P := by simp [plsM]
  have e : hd0 (B : Int) N (plsM P) = lay (B : Int) (List.replicate N []) ((List.range' 0 P).map fun k : Nat => Pl.slot (k : Int)) ((List.range (plsM P).length).map fun i : Nat => [(i : Int)]) := by
    unfold hd0
    congr 1
    unfold plsM
    rw [range_r]
  obtain ⟨h1, h2⟩ := lay_slots (B := B) (n := P) (s := 0) (h := List.replicate N ([] : List Int)) (xs := (List.range (plsM P).length).map fun i : Nat => [(i : Int)]) hx (by rw [List.length_replicate]; omega)
  rw [← e] at h1 h2
  have out : ∀ p, ¬ (B + 0 ≤ p ∧ p < B + 0 + P) → gd (hd0 (B : Int) N (plsM P)) p = [] := fun p c => by
    unfold gd
    rw [List.getD_eq_getElem?_getD, h2 p, if_neg c, List.getElem?_replicate]
    split <;> rfl
  refine ⟨by rw [h1, List.length_replicate], fun p _ c => out p (by omega), fun p c => out p (by omega), fun k hk _ => ?_⟩
  unfold gd
  rw [List.getD_eq_getElem?_getD, h2, if_pos (by omega), List.getElem?_map, List.getElem?_range (by simp [plsM]; omega)]
  simp
theorem md_begin {P B N : Nat} {jf : Nat → Int} {gs : List Int} (hN : B + P ≤ N) (hg : gs.length = P) : RelM P B N (bc0 jf (B : Int) N (plsM P) gs) ⟨0, gs, [], 0⟩ := by
  have e : lay (B : Int) ((List.range N).map jf) (plsM P) gs = lay (B : Int) ((List.range N).map jf) ((List.range' 0 P).map fun k : Nat => Pl.slot (k : Int)) gs := by
    unfold plsM
    rw [range_r (n := P)]
  obtain ⟨h1, h2⟩ := lay_slots (B := B) (n := P) (s := 0) (h := (List.range N).map jf) (xs := gs) hg (by rw [List.length_map, List.length_range]; omega)
  rw [← e] at h1 h2
  refine ⟨rfl, rfl, rfl, ⟨?_, hg, fun k hk => ?_⟩⟩
  · show (lay (B : Int) ((List.range N).map jf) (plsM P) gs).length = N
    rw [h1, List.length_map, List.length_range]
  · show gi (lay (B : Int) ((List.range N).map jf) (plsM P) gs) (B + k) = gi gs k
    unfold gi
    rw [List.getD_eq_getElem?_getD, h2, if_pos (by omega), List.getD_eq_getElem?_getD]
    congr 2
    omega
end PG
end
section
set_option linter.all false
set_option autoImplicit false
set_option maxRecDepth 100003
namespace PG
open PF
theorem w_trg {S : Sto} {ρ : Env} {P : D → Sto → Prop} {i : I} : wp (eTRg i ρ S) P = wp (i ρ S) fun it S => it.all.length ≤ LIM ∧ P (.tup it.all) S := by
  unfold eTRg
  rw [wp_bind]
  congr
  funext it S
  split
  · rename_i c
    simp [wp_ok, c]
  · rename_i c
    simp [wp_bad, c]
theorem group_of_spec {S : Sto} {r : Row} : wp (f_group_of [r.D] S) fun d S' => d = (grpM r).D ∧ Keep [] S S' := by
  have n3 : ∀ n : Nat, n ≤ 3 → n ≤ LIM := fun n h => by unfold LIM; omega
  unfold f_group_of b_group_of
  simp_arith []
  refine wp_mono names_of_spec ?_
  rintro _ S1 ⟨rfl, k1⟩
  have step : ∀ S2, Keep [] S1 S2 → Keep [] S S2 := fun S2 k => k1.trans k
  cases r with
  | op o d a b =>
    cases o <;> (simp_arith [makes_eq, Row.nms, w_slice, w_osome, w_onone, w_gslT, cutA1, cutA2, cutA3, cutA4, w_trg, v_enum, seqZ, chkOf, enumD, w_ccons, w_cnil, same_nil, lstOf_len, lstOf_0, w_lenT, range0, range1, range2, range3, w_addT, at0]
                 repeat' (refine And.intro ?_ ?_)
                 all_goals first | decide | exact n3 _ (by decide) | rfl | exact step _ .app)
  | _ =>
    simp_arith [makes_eq, Row.nms, w_slice, w_osome, w_onone, w_gslT, cutA1, cutA2, cutA3, cutA4, w_trg, v_enum, seqZ, chkOf, enumD, w_ccons, w_cnil, same_nil, lstOf_len, lstOf_0, w_lenT, range0, range1, range2, range3, w_addT, at0]
    repeat' (refine And.intro ?_ ?_)
    all_goals first | decide | exact n3 _ (by decide) | rfl | exact step _ .app | exact step _ .refl
/-- the choice made -/
def chM (P : Nat) (rows : List Row) : Choice := ⟨plsM P, rows.map grpM⟩
theorem slots_loop {S : Sto} {ρ : Env} {i P : Nat} (hi : i < ρ.length) :
    wp (compLoop ⟨[], rangeD 0 (P : Int)⟩ (PF.gName i) tYes (eTup (aCons (eC (.str z_slot)) (aCons (eVar i) (aNil)))) ρ (rangeD 0 (P : Int)) S) fun ys S' => ys = (plsM P).map Pl.D ∧ S' = S := by
  refine wp_mono (wp_loop (it := ⟨[], rangeD 0 (P : Int)⟩) (fun k acc S' => acc = (plsM k).map Pl.D ∧ S' = S) (fun _ _ _ _ => rfl) ?_ ⟨rfl, rfl⟩) ?_
  · rintro k x acc S1 hx ⟨rfl, rfl⟩
    obtain ⟨rfl, hlt⟩ := rangeD_get hx
    refine ⟨_, rfl, ?_⟩
    have e1 : (ρ.set i (some (.int (0 + (k : Int)))))[i]? = some (some (.int (0 + (k : Int)))) := by rw [List.getElem?_set_self hi]
    simp_arith [e1]
    unfold plsM
    rw [List.range_succ]
    simp [Pl.D]
  · rintro ys S1 ⟨rfl, rfl⟩
    have e : (Iter.mk [] (rangeD 0 (P : Int))).all.length = P := by show (rangeD 0 (P : Int)).length = P; rw [rangeD_len]; omega
    rw [e]
    exact ⟨rfl, rfl⟩
theorem plsM_len {P : Nat} : (plsM P).length = P := by simp [plsM]
theorem made_spec {S : Sto} {params boxes slots : Int} {P : Nat} {rows : List Row} {eaten : List Int} (hP : ProgOk params (P : Int) rows) (hF : FrameOk boxes slots eaten) (hp : params = (P : Int)) (hb : 3 ≤ boxes) (hs : (P : Int) ≤ slots) :
    wp (f_made [progD params (P : Int) rows, frameD boxes slots eaten] S) fun d S' => d = (chM P rows).D ∧ Keep [] S S' := by
  subst hp
  have hn := hP.nm
  have hl := hP.ln
  unfold f_made b_made
  simp_arith []
  refine wp_mono (need_program_spec hP) ?_
  rintro _ S1 ⟨rfl, k1⟩
  simp_arith []
  refine wp_mono (need_frame_spec hF) ?_
  rintro _ S2 ⟨rfl, k2⟩
  have K2 := k1.trans k2
  have fp : progD (P : Int) (P : Int) rows = .tup [.int (P : Int), .int (P : Int), .tup (rows.map Row.D)] := rfl
  have ff : frameD boxes slots eaten = .tup [.int boxes, .int slots, .tup (eaten.map .int)] := rfl
  rw [fp, ff]
  simp_arith [at0, at_1, at_2, decide_eq_false (show ¬ boxes ≤ 2 by omega), decide_eq_false (show ¬ slots < (P : Int) by omega)]
  refine ⟨by omega, ?_⟩
  refine wp_mono (slots_loop (i := 3) (by simp)) ?_
  rintro _ S3 ⟨rfl, rfl⟩
  refine ⟨by rw [List.length_map, plsM_len]; exact lim_le (by omega), ?_⟩
  simp_arith [lstOf_len, lstOf_0, chkOf]
  refine wp_mono (wp_loop (it := ⟨[], rows.map Row.D⟩) (fun k acc S' => acc = ((rows.take k).map grpM).map Grp.D ∧ Keep [] S S') (fun _ _ _ _ => rfl) ?_ ⟨rfl, K2.trans .app⟩) ?_
  · rintro k x acc S4 hx ⟨rfl, k4⟩
    rw [List.getElem?_map] at hx
    cases e : rows[k]? with
    | none => rw [e] at hx; cases hx
    | some r =>
      rw [e] at hx
      cases hx
      refine ⟨_, rfl, ?_⟩
      simp_arith []
      refine wp_mono group_of_spec ?_
      rintro _ S5 ⟨rfl, k5⟩
      exact ⟨by rw [List.take_add_one, e]; simp, k4.trans k5⟩
  · rintro ys S4 ⟨rfl, k4⟩
    have e : (Iter.mk [] (rows.map Row.D)).all.length = rows.length := by simp
    rw [e, List.take_length]
    refine ⟨by rw [List.length_map, List.length_map]; exact lim_le (by omega), ?_⟩
    simp_arith [lstOf_len, lstOf_0]
    exact ⟨rfl, k4.trans .app⟩
theorem lgroups_spec {S : Sto} {params names : Int} {rows : List Row} (hl : rows.length ≤ 1000) :
    wp (f__law_groups [progD params names rows] S) fun d S' => d = .tup ((rows.map grpM).map Grp.D) ∧ Keep [] S S' := by
  have n3 : ∀ n : Nat, n ≤ 3 → n ≤ LIM := fun n h => by unfold LIM; omega
  have fp : progD params names rows = .tup [.int params, .int names, .tup (rows.map Row.D)] := rfl
  unfold f__law_groups b__law_groups
  rw [fp]
  simp_arith [at_2, chkOf]
  have g0 : (S ++ [MO.lst []])[S.length]? = some (.lst []) := get_last
  have k0 : Keep [] S (S ++ [MO.lst []]) := .app
  have l0 : S.length ≤ S.length := Nat.le_refl _
  generalize hfr : S.length = fr at *
  generalize S ++ [MO.lst []] = S0 at *
  refine wp_for (it := ⟨[], rows.map Row.D⟩) (fun k ρ S' => (∃ c2 c3 c4 c5, ρ = [some (.tup [.int params, .int names, .tup (rows.map Row.D)]), some (.ref fr), c2, c3, c4, c5]) ∧ S'[fr]? = some (.lst (((rows.take k).map grpM).map Grp.D)) ∧ Keep [] S S') (fun _ _ _ _ => rfl) ?_ ⟨⟨_, _, _, _, rfl⟩, g0, k0⟩ ?_
  · rintro k x ρ S1 hx ⟨⟨c2, c3, c4, c5, rfl⟩, g1, k1⟩
    rw [List.getElem?_map] at hx
    cases e : rows[k]? with
    | none => rw [e] at hx; cases hx
    | some r =>
      rw [e] at hx
      cases hx
      refine ⟨_, rfl, ?_⟩
      have hlen : ((rows.take k).map grpM).length ≤ 1000 := by simp; omega
      have ek : (rows.take (k + 1)).map grpM = (rows.take k).map grpM ++ [grpM r] := by rw [List.take_add_one, e]; simp
      rw [ek]
      generalize (rows.take k).map grpM = gs at *
      have wA : ∀ U V, wrOf fr (S1 ++ U ++ V) = some (gs.map Grp.D) := fun U V => wrOf_lst (get_app (get_app g1))
      have iA : ∀ U V, isL (.ref fr) (S1 ++ U ++ V) = true := fun U V => isL_lst (get_app (get_app g1))
      have wB : ∀ U V W, wrOf fr (S1 ++ U ++ V ++ W) = some (gs.map Grp.D) := fun U V W => wrOf_lst (get_app (get_app (get_app g1)))
      have iB : ∀ U V W, isL (.ref fr) (S1 ++ U ++ V ++ W) = true := fun U V W => isL_lst (get_app (get_app (get_app g1)))
      have lA : ∀ (U : List D) (V : Sto), lstOf S1.length (S1 ++ [MO.lst U] ++ V) = some U := fun U V => lstOf_lst (get_app get_last)
      have lB : ∀ (U : List D) (V W : Sto), lstOf S1.length (S1 ++ [MO.lst U] ++ V ++ W) = some U := fun U V W => lstOf_lst (get_app (get_app get_last))
      have lC : ∀ (U : List D) (V : Sto) (o : MO), lstOf (S1 ++ [o]).length (S1 ++ [o] ++ [MO.lst U] ++ V) = some U := fun U V o => lstOf_lst (get_app get_last)
      have setA : ∀ (U V : Sto) (x : D), (S1 ++ U ++ V).set fr (.lst (gs.map Grp.D ++ [x])) = (S1 ++ U ++ V).set fr (.lst (gs.map Grp.D ++ [x])) := fun _ _ _ => rfl
      have kA : ∀ (U : Sto) (x : MO), Keep [] S1 U → Keep [] S (U.set fr x) := fun U x k => by
        have := (k1.trans k).len
        refine ⟨by simp; omega, fun i hi _ => ?_⟩
        rw [List.getElem?_set_ne (by omega)]
        exact ((k1.trans k).get i hi (by simp))
      have gA : ∀ (U : Sto) (x : MO), Keep [] S1 U → (U.set fr x)[fr]? = some x := fun U x k => get_set (lt_of_get (k.at g1 (by simp)))
      have mp : ∀ g : Grp, (gs ++ [g]).map Grp.D = gs.map Grp.D ++ [g.D] := fun g => by simp
      rw [mp]
      cases r with
      | op o d a b =>
        cases o <;> ((simp_arith [v_in, v_notIn, inB, D.scal, inTree, tree_strlit, allSome, List.all_cons, List.all_nil, List.any_cons, List.any_nil, J.eqv, List.cons_beq_cons, cons_beq_nil, nil_beq_cons, Nat.reduceBEq, Nat.reduceLT, Bool.and_self, BEq.rfl, w_slice, w_osome, w_onone, gslN, cutB1, cutB2, cutB3, cutA1, cutA2, cutA3, cutA4, b2iF, b2iT, Row.D, Op3.s, at0, at_1, at_2, w_slice, w_osome, w_onone, w_gslT, cut2, cut3, cut4, cut1, lstOf_len, lstOf_0, w_trg, w_lenT, range0, range1, range2, range3, w_ccons, w_cnil, same_nil, w_addT, lA, lB, lC, wA, iA, wB, iB])
                     repeat' (refine And.intro ?_ ?_)
                     all_goals first | decide | exact n3 _ (by decide) | exact ⟨_, _, _, _, rfl⟩ | exact gA _ _ (.trans .app .app) | exact gA _ _ (.trans (.trans .app .app) .app) | exact kA _ _ (.trans .app .app) | exact kA _ _ (.trans (.trans .app .app) .app) | (rw [List.length_map]; unfold LIM; omega) | rfl)
      | _ =>
        (simp_arith [v_in, v_notIn, inB, D.scal, inTree, tree_strlit, allSome, List.all_cons, List.all_nil, List.any_cons, List.any_nil, J.eqv, List.cons_beq_cons, cons_beq_nil, nil_beq_cons, Nat.reduceBEq, Nat.reduceLT, Bool.and_self, BEq.rfl, w_slice, w_osome, w_onone, gslN, cutB1, cutB2, cutB3, cutA1, cutA2, cutA3, cutA4, b2iF, b2iT, Row.D, at0, at_1, at_2, w_slice, w_osome, w_onone, w_gslT, cut2, cut3, cut4, cut1, lstOf_len, lstOf_0, w_trg, w_lenT, range0, range1, range2, range3, w_ccons, w_cnil, same_nil, w_addT, lA, lB, lC, wA, iA, wB, iB])
        repeat' (refine And.intro ?_ ?_)
        all_goals first | decide | exact n3 _ (by decide) | exact ⟨_, _, _, _, rfl⟩ | exact gA _ _ (.trans .app .app) | exact gA _ _ (.trans (.trans .app .app) .app) | exact kA _ _ (.trans .app .app) | exact kA _ _ (.trans (.trans .app .app) .app) | (rw [List.length_map]; unfold LIM; omega) | rfl
  · rintro ρ S1 ⟨⟨c2, c3, c4, c5, rfl⟩, g1, k1⟩
    have e : (Iter.mk [] (rows.map Row.D)).all.length = rows.length := by simp
    rw [e, List.take_length] at g1
    simp_arith [lstOf_lst g1]
    exact k1
end PG
end
section
set_option linter.all false
set_option autoImplicit false
set_option maxRecDepth 100003
namespace PG
open PF
/-- a tree that is like itself -/
def alOk : Nat → D → Bool
  | 0, _ => false
  | _ + 1, .ref _ => false
  | k + 1, .tup ds => decide (ds.length < 2 ^ 62) && ds.all (alOk k)
  | _ + 1, _ => true
theorem al_flat {S : Sto} : ∀ {k : Nat} {d : D}, alOk k d = true → Ev k d d S
  | 0, _, h => by cases h
  | k + 1, .non, _ => al_non
  | k + 1, .bl _, _ => al_bl
  | k + 1, .int _, _ => al_int
  | k + 1, .str _, _ => al_str
  | k + 1, .ref _, h => by cases h
  | k + 1, .tup ds, h => by
    simp only [alOk, Bool.and_eq_true, decide_eq_true_eq, List.all_eq_true] at h
    exact al_tup rfl h.1 fun i a b ha hb => by
      rw [ha] at hb
      cases hb
      exact al_flat (h.2 a (List.mem_of_getElem? ha))
theorem alOk_mono : ∀ {k : Nat} {d : D}, alOk k d = true → alOk (k + 1) d = true
  | 0, _, h => by cases h
  | k + 1, .non, _ => rfl
  | k + 1, .bl _, _ => rfl
  | k + 1, .int _, _ => rfl
  | k + 1, .str _, _ => rfl
  | k + 1, .ref _, h => by cases h
  | k + 1, .tup ds, h => by
    simp only [alOk, Bool.and_eq_true, decide_eq_true_eq, List.all_eq_true] at h ⊢
    exact ⟨h.1, fun d hd => alOk_mono (h.2 d hd)⟩
theorem alOk_le {k m : Nat} {d : D} (h : alOk k d = true) (l : k ≤ m) : alOk m d = true := by
  induction l with
  | refl => exact h
  | step _ ih => exact alOk_mono ih
theorem alOk_tup {k : Nat} {ds : List D} (hl : ds.length < 2 ^ 62) (h : ∀ d ∈ ds, alOk k d = true) : alOk (k + 1) (.tup ds) = true := by
  simp only [alOk, Bool.and_eq_true, decide_eq_true_eq, List.all_eq_true]
  exact ⟨hl, h⟩
theorem alOk_map {k : Nat} {α : Type} {f : α → D} {xs : List α} (hl : xs.length < 2 ^ 62) (h : ∀ x ∈ xs, alOk k (f x) = true) : alOk (k + 1) (.tup (xs.map f)) = true :=
  alOk_tup (by rw [List.length_map]; exact hl) fun d hd => by
    obtain ⟨x, hx, rfl⟩ := List.mem_map.mp hd
    exact h x hx
theorem alOk_ints {k : Nat} {xs : List Int} (hl : xs.length < 2 ^ 62) : alOk (k + 2) (.tup (xs.map .int)) = true := alOk_map hl fun _ _ => rfl
theorem alOk_mv (m : Mv) : alOk 2 m.D = true := by cases m <;> rfl
theorem alOk_pl (m : Pl) : alOk 2 m.D = true := by cases m <;> rfl
theorem alOk_grp {g : Grp} (h1 : g.ahead.length ≤ 1000) (h2 : g.bx.length ≤ 1000) (h3 : g.behind.length ≤ 1000) : alOk 4 g.D = true := by
  refine alOk_tup (show 3 < 2 ^ 62 by decide) fun d hd => ?_
  simp only [List.mem_cons, List.not_mem_nil, or_false] at hd
  rcases hd with rfl | rfl | rfl
  · exact alOk_map (by omega) fun m _ => alOk_mv m
  · exact alOk_mono (alOk_ints (by omega))
  · exact alOk_map (by omega) fun m _ => alOk_mv m
theorem alOk_choice {c : Choice} (hp : c.places.length ≤ 1000) (hg : c.groups.length ≤ 1000) (h : ∀ g ∈ c.groups, alOk 4 g.D = true) : alOk 6 c.D = true := by
  refine alOk_tup (show 2 < 2 ^ 62 by decide) fun d hd => ?_
  simp only [List.mem_cons, List.not_mem_nil, or_false] at hd
  rcases hd with rfl | rfl
  · exact alOk_map (by omega) fun m _ => alOk_mono (alOk_mono (alOk_pl m))
  · exact alOk_map (by omega) fun g hg => h g hg
end PG
end
section
set_option linter.all false
set_option autoImplicit false
set_option maxRecDepth 100003
namespace PG
open PF
theorem tell_alikeB {S : Sto} {s1 s2 : Nat} {rows : List Row} {a done : Int} {l : List Int} (h1 : S[s1]? = some (.lst (l.map .int))) (h2 : S[s2]? = some (.lst (l.map .int))) (hn : l.length < 2 ^ 62) : Ev 12 (tellB s1 rows a done) (tellB s2 rows a done) S := by
  unfold tellB
  refine al_tup rfl (show 3 < 2 ^ 62 by decide) (al_cons (al_ints (lstOf_lst h1) (lstOf_lst h2) hn) (al_cons ?_ (al_cons al_int al_nil)))
  exact al_tup rfl (show 1 < 2 ^ 62 by decide) (al_cons al_str al_nil)
/-- [take(box, m) for .. in range(n)] -/
theorem takes_spec {b q i j : Nat} {S : Sto} {n m : Int} {ρ : Env} (hB : Box b q S) (hm : 0 < m ∧ m < 1073741824) (h1 : ρ[j]? = some (some (.ref b))) (hij : i ≠ j) :
    wp (compLoop ⟨[], rangeD 0 n⟩ (PF.gName i) tYes (eCall f__law_take (aCons (eVar j) (aCons (eC (.int m)) (aNil)))) ρ (rangeD 0 n) S) fun ys S' => ∃ gs : List Int, ys = gs.map .int ∧ gs.length = n.toNat ∧ (∀ g ∈ gs, In0 g m) ∧ Box b q S' ∧ Keep [b, q] S S' := by
  refine wp_mono (wp_loop (it := ⟨[], rangeD 0 n⟩) (fun k acc S' => ∃ gs : List Int, acc = gs.map D.int ∧ gs.length = k ∧ (∀ g ∈ gs, In0 g m) ∧ Box b q S' ∧ Keep [b, q] S S') (fun _ _ _ _ => rfl) ?_ ⟨[], rfl, rfl, fun _ h => (nomatch h), hB, .refl⟩) ?_
  · rintro k x acc S1 hx ⟨gs, rfl, hk, hg, B1, K1⟩
    refine ⟨_, rfl, ?_⟩
    have e1 : (ρ.set i (some x))[j]? = some (some (.ref b)) := by rw [List.getElem?_set_ne hij]; exact h1
    simp_arith [e1]
    refine take_in B1 hm fun x S2 i2 B2 k2 => ?_
    refine ⟨gs ++ [x], by simp, by simp [hk], fun g h => ?_, B2, K1.trans k2⟩
    rcases List.mem_append.mp h with h | h
    · exact hg g h
    · have : g = x := by simpa using h
      rw [this]; exact i2
  · rintro ys S1 ⟨gs, rfl, hk, hg, B1, K1⟩
    refine ⟨gs, rfl, ?_, hg, B1, K1⟩
    have e : (Iter.mk [] (rangeD 0 n)).all.length = n.toNat := by
      show (rangeD 0 n).length = _
      rw [rangeD_len]
      omega
    rw [hk, e]
end PG
end
section
set_option linter.all false
set_option autoImplicit false
set_option maxRecDepth 100003
namespace PG
open PF
theorem program_spec2 {b q : Nat} {S : Sto} {most : Int} (hB : Box b q S) (h0 : 1 ≤ most ∧ most ≤ 24) :
    wp (f__law_program_v2 [.ref b, .int most] S) fun d S' => ∃ params names rows, d = progD params names rows ∧ ProgOk params names rows ∧ names ≤ 3 ∧ (rows.length : Int) ≤ most ∧ Box b q S' ∧ Keep [b, q] S S' := by
  unfold f__law_program_v2 b__law_program_v2
  simp_arith []
  refine take_in hB (by decide) fun n0 S2 i2 B2 K2 => ?_
  have hn : 1 ≤ 1 + n0 ∧ 1 + n0 ≤ 8 := by unfold In0 at i2; omega
  have hn3 : 1 + n0 ≤ 3 := by unfold In0 at i2; omega
  simp_arith []
  generalize 1 + n0 = names at *
  refine take_in B2 ⟨by omega, by omega⟩ fun p0 S3 i3 B3 k3 => ?_
  refine take_in B3.app (by decide) fun r2 S4 i4 B4 k4 => ?_
  have K4 := ((K2.trans k3).trans .app).trans k4
  refine ix_new B3 k4 ?_
  have h5 : ∃ params, on (at? [D.int names, D.int p0] r2) (fun d => d = .int params) ∧ 0 ≤ params ∧ params ≤ names := by
    unfold In0 at i3
    obtain rfl | rfl : r2 = 0 ∨ r2 = 1 := by unfold In0 at i4; omega
    · exact ⟨names, by rw [at0]; exact ⟨_, rfl, rfl⟩, by omega, by omega⟩
    · exact ⟨p0, by rw [at_lit 1 1 rfl]; exact ⟨_, rfl, rfl⟩, by omega, by omega⟩
  obtain ⟨params, ⟨_, e5, rfl⟩, hp⟩ := h5
  rw [e5, on_some]
  refine take_in B4.app (by decide) fun r3 S5 i5 B5 k5 => ?_
  have K5 := (K4.trans .app).trans k5
  refine ix_new B4 k5 ?_
  have h6 : ∃ mm : Int, on (at? [D.int most, D.int (if 6 < most then 6 else most)] r3) (fun d => d = .int mm) ∧ 1 ≤ mm ∧ mm ≤ most := by
    obtain rfl | rfl : r3 = 0 ∨ r3 = 1 := by unfold In0 at i5; omega
    · exact ⟨most, by rw [at0]; exact ⟨_, rfl, rfl⟩, by omega, by omega⟩
    · exact ⟨if 6 < most then 6 else most, by rw [at_lit 1 1 rfl]; exact ⟨_, rfl, rfl⟩, by split <;> omega, by split <;> omega⟩
  obtain ⟨mm, ⟨_, e6, rfl⟩, hmm⟩ := h6
  rw [e6, on_some]
  refine take_in B5 ⟨by omega, by omega⟩ fun m0 S6 i6 B6 k6 => ?_
  have K6 := K5.trans k6
  have hm : 1 ≤ 1 + m0 ∧ 1 + m0 ≤ most := by unfold In0 at i6; omega
  simp_arith []
  generalize 1 + m0 = many at *
  refine ⟨by omega, ?_⟩
  have hl : (rangeD 0 many).length = many.toNat := by rw [rangeD_len]; omega
  refine wp_mono (wp_loop (it := ⟨[], rangeD 0 many⟩) (fun k acc S' => ∃ rows : List Row, acc = rows.map Row.D ∧ rows.length = k ∧ (∀ r ∈ rows, r.ok names many) ∧ Box b q S' ∧ Keep [b, q] S S') (fun _ _ _ _ => rfl) ?_ ⟨[], rfl, rfl, fun _ h => (nomatch h), B6, K6⟩) ?_
  · rintro k x acc S7 hx ⟨rows, rfl, hk, hr, B7, K7⟩
    obtain ⟨rfl, hlt⟩ := rangeD_get hx
    refine ⟨_, rfl, ?_⟩
    simp_arith []
    refine wp_mono (row_spec B7 (by omega) (by omega) ⟨by omega, by omega⟩) ?_
    rintro _ S8 ⟨row, rfl, ok, B8, k8⟩
    refine ⟨rows ++ [row], by simp, by simp [hk], fun r h => ?_, B8, K7.trans k8⟩
    rcases List.mem_append.mp h with z | z
    · exact hr r z
    · have : r = row := by simpa using z
      rw [this]
      exact ok
  · rintro ys S7 ⟨rows, rfl, hk, hr, B7, K7⟩
    have hk : rows.length = many.toNat := by rw [hk]; exact hl
    have hk2 : (rows.length : Int) = many := by omega
    refine ⟨by rw [List.length_map]; unfold LIM; omega, ?_⟩
    simp_arith [lstOf_len, lstOf_0]
    exact ⟨params, names, rows, rfl, ⟨hp, hn, by omega, fun r h => by rw [hk2]; exact hr r h⟩, hn3, by omega, B7.app, K7.trans .app⟩
end PG
end
section
set_option linter.all false
set_option autoImplicit false
set_option maxRecDepth 100003
namespace PG
open PF
theorem grpM_ok {boxes slots m : Int} {P : Nat} {r : Row} (hr : r.ok (P : Int) m) (hb : 3 ≤ boxes) (hs : (P : Int) ≤ slots) : GrpOk boxes slots r (grpM r) := by
  have ld : ∀ (b : Int) (a : Int), 0 ≤ b → b < 3 → In0 a (P : Int) → Mv.ok boxes slots (.load b a) := fun b a h1 h2 h3 => ⟨⟨h1, by omega⟩, ⟨h3.1, by have := h3.2; omega⟩⟩
  have st : ∀ (a : Int), In0 a (P : Int) → Mv.ok boxes slots (.store a 2) := fun a h3 => ⟨⟨h3.1, by have := h3.2; omega⟩, ⟨by decide, by omega⟩⟩
  have i0 : In0 0 boxes := ⟨by decide, by omega⟩
  have i1 : In0 1 boxes := ⟨by decide, by omega⟩
  have i2 : In0 2 boxes := ⟨by decide, by omega⟩
  have n0 : ∀ m ∈ ([] : List Mv), Mv.ok boxes slots m := fun _ h => nomatch h
  have m1 : ∀ a : Mv, Mv.ok boxes slots a → ∀ m ∈ [a], Mv.ok boxes slots m := fun a h m hm => by
    have : m = a := by simpa using hm
    rw [this]; exact h
  have m2 : ∀ a b : Mv, Mv.ok boxes slots a → Mv.ok boxes slots b → ∀ m ∈ [a, b], Mv.ok boxes slots m := fun a b h h' m hm => by
    rcases (by simpa using hm : m = a ∨ m = b) with e | e <;> (rw [e]; assumption)
  have bx : ∀ l : List Int, (∀ x ∈ l, x = 0 ∨ x = 1 ∨ x = 2) → ∀ x ∈ l, In0 x boxes := fun l h x hx => by
    rcases h x hx with e | e | e <;> (rw [e]; assumption)
  cases r with
  | put d k => exact ⟨by simp [grpM], by simp [grpM], n0, m1 _ (st _ hr.1), rfl, bx [2] (by simp), .inr rfl⟩
  | copy d a => exact ⟨by simp [grpM], by simp [grpM], m1 _ (ld _ _ (by decide) (by decide) hr.2), m1 _ (st _ hr.1), rfl, bx [2, 0] (by simp), .inr rfl⟩
  | op o d a b => exact ⟨by simp [grpM], by simp [grpM], m2 _ _ (ld _ _ (by decide) (by decide) hr.2.1) (ld _ _ (by decide) (by decide) hr.2.2), m1 _ (st _ hr.1), rfl, bx [2, 0, 1] (by simp), .inr rfl⟩
  | call d a => exact ⟨by simp [grpM], by simp [grpM], m1 _ (ld _ _ (by decide) (by decide) hr.2), m1 _ (st _ hr.1), rfl, bx [2, 0] (by simp), .inr rfl⟩
  | say a => exact ⟨by simp [grpM], by simp [grpM], m1 _ (ld _ _ (by decide) (by decide) hr), n0, rfl, bx [0] (by simp), .inl rfl⟩
  | ife a t => exact ⟨by simp [grpM], by simp [grpM], m1 _ (ld _ _ (by decide) (by decide) hr.1), n0, rfl, bx [0] (by simp), .inl rfl⟩
  | go t => exact ⟨by simp [grpM], by simp [grpM], n0, n0, rfl, bx [] (by simp), .inl rfl⟩
  | fin => exact ⟨by simp [grpM], by simp [grpM], n0, n0, rfl, bx [] (by simp), .inl rfl⟩
theorem chM_ok {boxes slots : Int} {P : Nat} {rows : List Row} (hr : ∀ r ∈ rows, r.ok (P : Int) rows.length) (hb : 3 ≤ boxes) (hs : (P : Int) ≤ slots) : ChoiceOk (P : Int) rows boxes slots (chM P rows) := by
  refine ⟨by show ((plsM P).length : Int) = _; rw [plsM_len], fun p hp => ?_, ?_, by show (rows.map grpM).length = _; simp, fun i r g er eg => ?_⟩
  · obtain ⟨k, hk, rfl⟩ := List.mem_map.mp (show p ∈ plsM P from hp)
    rw [List.mem_range] at hk
    exact ⟨by omega, by omega⟩
  · show (plsM P).Nodup
    unfold plsM
    refine List.pairwise_map.mpr (List.nodup_range.imp fun h e => h ?_)
    injection e with e
    omega
  · have eg : (rows.map grpM)[i]? = some g := eg
    rw [List.getElem?_map, er] at eg
    cases eg
    exact grpM_ok (hr r (List.mem_of_getElem? er)) hb hs
theorem law_wp14 (ns : List Int) (hl : ns.length ≤ 63) : wp (f_law_v9 [.ref 0] [.rol (ns.map D.int)]) fun d _ => d = .bl true := by
  have h0 : lstOf 0 [MO.rol (ns.map D.int)] = some (ns.map .int) := rfl
  unfold f_law_v9 b_law_v9
  simp_arith []
  refine wp_mono (begun_spec h0 hl) ?_
  rintro _ S1 ⟨b, q, rfl, B1, -, -, -⟩
  simp_arith []
  refine ⟨by decide, ?_⟩
  refine wp_for (it := ⟨[], rangeD 0 5⟩) (fun k ρ S' => (∃ c2 c3 c4 c5 c6 c7 c8 c9, ρ = [some (.ref 0), some (.ref b), c2, c3, c4, c5, c6, c7, c8, c9, none, none]) ∧ Box b q S') (fun _ _ _ _ => rfl) ?_ ⟨⟨none, none, none, none, none, none, none, none, rfl⟩, B1⟩ ?_
  · rintro k x ρ S2 hx ⟨⟨c2, c3, c4, c5, c6, c7, c8, c9, rfl⟩, B2⟩
    refine ⟨_, rfl, ?_⟩
    simp_arith []
    refine wp_mono (program_spec2 B2 (by decide)) ?_
    rintro _ S3 ⟨params, names, rows, rfl, hP0, hn3, hrl, B3, k3⟩
    have hn := hP0.nm
    obtain ⟨P, rfl⟩ : ∃ P : Nat, names = (P : Int) := ⟨names.toNat, by omega⟩
    have hP : ProgOk (P : Int) (P : Int) rows := ⟨by omega, hP0.nm, hP0.ln, hP0.ok⟩
    have fp0 : progD params (P : Int) rows = .tup [.int params, .int (P : Int), .tup (rows.map Row.D)] := rfl
    have fp : D.tup [.int (P : Int), .int (P : Int), .tup (rows.map Row.D)] = progD (P : Int) (P : Int) rows := rfl
    rw [fp0]
    simp_arith [at0, at_1, at_2]
    refine take_in B3 (by decide) fun x4 S4 i4 B4 k4 => ?_
    simp_arith []
    have hb4 : 3 ≤ 3 + x4 ∧ 3 + x4 ≤ 6 := by unfold In0 at i4; omega
    generalize 3 + x4 = boxes at *
    refine take_in (m := 9 - (P : Int)) B4 ⟨by omega, by omega⟩ fun x5 S5 i5 B5 k5 => ?_
    simp_arith []
    have hs5 : (P : Int) ≤ (P : Int) + x5 ∧ (P : Int) + x5 ≤ 8 := by unfold In0 at i5; omega
    generalize (P : Int) + x5 = slots at *
    refine wp_mono (frame_spec B5) ?_
    rintro _ S6 ⟨bx0, sl0, eaten0, rfl, hF0, B6, k6⟩
    have ff0 : frameD bx0 sl0 eaten0 = .tup [.int bx0, .int sl0, .tup (eaten0.map .int)] := rfl
    rw [ff0]
    simp_arith [at0, at_1, at_2, chkOf]
    refine wp_mono (comp_filter (it := ⟨[], eaten0.map .int⟩) (i := 11) (is := eaten0) (fun x => decide (x < boxes)) rfl rfl (by simp) ?_) ?_
    · intro x P
      simp_arith []
    rintro _ S7 ⟨rfl, rfl⟩
    have hF : FrameOk boxes slots (eaten0.filter fun x => decide (x < boxes)) := ⟨⟨by omega, hb4.2⟩, ⟨by omega, hs5.2⟩, hF0.up.sublist (List.filter_sublist), fun e he => by
      have h := List.mem_filter.mp he
      exact ⟨(hF0.wi e h.1).1, by simpa using h.2⟩⟩
    generalize eaten0.filter (fun x => decide (x < boxes)) = eaten at *
    have hel := hF.len
    refine ⟨by rw [List.length_map]; exact lim_le (by omega), ?_⟩
    simp_arith [lstOf_len, lstOf_0]
    have B7 : Box b q (S7 ++ [.lst (eaten.map .int)]) := B6.app
    generalize S7 ++ [MO.lst (eaten.map .int)] = S8 at *
    have ff : D.tup [.int boxes, .int slots, .tup (eaten.map .int)] = frameD boxes slots eaten := rfl
    rw [ff, fp]
    refine wp_mono (made_spec hP hF rfl hb4.1 hs5.1) ?_
    rintro _ S9 ⟨rfl, k9⟩
    have B9 := B7.keep k9 (by simp) (by simp)
    rw [← fp]
    simp_arith [at0]
    refine ⟨by omega, ?_⟩
    refine wp_mono (slots_loop (i := 10) (by simp)) ?_
    rintro _ S10 ⟨rfl, rfl⟩
    refine ⟨by rw [List.length_map, plsM_len]; exact lim_le (by omega), ?_⟩
    simp_arith [lstOf_len, lstOf_0]
    rw [fp]
    have B10 : Box b q (S10 ++ [.lst ((plsM P).map Pl.D)]) := B9.app
    generalize S10 ++ [MO.lst ((plsM P).map Pl.D)] = S11 at *
    have hrl2 := hP.ln
    refine wp_mono (lgroups_spec (by omega)) ?_
    rintro _ S12 ⟨rfl, k12⟩
    have B12 := B10.keep k12 (by simp) (by simp)
    have fc : D.tup [.tup ((plsM P).map Pl.D), .tup ((rows.map grpM).map Grp.D)] = (chM P rows).D := rfl
    rw [fc]
    have hC := chM_ok (boxes := boxes) (slots := slots) hP.ok hb4.1 hs5.1
    have hc : CaseOk (P : Int) (P : Int) rows boxes slots eaten (chM P rows) := ⟨hP, hF, hC, by omega⟩
    obtain ⟨B, rfl⟩ : ∃ B : Nat, boxes = (B : Int) := ⟨boxes.toNat, by omega⟩
    obtain ⟨N, hN⟩ : ∃ N : Nat, (N : Int) = (B : Int) + slots := ⟨((B : Int) + slots).toNat, by omega⟩
    have alc : alOk 12 (chM P rows).D = true := alOk_le (k := 6) (alOk_choice (by show (plsM P).length ≤ 1000; rw [plsM_len]; omega) (by show (rows.map grpM).length ≤ 1000; rw [List.length_map]; omega) fun g hg => by
      obtain ⟨r, hr, rfl⟩ := List.mem_map.mp (show g ∈ rows.map grpM from hg)
      have go := grpM_ok (hP.ok r hr) hb4.1 hs5.1
      refine alOk_grp (by have := go.la; omega) ?_ (by have := go.lb; omega)
      rw [go.bl]
      have := nms_len r
      omega) (by decide)
    refine wp_mono (al_flat alc) ?_
    rintro _ S13 ⟨rfl, rfl⟩
    simp_arith []
    have hM : Mc14 (pcOf P N (B : Int) rows eaten (chM P rows)) B := ⟨rfl, by omega, by show B + P ≤ N; omega, by show P ≤ 3; omega, by show rows.length ≤ 10; omega, hP.ok, rfl, hF.wi⟩
    have vs0 : Vs (pcOf P N (B : Int) rows eaten (chM P rows)) B (0, hd0 (B : Int) N (plsM P)) := ⟨Int.le_refl 0, by show (0 : Int) < (rows.length : Int); omega, (show MdI P B N (-1) (hd0 (B : Int) N (plsM P)) from hd0_md (by omega)), (pcOf_ok (N := N) hc).fok⟩
    have hres := bfs_none hM 400000 [(0, hd0 (B : Int) N (plsM P), [])] [(0, hd0 (B : Int) N (plsM P))] (fun x hx => by
      have : x = (0, hd0 (B : Int) N (plsM P), []) := by simpa using hx
      subst this
      exact vs0) (by simp) (fun x hx => by
      have : x = (0, hd0 (B : Int) N (plsM P)) := by simpa using hx
      subst this
      exact vs0) (Nat.le_refl _) (by simp)
    refine wp_mono (checked_spec (lim := 8000000) (n := 400000) hc hN (by decide) (by decide) hres) ?_
    rintro _ S14 ⟨hd, k14⟩
    have hd : _ = D.non := hd
    subst hd
    have B14 := B12.keep k14 (by simp) (by simp)
    rw [← fp]
    simp_arith [at0]
    refine ⟨by omega, ?_⟩
    refine wp_mono (takes_spec B14 (by decide) rfl (show 10 ≠ 1 by decide)) ?_
    rintro _ S15 ⟨gs, rfl, hgl, hg, B15, k15⟩
    have hgl : (gs.length : Int) = (P : Int) := by omega
    refine ⟨by rw [List.length_map]; exact lim_le (by omega), ?_⟩
    simp_arith [lstOf_len, lstOf_0]
    have B16 : Box b q (S15 ++ [.lst (gs.map .int)]) := B15.app
    generalize S15 ++ [MO.lst (gs.map .int)] = S16 at *
    refine take_in B16 (by decide) fun nj S17 i17 B17 k17 => ?_
    refine ⟨nj, rfl, by unfold In0 at i17; omega, ?_⟩
    refine wp_mono (takes_spec B17 (by decide) rfl (show 10 ≠ 1 by decide)) ?_
    rintro _ S18 ⟨junk, rfl, hjl, hj, B18, k18⟩
    refine ⟨by rw [List.length_map]; exact lim_le (by unfold In0 at i17; omega), ?_⟩
    have gj : (S18 ++ [MO.lst (junk.map .int)])[S18.length]? = some (.lst (junk.map .int)) := get_last
    have B19 : Box b q (S18 ++ [MO.lst (junk.map .int)]) := B18.app
    generalize S18.length = jr at *
    generalize S18 ++ [MO.lst (junk.map .int)] = S19 at *
    rw [fp]
    refine wp_mono (run_boxes_spec hc hgl hg (fuel := 300) (by decide) gj hj) ?_
    rintro _ S20 ⟨s1, m, em, rfl, g1, l1, k20⟩
    have B20 := B19.keep k20 (by simp) (by simp)
    simp_arith []
    refine wp_mono (run_spec hP hgl hg (fuel := 300) (by decide)) ?_
    rintro _ S21 ⟨s2, rfl, g2, l2, k21⟩
    have B21 := B20.keep k21 (by simp) (by simp)
    have g1 := k21.at g1 (by simp)
    have e0 : mc0 (P : Int) (P : Int) gs = ⟨0, gs, [], 0⟩ := by
      unfold mc0
      rw [Int.sub_self]
      simp
    have hrel := md_run (P := P) (B := B) (N := N) (eaten := eaten) (jf := jv junk) (by omega) (by omega) hF.wi hP.ok 300 _ _ (md_begin (jf := jv junk) (gs := gs) (B := B) (P := P) (N := N) (by omega) (by omega))
    have eN : ((B : Int) + slots).toNat = N := by omega
    have em : m = brun (jv junk) (B : Int) eaten rows (rows.map grpM) 300 (bc0 (jv junk) (B : Int) N (plsM P) gs) := by rw [em, eN]; rfl
    rw [← em] at hrel
    have e300 : Int.toNat 300 = 300 := rfl
    rw [e0, e300] at g2 ⊢
    have hsl : m.said.length ≤ 2000 := by
      have hm := brun_ok (jf := jv junk) (boxes := (B : Int)) (slots := slots) (eaten := eaten) (gs := (chM P rows).groups) (jv_in hj) hP.ok 300 (bc0_ok (ps := plsM P) (gs := gs) (N := N) (jv_in hj) hN hg)
      have em' : m = brun (jv junk) (B : Int) eaten rows (chM P rows).groups 300 (bc0 (jv junk) (B : Int) N (plsM P) gs) := em
      rw [← em'] at hm
      have h1 := hm.sd
      have h2 := brun_done (jf := jv junk) (boxes := (B : Int)) (eaten := eaten) (rows := rows) (gs := (chM P rows).groups) 300 (bc0 (jv junk) (B : Int) N (plsM P) gs)
      have h3 : (bc0 (jv junk) (B : Int) N (plsM P) gs).done = 0 := rfl
      rw [← em'] at h2
      omega
    generalize mrun rows 300 ⟨0, gs, [], 0⟩ = mc at *
    have et : tellD s2 rows mc = tellB s2 rows m.at_ m.done := by
      unfold tellD tellB
      rw [hrel.at_, hrel.dn]
    rw [← hrel.sd] at g2
    rw [et]
    refine wp_mono (tell_alikeB g1 g2 (by omega)) ?_
    rintro _ S22 ⟨rfl, rfl⟩
    simp_arith []
    exact ⟨⟨_, _, _, _, _, _, _, _, rfl⟩, B21⟩
  · rintro ρ S' ⟨⟨c2, c3, c4, c5, c6, c7, c8, c9, rfl⟩, B'⟩
    simp_arith []
end PG
namespace Gk14
open PF PG
theorem law_holds : ∀ ns : List Int, ns.length ≤ 63 → ∃ S', f_law_v9 [.ref 0] [.rol (ns.map D.int)] = .ok (.bl true) S' := fun ns h => by
  obtain ⟨d, S', e, rfl⟩ := law_wp14 ns h
  exact ⟨S', e⟩
end Gk14
end
section
set_option linter.all false
set_option Elab.async false
set_option linter.all false
set_option maxRecDepth 100003
set_option maxHeartbeats 4000003
set_option autoImplicit false
namespace Gk14
open PySem L2 PF PG
def top (i : Nat) : Stmt := PySem.Challenge.pw_boxwitness_k14_whole_made_is_let_by.main.body.getD i (.Pass ⟨0, 0, 0, 0⟩)
theorem kz_put : strOf z_put = ("put" : Str) := by decide +kernel
theorem kz_copy : strOf z_copy = ("copy" : Str) := by decide +kernel
theorem kz_less : strOf z_less = ("less" : Str) := by decide +kernel
theorem kz_take : strOf z_take = ("take" : Str) := by decide +kernel
theorem kz_add : strOf z_add = ("add" : Str) := by decide +kernel
theorem kz_call : strOf z_call = ("call" : Str) := by decide +kernel
theorem kz_say : strOf z_say = ("say" : Str) := by decide +kernel
theorem kz_if : strOf z_if = ("if" : Str) := by decide +kernel
theorem kz_end : strOf z_end = ("end" : Str) := by decide +kernel
theorem kz_go : strOf z_go = ("go" : Str) := by decide +kernel
theorem kz_d : strOf z_d = ("d" : Str) := by decide +kernel
theorem kz_a : strOf z_a = ("a" : Str) := by decide +kernel
theorem kz_n : strOf z_n = ("n" : Str) := by decide +kernel
theorem kz_r : strOf z_r = ("r" : Str) := by decide +kernel
theorem kz_da : strOf z_da = ("da" : Str) := by decide +kernel
theorem kz_box : strOf z_box = ("box" : Str) := by decide +kernel
theorem kz_slot : strOf z_slot = ("slot" : Str) := by decide +kernel
theorem kz_load : strOf z_load = ("load" : Str) := by decide +kernel
theorem kz_store : strOf z_store = ("store" : Str) := by decide +kernel
theorem kz_swap : strOf z_swap = ("swap" : Str) := by decide +kernel
theorem kz_b : strOf z_b = ("b" : Str) := by decide +kernel
theorem kz_s : strOf z_s = ("s" : Str) := by decide +kernel
def nms : List Str := ["rows", "at", "said", "done", "numbers", "many", "frame", "names", "held"]
def nm : Nm := nmOf ["Run", "Junk", "Marks"] nms (by decide +kernel) (by decide +kernel)
theorem nm_go : ∀ f, nm.fld f ≠ "go" := fldOf_ne (by decide +kernel) (by decide +kernel)
theorem nm_is_over : ∀ f, nm.fld f ≠ "is_over" := fldOf_ne (by decide +kernel) (by decide +kernel)
theorem nm_next_one : ∀ f, nm.fld f ≠ "next_one" := fldOf_ne (by decide +kernel) (by decide +kernel)
theorem nm_told : ∀ f, nm.fld f ≠ "told" := fldOf_ne (by decide +kernel) (by decide +kernel)
theorem dbg_BOX : (("BOX" : Str) == ("__debug__" : Str)) = false := by decide +kernel
theorem dbg_CALL : (("CALL" : Str) == ("__debug__" : Str)) = false := by decide +kernel
theorem dbg_COPY : (("COPY" : Str) == ("__debug__" : Str)) = false := by decide +kernel
theorem dbg_END : (("END" : Str) == ("__debug__" : Str)) = false := by decide +kernel
theorem dbg_GO : (("GO" : Str) == ("__debug__" : Str)) = false := by decide +kernel
theorem dbg_GOAL : (("GOAL" : Str) == ("__debug__" : Str)) = false := by decide +kernel
theorem dbg_IF : (("IF" : Str) == ("__debug__" : Str)) = false := by decide +kernel
theorem dbg_Junk : (("Junk" : Str) == ("__debug__" : Str)) = false := by decide +kernel
theorem dbg_LONG : (("LONG" : Str) == ("__debug__" : Str)) = false := by decide +kernel
theorem dbg_MOST_BOXES : (("MOST_BOXES" : Str) == ("__debug__" : Str)) = false := by decide +kernel
theorem dbg_MOST_FUEL : (("MOST_FUEL" : Str) == ("__debug__" : Str)) = false := by decide +kernel
theorem dbg_MOST_MOVES : (("MOST_MOVES" : Str) == ("__debug__" : Str)) = false := by decide +kernel
theorem dbg_MOST_NAMES : (("MOST_NAMES" : Str) == ("__debug__" : Str)) = false := by decide +kernel
theorem dbg_MOST_ROWS : (("MOST_ROWS" : Str) == ("__debug__" : Str)) = false := by decide +kernel
theorem dbg_MOST_SLOTS : (("MOST_SLOTS" : Str) == ("__debug__" : Str)) = false := by decide +kernel
theorem dbg_MOVES : (("MOVES" : Str) == ("__debug__" : Str)) = false := by decide +kernel
theorem dbg_OVER : (("OVER" : Str) == ("__debug__" : Str)) = false := by decide +kernel
theorem dbg_PUT : (("PUT" : Str) == ("__debug__" : Str)) = false := by decide +kernel
theorem dbg_RING : (("RING" : Str) == ("__debug__" : Str)) = false := by decide +kernel
theorem dbg_Run : (("Run" : Str) == ("__debug__" : Str)) = false := by decide +kernel
theorem dbg_SAY : (("SAY" : Str) == ("__debug__" : Str)) = false := by decide +kernel
theorem dbg_SHAPES : (("SHAPES" : Str) == ("__debug__" : Str)) = false := by decide +kernel
theorem dbg_SLOT : (("SLOT" : Str) == ("__debug__" : Str)) = false := by decide +kernel
theorem dbg__law_alike : (("_law_alike" : Str) == ("__debug__" : Str)) = false := by decide +kernel
theorem dbg__law_begun : (("_law_begun" : Str) == ("__debug__" : Str)) = false := by decide +kernel
theorem dbg__law_frame : (("_law_frame" : Str) == ("__debug__" : Str)) = false := by decide +kernel
theorem dbg__law_groups : (("_law_groups" : Str) == ("__debug__" : Str)) = false := by decide +kernel
theorem dbg__law_program : (("_law_program" : Str) == ("__debug__" : Str)) = false := by decide +kernel
theorem dbg__law_row : (("_law_row" : Str) == ("__debug__" : Str)) = false := by decide +kernel
theorem dbg__law_take : (("_law_take" : Str) == ("__debug__" : Str)) = false := by decide +kernel
theorem dbg_are_moves : (("are_moves" : Str) == ("__debug__" : Str)) = false := by decide +kernel
theorem dbg_behind_row : (("behind_row" : Str) == ("__debug__" : Str)) = false := by decide +kernel
theorem dbg_called : (("called" : Str) == ("__debug__" : Str)) = false := by decide +kernel
theorem dbg_checked : (("checked" : Str) == ("__debug__" : Str)) = false := by decide +kernel
theorem dbg_checked_by : (("checked_by" : Str) == ("__debug__" : Str)) = false := by decide +kernel
theorem dbg_first_held : (("first_held" : Str) == ("__debug__" : Str)) = false := by decide +kernel
theorem dbg_group_of : (("group_of" : Str) == ("__debug__" : Str)) = false := by decide +kernel
theorem dbg_held_behind : (("held_behind" : Str) == ("__debug__" : Str)) = false := by decide +kernel
theorem dbg_index_of : (("index_of" : Str) == ("__debug__" : Str)) = false := by decide +kernel
theorem dbg_is_group : (("is_group" : Str) == ("__debug__" : Str)) = false := by decide +kernel
theorem dbg_is_handed : (("is_handed" : Str) == ("__debug__" : Str)) = false := by decide +kernel
theorem dbg_is_move : (("is_move" : Str) == ("__debug__" : Str)) = false := by decide +kernel
theorem dbg_is_number : (("is_number" : Str) == ("__debug__" : Str)) = false := by decide +kernel
theorem dbg_is_place : (("is_place" : Str) == ("__debug__" : Str)) = false := by decide +kernel
theorem dbg_is_row : (("is_row" : Str) == ("__debug__" : Str)) = false := by decide +kernel
theorem dbg_made : (("made" : Str) == ("__debug__" : Str)) = false := by decide +kernel
theorem dbg_makes : (("makes" : Str) == ("__debug__" : Str)) = false := by decide +kernel
theorem dbg_moved : (("moved" : Str) == ("__debug__" : Str)) = false := by decide +kernel
theorem dbg_names_of : (("names_of" : Str) == ("__debug__" : Str)) = false := by decide +kernel
theorem dbg_need_choice : (("need_choice" : Str) == ("__debug__" : Str)) = false := by decide +kernel
theorem dbg_need_frame : (("need_frame" : Str) == ("__debug__" : Str)) = false := by decide +kernel
theorem dbg_need_fuel : (("need_fuel" : Str) == ("__debug__" : Str)) = false := by decide +kernel
theorem dbg_need_given : (("need_given" : Str) == ("__debug__" : Str)) = false := by decide +kernel
theorem dbg_need_program : (("need_program" : Str) == ("__debug__" : Str)) = false := by decide +kernel
theorem dbg_reckoned : (("reckoned" : Str) == ("__debug__" : Str)) = false := by decide +kernel
theorem dbg_renamed : (("renamed" : Str) == ("__debug__" : Str)) = false := by decide +kernel
theorem dbg_run : (("run" : Str) == ("__debug__" : Str)) = false := by decide +kernel
theorem dbg_run_boxes : (("run_boxes" : Str) == ("__debug__" : Str)) = false := by decide +kernel
theorem dbg_told_by : (("told_by" : Str) == ("__debug__" : Str)) = false := by decide +kernel
structure Txt (w : World) (K : PySem.W.Frag) (mg : Str → Option Value) (C_Run : Addr) (C_Junk : Addr) : Prop where
  m_bool : mg "bool" = none
  m_enumerate : mg "enumerate" = none
  m_int : mg "int" = none
  m_isinstance : mg "isinstance" = none
  m_len : mg "len" = none
  m_list : mg "list" = none
  m_min : mg "min" = none
  m_range : mg "range" = none
  m_set : mg "set" = none
  m_sorted : mg "sorted" = none
  m_str : mg "str" = none
  m_tuple : mg "tuple" = none
  m_zip : mg "zip" = none
  m_BOX : GlS mg "BOX" z_box
  m_CALL : GlS mg "CALL" z_call
  m_COPY : GlS mg "COPY" z_copy
  m_END : GlS mg "END" z_end
  m_GO : GlS mg "GO" z_go
  m_GOAL : GlI mg "GOAL" 2
  m_IF : GlS mg "IF" z_if
  m_LONG : GlT K mg "LONG" [.str z_long]
  m_MOST_BOXES : GlI mg "MOST_BOXES" 6
  m_MOST_FUEL : GlI mg "MOST_FUEL" 1000
  m_MOST_MOVES : GlI mg "MOST_MOVES" 6
  m_MOST_NAMES : GlI mg "MOST_NAMES" 8
  m_MOST_ROWS : GlI mg "MOST_ROWS" 24
  m_MOST_SLOTS : GlI mg "MOST_SLOTS" 8
  m_MOVES : GlD K w mg "MOVES" t_MOVES
  m_OVER : GlT K mg "OVER" [.str z_end]
  m_PUT : GlS mg "PUT" z_put
  m_RING : GlI mg "RING" 1000
  m_SAY : GlS mg "SAY" z_say
  m_SHAPES : GlD K w mg "SHAPES" t_SHAPES
  m_SLOT : GlS mg "SLOT" z_slot
  k_Run : ClsOk nm K mg 0 C_Run [0, 1, 2, 3, 4, 5, 6, 7, 8]
  k_Junk : ClsOk nm K mg 1 C_Junk [0, 1, 2, 3, 4, 5, 6, 7, 8]
section
variable {P : Program} {w : World} {K : PySem.W.Frag} {mg : Str → Option Value} {base : Heap} { C_Run C_Junk : Addr}
abbrev s__law_begun : Stmt := (top 67)
theorem sc__law_begun : FnScope ["_law_script", "_law_stirred", "_law_cell"] ["_law_script"] (defScope s__law_begun) := ⟨rfl, rfl, rfl, by decide +kernel, rfl, by decide +kernel, by decide +kernel⟩
theorem nd__law_begun : (["_law_script", "_law_stirred", "_law_cell"] : List Str).all ndbg = true := by decide +kernel
theorem d__law_begun (T : Txt w K mg C_Run C_Junk) {f : Addr} {fd : FuncData} (F : Fun K "_law_begun" "_law_begun" s__law_begun f fd) : FnOk P w K mg base CX0 1 f fd ["_law_script"] (spF nm K mg 1 f__law_begun) :=
  fn_ok F sc__law_begun fun cdv A outer s H E hr =>
    have nds : (["_law_script", "_law_stirred", "_law_cell"] : List Str).Nodup := sc__law_begun.nd
    have nd := nd__law_begun
    pxss_cons (pxs_set nds rfl (.inl rfl) (px_int) rfl (.inr rfl))
    (pxss_cons (pxs_for PassesOwn.never rfl (pxi_seq (wv nd rfl (.inl rfl))) (pg_name nds rfl (.inl rfl) (.inr rfl)) (gok_name 2) (pxss_one (pxs_set nds rfl (.inl rfl) (px_op op_mod op2_mod (px_op op_addA op2_add (px_op op_addA op2_add (px_op op_mulA op2_mul (wv nd rfl (.inl rfl)) (px_int)) (px_op op_mulA op2_mul (px_op op_mod op2_mod (wv nd rfl (.inl rfl)) (px_int)) (px_int))) (px_int)) (px_int)) rfl (.inr rfl))) (fun _ => rfl))
    (pxss_one (pxs_ret (px_lst (pxa_cons (wd_list rfl T.m_list (pxa_cons (wv nd rfl (.inl rfl)) (pxa_nil) rfl) rfl rfl) (pxa_cons (px_op op_mulA op2_mul (wv nd rfl (.inl rfl)) (wd_int rfl T.m_int (pxa_cons (px_cmp op_gt op2_cmp (wd_len rfl T.m_len (pxa_cons (wv nd rfl (.inl rfl)) (pxa_nil) rfl) rfl rfl) (px_int) rfl) (pxa_nil) rfl) rfl rfl)) (pxa_nil) rfl) rfl) (by decide) (len_cons (len_cons (len_nil)))))))
abbrev s__law_take : Stmt := (top 68)
theorem sc__law_take : FnScope ["_law_box", "_law_many", "_law_number"] ["_law_box", "_law_many"] (defScope s__law_take) := ⟨rfl, rfl, rfl, by decide +kernel, rfl, by decide +kernel, by decide +kernel⟩
theorem nd__law_take : (["_law_box", "_law_many", "_law_number"] : List Str).all ndbg = true := by decide +kernel
theorem d__law_take (T : Txt w K mg C_Run C_Junk) {f : Addr} {fd : FuncData} (F : Fun K "_law_take" "_law_take" s__law_take f fd) : FnOk P w K mg base CX0 1 f fd ["_law_box", "_law_many"] (spF nm K mg 2 f__law_take) :=
  fn_ok F sc__law_take fun cdv A outer s H E hr =>
    have nds : (["_law_box", "_law_many", "_law_number"] : List Str).Nodup := sc__law_take.nd
    have nd := nd__law_take
    pxss_cons (pxs_if (pxt_cmp (op_eqA (hu64 hr)) op2_eq (px_ix (wv nd rfl (.inl rfl)) (px_int) (fun _ _ => rfl)) (px_lst (pxa_nil) (by decide) (len_nil)) rfl) (pxss_cons (pxs_sub (wv nd rfl (.inl rfl)) (px_int) (px_op op_mod op2_mod (px_op op_mulA op2_mul (px_ix (wv nd rfl (.inl rfl)) (px_int) (fun _ _ => rfl)) (px_int)) (px_int)) (fun _ => rfl) rfl rfl rfl)
    (pxss_one (pxs_ret (px_op op_mod op2_mod (px_op op_fdiv op2_fdiv (px_ix (wv nd rfl (.inl rfl)) (px_int) (fun _ _ => rfl)) (px_int)) (wv nd rfl (.inl rfl)))))) (pxss_nil))
    (pxss_cons (pxs_set nds rfl (.inl rfl) (px_ix (px_ix (wv nd rfl (.inl rfl)) (px_int) (fun _ _ => rfl)) (px_int) (fun _ _ => rfl)) rfl (.inr rfl))
    (pxss_cons (pxs_sub (px_ix (wv nd rfl (.inl rfl)) (px_int) (fun _ _ => rfl)) (px_int) (px_op op_fdiv op2_fdiv (wv nd rfl (.inl rfl)) (wv nd rfl (.inl rfl))) (fun _ => rfl) rfl rfl rfl)
    (pxss_cons (pxs_if (pxt_w (pxw_or (pxt_cmp (op_eqA (hu64 hr)) op2_eq (px_ix (px_ix (wv nd rfl (.inl rfl)) (px_int) (fun _ _ => rfl)) (px_int) (fun _ _ => rfl)) (px_int) rfl) (pxw_or1 (pxt_cmp (op_eqA (hu64 hr)) op2_eq (px_ix (px_ix (wv nd rfl (.inl rfl)) (px_int) (fun _ _ => rfl)) (px_int) (fun _ _ => rfl)) (px_neg (px_int)) rfl)))) (pxss_one (pxs_expr (wd_pop (px_ix (wv nd rfl (.inl rfl)) (px_int) (fun _ _ => rfl)) (px_int) rfl rfl rfl rfl rfl) rfl)) (pxss_nil))
    (pxss_one (pxs_ret (px_op op_mod op2_mod (wv nd rfl (.inl rfl)) (wv nd rfl (.inl rfl))))))))
abbrev s__law_row : Stmt := (top 70)
theorem sc__law_row : FnScope ["_law_box", "_law_names", "_law_many", "_law_at", "_law_way", "_law_name", "_law_one", "_law_other", "_law_goal"] ["_law_box", "_law_names", "_law_many", "_law_at"] (defScope s__law_row) := ⟨rfl, rfl, rfl, by decide +kernel, rfl, by decide +kernel, by decide +kernel⟩
theorem nd__law_row : (["_law_box", "_law_names", "_law_many", "_law_at", "_law_way", "_law_name", "_law_one", "_law_other", "_law_goal"] : List Str).all ndbg = true := by decide +kernel
theorem d__law_row (T : Txt w K mg C_Run C_Junk) (C__law_take : Cal nm P w K mg base 1 "_law_take" ["_law_box", "_law_many"] f__law_take) {f : Addr} {fd : FuncData} (F : Fun K "_law_row" "_law_row" s__law_row f fd) : FnOk P w K mg base CX0 2 f fd ["_law_box", "_law_names", "_law_many", "_law_at"] (spF nm K mg 4 f__law_row) :=
  fn_ok F sc__law_row fun cdv A outer s H E hr =>
    have nds : (["_law_box", "_law_names", "_law_many", "_law_at", "_law_way", "_law_name", "_law_one", "_law_other", "_law_goal"] : List Str).Nodup := sc__law_row.nd
    have nd := nd__law_row
    pxss_cons (pxs_set nds rfl (.inl rfl) (wd_call C__law_take (alen_cons (alen_cons (alen_nil))) (hr.mono (by decide)) rfl (pxa_cons (wv nd rfl (.inl rfl)) (pxa_cons (px_int) (pxa_nil) rfl) rfl) dbg__law_take rfl rfl) rfl (.inr rfl))
    (pxss_cons (pxs_par3 rfl nds rfl rfl rfl  (by decide) (by decide) (by decide)  rfl rfl rfl  (pxa_cons (wd_call C__law_take (alen_cons (alen_cons (alen_nil))) (hr.mono (by decide)) rfl (pxa_cons (wv nd rfl (.inl rfl)) (pxa_cons (wv nd rfl (.inl rfl)) (pxa_nil) rfl) rfl) dbg__law_take rfl rfl) (pxa_cons (wd_call C__law_take (alen_cons (alen_cons (alen_nil))) (hr.mono (by decide)) rfl (pxa_cons (wv nd rfl (.inl rfl)) (pxa_cons (wv nd rfl (.inl rfl)) (pxa_nil) rfl) rfl) dbg__law_take rfl rfl) (pxa_cons (wd_call C__law_take (alen_cons (alen_cons (alen_nil))) (hr.mono (by decide)) rfl (pxa_cons (wv nd rfl (.inl rfl)) (pxa_cons (wv nd rfl (.inl rfl)) (pxa_nil) rfl) rfl) dbg__law_take rfl rfl) (pxa_nil) rfl) rfl) rfl) rfl rfl)
    (pxss_cons (pxs_if (pxt_cmp op_lt op2_cmp (wv nd rfl (.inl rfl)) (px_int) rfl) (pxss_one (pxs_ret (px_tup (pxa_cons (px_str kz_put) (pxa_cons (wv nd rfl (.inl rfl)) (pxa_cons (px_ix (px_lst (pxa_cons (wd_call C__law_take (alen_cons (alen_cons (alen_nil))) (hr.mono (by decide)) rfl (pxa_cons (wv nd rfl (.inl rfl)) (pxa_cons (px_int) (pxa_nil) rfl) rfl) dbg__law_take rfl rfl) (pxa_cons (wd_call C__law_take (alen_cons (alen_cons (alen_nil))) (hr.mono (by decide)) rfl (pxa_cons (wv nd rfl (.inl rfl)) (pxa_cons (px_int) (pxa_nil) rfl) rfl) dbg__law_take rfl rfl) (pxa_nil) rfl) rfl) (by decide) (len_cons (len_cons (len_nil)))) (wd_call C__law_take (alen_cons (alen_cons (alen_nil))) (hr.mono (by decide)) rfl (pxa_cons (wv nd rfl (.inl rfl)) (pxa_cons (px_int) (pxa_nil) rfl) rfl) dbg__law_take rfl rfl) (fun _ _ => rfl)) (pxa_nil) rfl) rfl) rfl) (by decide) (len_cons (len_cons (len_cons (len_nil))))))) (pxss_nil))
    (pxss_cons (pxs_if (pxt_cmp op_lt op2_cmp (wv nd rfl (.inl rfl)) (px_int) rfl) (pxss_one (pxs_ret (px_tup (pxa_cons (px_str kz_copy) (pxa_cons (wv nd rfl (.inl rfl)) (pxa_cons (wv nd rfl (.inl rfl)) (pxa_nil) rfl) rfl) rfl) (by decide) (len_cons (len_cons (len_cons (len_nil))))))) (pxss_nil))
    (pxss_cons (pxs_if (pxt_cmp op_lt op2_cmp (wv nd rfl (.inl rfl)) (px_int) rfl) (pxss_one (pxs_ret (px_tup (pxa_cons (px_ix (px_lst (pxa_cons (px_str kz_add) (pxa_cons (px_str kz_take) (pxa_cons (px_str kz_less) (pxa_nil) rfl) rfl) rfl) (by decide) (len_cons (len_cons (len_cons (len_nil))))) (px_op op_sub op2_sub (wv nd rfl (.inl rfl)) (px_int)) (fun _ _ => rfl)) (pxa_cons (wv nd rfl (.inl rfl)) (pxa_cons (wv nd rfl (.inl rfl)) (pxa_cons (wv nd rfl (.inl rfl)) (pxa_nil) rfl) rfl) rfl) rfl) (by decide) (len_cons (len_cons (len_cons (len_cons (len_nil)))))))) (pxss_nil))
    (pxss_cons (pxs_if (pxt_cmp op_lt op2_cmp (wv nd rfl (.inl rfl)) (px_int) rfl) (pxss_one (pxs_ret (px_tup (pxa_cons (px_str kz_call) (pxa_cons (wv nd rfl (.inl rfl)) (pxa_cons (wv nd rfl (.inl rfl)) (pxa_nil) rfl) rfl) rfl) (by decide) (len_cons (len_cons (len_cons (len_nil))))))) (pxss_nil))
    (pxss_cons (pxs_if (pxt_cmp op_lt op2_cmp (wv nd rfl (.inl rfl)) (px_int) rfl) (pxss_one (pxs_ret (px_tup (pxa_cons (px_str kz_say) (pxa_cons (wv nd rfl (.inl rfl)) (pxa_nil) rfl) rfl) (by decide) (len_cons (len_cons (len_nil)))))) (pxss_nil))
    (pxss_cons (pxs_set nds rfl (.inl rfl) (wd_call C__law_take (alen_cons (alen_cons (alen_nil))) (hr.mono (by decide)) rfl (pxa_cons (wv nd rfl (.inl rfl)) (pxa_cons (wv nd rfl (.inl rfl)) (pxa_nil) rfl) rfl) dbg__law_take rfl rfl) rfl (.inr rfl))
    (pxss_cons (pxs_if (pxt_cmp op_lt op2_cmp (wv nd rfl (.inl rfl)) (px_int) rfl) (pxss_one (pxs_ret (px_tup (pxa_cons (px_str kz_if) (pxa_cons (wv nd rfl (.inl rfl)) (pxa_cons (px_ix (px_lst (pxa_cons (wv nd rfl (.inl rfl)) (pxa_cons (wd_min rfl rfl T.m_min (pxa_cons (px_op op_sub op2_sub (wv nd rfl (.inl rfl)) (px_int)) (pxa_cons (px_op op_addA op2_add (px_op op_addA op2_add (wv nd rfl (.inl rfl)) (px_int)) (px_op op_mod op2_mod (wv nd rfl (.inl rfl)) (px_int))) (pxa_nil) rfl) rfl) rfl rfl) (pxa_nil) rfl) rfl) (by decide) (len_cons (len_cons (len_nil)))) (wd_call C__law_take (alen_cons (alen_cons (alen_nil))) (hr.mono (by decide)) rfl (pxa_cons (wv nd rfl (.inl rfl)) (pxa_cons (px_int) (pxa_nil) rfl) rfl) dbg__law_take rfl rfl) (fun _ _ => rfl)) (pxa_nil) rfl) rfl) rfl) (by decide) (len_cons (len_cons (len_cons (len_nil))))))) (pxss_nil))
    (pxss_one (pxs_ret (px_ix (px_lst (pxa_cons (px_tup (pxa_cons (px_str kz_go) (pxa_cons (wd_min rfl rfl T.m_min (pxa_cons (px_op op_sub op2_sub (wv nd rfl (.inl rfl)) (px_int)) (pxa_cons (px_op op_addA op2_add (px_op op_addA op2_add (wv nd rfl (.inl rfl)) (px_int)) (px_op op_mod op2_mod (wv nd rfl (.inl rfl)) (px_int))) (pxa_nil) rfl) rfl) rfl rfl) (pxa_nil) rfl) rfl) (by decide) (len_cons (len_cons (len_nil)))) (pxa_cons (px_tup (pxa_cons (px_str kz_go) (pxa_cons (wv nd rfl (.inl rfl)) (pxa_nil) rfl) rfl) (by decide) (len_cons (len_cons (len_nil)))) (pxa_cons (px_tup (pxa_cons (px_str kz_end) (pxa_nil) rfl) (by decide) (len_cons (len_nil))) (pxa_nil) rfl) rfl) rfl) (by decide) (len_cons (len_cons (len_cons (len_nil))))) (wd_call C__law_take (alen_cons (alen_cons (alen_nil))) (hr.mono (by decide)) rfl (pxa_cons (wv nd rfl (.inl rfl)) (pxa_cons (px_int) (pxa_nil) rfl) rfl) dbg__law_take rfl rfl) (fun _ _ => rfl))))))))))))
abbrev s__law_program : Stmt := (top 71)
theorem sc__law_program : FnScope ["_law_box", "_law_most", "_law_names", "_law_params", "_law_many", "_law_at"] ["_law_box", "_law_most"] (defScope s__law_program) := ⟨rfl, rfl, rfl, by decide +kernel, rfl, by decide +kernel, by decide +kernel⟩
theorem nd__law_program : (["_law_box", "_law_most", "_law_names", "_law_params", "_law_many", "_law_at"] : List Str).all ndbg = true := by decide +kernel
theorem d__law_program (T : Txt w K mg C_Run C_Junk) (C__law_take : Cal nm P w K mg base 1 "_law_take" ["_law_box", "_law_many"] f__law_take) (C__law_row : Cal nm P w K mg base 2 "_law_row" ["_law_box", "_law_names", "_law_many", "_law_at"] f__law_row) {f : Addr} {fd : FuncData} (F : Fun K "_law_program" "_law_program" s__law_program f fd) : FnOk P w K mg base CX0 3 f fd ["_law_box", "_law_most"] (spF nm K mg 2 f__law_program_v2) :=
  fn_ok F sc__law_program fun cdv A outer s H E hr =>
    have nds : (["_law_box", "_law_most", "_law_names", "_law_params", "_law_many", "_law_at"] : List Str).Nodup := sc__law_program.nd
    have nd := nd__law_program
    pxss_cons (pxs_set nds rfl (.inr rfl) (px_op op_addA op2_add (px_int) (wd_call C__law_take (alen_cons (alen_cons (alen_nil))) (hr.mono (by decide)) rfl (pxa_cons (wv nd rfl (.inr (.inl rfl))) (pxa_cons (px_int) (pxa_nil) rfl) rfl) dbg__law_take rfl rfl)) rfl (.inl rfl))
    (pxss_cons (pxs_set nds rfl (.inl rfl) (px_ix (px_lst (pxa_cons (wv nd rfl (.inr (.inl rfl))) (pxa_cons (wd_call C__law_take (alen_cons (alen_cons (alen_nil))) (hr.mono (by decide)) rfl (pxa_cons (wv nd rfl (.inr (.inl rfl))) (pxa_cons (px_op op_addA op2_add (wv nd rfl (.inr (.inl rfl))) (px_int)) (pxa_nil) rfl) rfl) dbg__law_take rfl rfl) (pxa_nil) rfl) rfl) (by decide) (len_cons (len_cons (len_nil)))) (wd_call C__law_take (alen_cons (alen_cons (alen_nil))) (hr.mono (by decide)) rfl (pxa_cons (wv nd rfl (.inr (.inl rfl))) (pxa_cons (px_int) (pxa_nil) rfl) rfl) dbg__law_take rfl rfl) (fun _ _ => rfl)) rfl (.inr rfl))
    (pxss_cons (pxs_set nds rfl (.inr rfl) (px_op op_addA op2_add (px_int) (wd_call C__law_take (alen_cons (alen_cons (alen_nil))) (hr.mono (by decide)) rfl (pxa_cons (wv nd rfl (.inr (.inl rfl))) (pxa_cons (px_ix (px_lst (pxa_cons (wv nd rfl (.inl rfl)) (pxa_cons (wd_min rfl rfl T.m_min (pxa_cons (wv nd rfl (.inl rfl)) (pxa_cons (px_int) (pxa_nil) rfl) rfl) rfl rfl) (pxa_nil) rfl) rfl) (by decide) (len_cons (len_cons (len_nil)))) (wd_call C__law_take (alen_cons (alen_cons (alen_nil))) (hr.mono (by decide)) rfl (pxa_cons (wv nd rfl (.inr (.inl rfl))) (pxa_cons (px_int) (pxa_nil) rfl) rfl) dbg__law_take rfl rfl) (fun _ _ => rfl)) (pxa_nil) rfl) rfl) dbg__law_take rfl rfl)) rfl (.inl rfl))
    (pxss_one (pxs_ret (px_tup (pxa_cons (wv nd rfl (.inl rfl)) (pxa_cons (wv nd rfl (.inr (.inl rfl))) (pxa_cons (wd_tuple rfl T.m_tuple (pxa_cons (px_lc rfl nds (own := [("_law_at", 5)]) (pxi_range1 rfl T.m_range (wv nd rfl (.inr (.inl rfl))) rfl) (blkOk_by (by kernel_rfl)) (by decide) (gok_name 5) (fun _ _ _ _ _ => pg_name nds rfl (.inl rfl) (.inr rfl)) (fun _ _ _ _ _ => pxts_nil) (fun _ _ _ _ _ => wd_call C__law_row (alen_cons (alen_cons (alen_cons (alen_cons (alen_nil))))) (hr.mono (by decide)) rfl (pxa_cons (wv nd rfl (.inr (.inl rfl))) (pxa_cons (wv nd rfl (.inr (.inl rfl))) (pxa_cons (wv nd rfl (.inr (.inl rfl))) (pxa_cons (wv nd rfl (.inl rfl)) (pxa_nil) rfl) rfl) rfl) rfl) dbg__law_row rfl rfl) (fun _ => rfl)) (pxa_nil) rfl) rfl rfl) (pxa_nil) rfl) rfl) rfl) (by decide) (len_cons (len_cons (len_cons (len_nil)))))))))
abbrev s__law_frame : Stmt := (top 72)
theorem sc__law_frame : FnScope ["_law_box", "_law_boxes", "_law_slots", "_law_one"] ["_law_box"] (defScope s__law_frame) := ⟨rfl, rfl, rfl, by decide +kernel, rfl, by decide +kernel, by decide +kernel⟩
theorem nd__law_frame : (["_law_box", "_law_boxes", "_law_slots", "_law_one"] : List Str).all ndbg = true := by decide +kernel
theorem d__law_frame (T : Txt w K mg C_Run C_Junk) (C__law_take : Cal nm P w K mg base 1 "_law_take" ["_law_box", "_law_many"] f__law_take) {f : Addr} {fd : FuncData} (F : Fun K "_law_frame" "_law_frame" s__law_frame f fd) : FnOk P w K mg base CX0 2 f fd ["_law_box"] (spF nm K mg 1 f__law_frame) :=
  fn_ok F sc__law_frame fun cdv A outer s H E hr =>
    have nds : (["_law_box", "_law_boxes", "_law_slots", "_law_one"] : List Str).Nodup := sc__law_frame.nd
    have nd := nd__law_frame
    pxss_cons (pxs_set nds rfl (.inl rfl) (px_ix (px_lst (pxa_cons (px_op op_addA op2_add (px_int) (wd_call C__law_take (alen_cons (alen_cons (alen_nil))) (hr.mono (by decide)) rfl (pxa_cons (wv nd rfl (.inr (.inl rfl))) (pxa_cons (px_int) (pxa_nil) rfl) rfl) dbg__law_take rfl rfl)) (pxa_cons (px_op op_addA op2_add (px_int) (wd_call C__law_take (alen_cons (alen_cons (alen_nil))) (hr.mono (by decide)) rfl (pxa_cons (wv nd rfl (.inr (.inl rfl))) (pxa_cons (px_int) (pxa_nil) rfl) rfl) dbg__law_take rfl rfl)) (pxa_cons (px_op op_addA op2_add (px_int) (wd_call C__law_take (alen_cons (alen_cons (alen_nil))) (hr.mono (by decide)) rfl (pxa_cons (wv nd rfl (.inr (.inl rfl))) (pxa_cons (px_int) (pxa_nil) rfl) rfl) dbg__law_take rfl rfl)) (pxa_nil) rfl) rfl) rfl) (by decide) (len_cons (len_cons (len_cons (len_nil))))) (wd_call C__law_take (alen_cons (alen_cons (alen_nil))) (hr.mono (by decide)) rfl (pxa_cons (wv nd rfl (.inr (.inl rfl))) (pxa_cons (px_int) (pxa_nil) rfl) rfl) dbg__law_take rfl rfl) (fun _ _ => rfl)) rfl (.inr rfl))
    (pxss_cons (pxs_set nds rfl (.inl rfl) (px_ix (px_lst (pxa_cons (px_int) (pxa_cons (wd_call C__law_take (alen_cons (alen_cons (alen_nil))) (hr.mono (by decide)) rfl (pxa_cons (wv nd rfl (.inr (.inl rfl))) (pxa_cons (px_int) (pxa_nil) rfl) rfl) dbg__law_take rfl rfl) (pxa_nil) rfl) rfl) (by decide) (len_cons (len_cons (len_nil)))) (wd_call C__law_take (alen_cons (alen_cons (alen_nil))) (hr.mono (by decide)) rfl (pxa_cons (wv nd rfl (.inr (.inl rfl))) (pxa_cons (px_int) (pxa_nil) rfl) rfl) dbg__law_take rfl rfl) (fun _ _ => rfl)) rfl (.inr rfl))
    (pxss_one (pxs_ret (px_tup (pxa_cons (wv nd rfl (.inl rfl)) (pxa_cons (wv nd rfl (.inl rfl)) (pxa_cons (wd_tuple rfl T.m_tuple (pxa_cons (px_lc rfl nds (own := [("_law_one", 3)]) (pxi_range1 rfl T.m_range (wv nd rfl (.inl rfl)) rfl) (blkOk_by (by kernel_rfl)) (by decide) (gok_name 3) (fun _ _ _ _ _ => pg_name nds rfl (.inl rfl) (.inr rfl)) (fun _ _ _ _ _ => pxts_one (pxt_cmp (op_eqA (hu64 hr)) op2_eq (wd_call C__law_take (alen_cons (alen_cons (alen_nil))) (hr.mono (by decide)) rfl (pxa_cons (wv nd rfl (.inr (.inl rfl))) (pxa_cons (px_int) (pxa_nil) rfl) rfl) dbg__law_take rfl rfl) (px_int) rfl)) (fun _ _ _ _ _ => wv nd rfl (.inl rfl)) (fun _ => rfl)) (pxa_nil) rfl) rfl rfl) (pxa_nil) rfl) rfl) rfl) (by decide) (len_cons (len_cons (len_cons (len_nil))))))))
abbrev s_is_number : Stmt := (top 20)
theorem sc_is_number : FnScope ["part", "low", "high"] ["part", "low", "high"] (defScope s_is_number) := ⟨rfl, rfl, rfl, by decide +kernel, rfl, by decide +kernel, by decide +kernel⟩
theorem nd_is_number : (["part", "low", "high"] : List Str).all ndbg = true := by decide +kernel
theorem d_is_number (T : Txt w K mg C_Run C_Junk) {f : Addr} {fd : FuncData} (F : Fun K "is_number" "is_number" s_is_number f fd) : FnOk P w K mg base CX0 1 f fd ["part", "low", "high"] (spF nm K mg 3 f_is_number) :=
  fn_ok F sc_is_number fun cdv A outer s H E hr =>
    have nds : (["part", "low", "high"] : List Str).Nodup := sc_is_number.nd
    have nd := nd_is_number
    pxss_one (pxs_ret (px_and (px_isi .int rfl (wv nd rfl (.inl rfl)) rfl T.m_isinstance rfl T.m_int rfl rfl rfl) (px_and (px_not (px_isi .bool rfl (wv nd rfl (.inl rfl)) rfl T.m_isinstance rfl T.m_bool rfl rfl rfl)) (px_one (px_chain op_le op2_cmp op_le op2_cmp (wv nd rfl (.inl rfl)) (wv nd rfl (.inl rfl)) (wv nd rfl (.inl rfl)) rfl)))))
abbrev s_is_row : Stmt := (top 21)
theorem sc_is_row : FnScope ["row", "names", "many", "shape", "most", "k"] ["row", "names", "many"] (defScope s_is_row) := ⟨rfl, rfl, rfl, by decide +kernel, rfl, by decide +kernel, by decide +kernel⟩
theorem nd_is_row : (["row", "names", "many", "shape", "most", "k"] : List Str).all ndbg = true := by decide +kernel
theorem d_is_row (T : Txt w K mg C_Run C_Junk) (C_is_number : Cal nm P w K mg base 1 "is_number" ["part", "low", "high"] f_is_number) {f : Addr} {fd : FuncData} (F : Fun K "is_row" "is_row" s_is_row f fd) : FnOk P w K mg base CX0 2 f fd ["row", "names", "many"] (spF nm K mg 3 f_is_row) :=
  fn_ok F sc_is_row fun cdv A outer s H E hr =>
    have nds : (["row", "names", "many", "shape", "most", "k"] : List Str).Nodup := sc_is_row.nd
    have nd := nd_is_row
    pxss_cons (pxs_if (pxt_w (pxw_or (pxt_not (pxt_val (px_isi .tup rfl (wv nd rfl (.inr (.inl rfl))) rfl T.m_isinstance rfl T.m_tuple rfl rfl rfl) (fun _ => rfl))) (pxw_or (pxt_cmp (op_eqA (hu64 hr)) op2_eq (wd_len rfl T.m_len (pxa_cons (wv nd rfl (.inr (.inl rfl))) (pxa_nil) rfl) rfl rfl) (px_int) rfl) (pxw_or1 (pxt_not (pxt_val (px_isi .str rfl (px_ix (wv nd rfl (.inr (.inl rfl))) (px_int) (fun _ _ => rfl)) rfl T.m_isinstance rfl T.m_str rfl rfl rfl) (fun _ => rfl))))))) (pxss_one (pxs_ret (px_bl))) (pxss_nil))
    (pxss_cons (pxs_set nds rfl (.inr rfl) (wd_kget T.m_SHAPES rfl dbg_SHAPES (px_ix (wv nd rfl (.inr (.inl rfl))) (px_int) (fun _ _ => rfl)) (px_non) ⟨rfl, rfl, rfl, rfl⟩) rfl (.inl rfl))
    (pxss_cons (pxs_if (pxt_w (pxw_or (pxt_isN (wv nd rfl (.inr (.inl rfl)))) (pxw_or1 (pxt_cmp (op_neA (hu64 hr)) op2_ne (wd_len rfl T.m_len (pxa_cons (wv nd rfl (.inr (.inl rfl))) (pxa_nil) rfl) rfl rfl) (px_op op_addA op2_add (wd_len rfl T.m_len (pxa_cons (wv nd rfl (.inr (.inl rfl))) (pxa_nil) rfl) rfl rfl) (px_int)) rfl)))) (pxss_one (pxs_ret (px_bl))) (pxss_nil))
    (pxss_cons (pxs_set nds rfl (.inr rfl) (px_disp (pxp_cons (px_str kz_d) (px_op op_sub op2_sub (wv nd rfl (.inl rfl)) (px_int)) (pxp_cons (px_str kz_a) (px_op op_sub op2_sub (wv nd rfl (.inl rfl)) (px_int)) (pxp_cons (px_str kz_n) (px_op op_sub op2_sub (wd_globI T.m_RING rfl dbg_RING) (px_int)) (pxp_cons (px_str kz_r) (px_op op_sub op2_sub (wv nd rfl (.inl rfl)) (px_int)) (pxp_nil))))) rfl rfl (by simp) (by decide) (by decide)) rfl (.inl rfl))
    (pxss_one (pxs_ret (px_cmp (op_eqA (hu64 hr)) op2_eq (px_lc rfl nds (own := [("k", 5)]) (pxi_range1 rfl T.m_range (wd_len rfl T.m_len (pxa_cons (wv nd rfl (.inr (.inl rfl))) (pxa_nil) rfl) rfl rfl) rfl) (blkOk_by (by kernel_rfl)) (by decide) (gok_name 5) (fun _ _ _ _ _ => pg_name nds rfl (.inl rfl) (.inr rfl)) (fun _ _ _ _ _ => pxts_one (pxt_not (pxt_val (wd_call C_is_number (alen_cons (alen_cons (alen_cons (alen_nil)))) (hr.mono (by decide)) rfl (pxa_cons (px_ix (wv nd rfl (.inr (.inl rfl))) (px_op op_addA op2_add (wv nd rfl (.inl rfl)) (px_int)) (fun _ _ => rfl)) (pxa_cons (px_int) (pxa_cons (px_dx (hu1 hr) (wv nd rfl (.inr (.inl rfl))) (px_ix (wv nd rfl (.inr (.inl rfl))) (wv nd rfl (.inl rfl)) (fun _ _ => rfl)) (fun _ _ => rfl)) (pxa_nil) rfl) rfl) rfl) dbg_is_number rfl rfl) (fun _ => rfl)))) (fun _ _ _ _ _ => wv nd rfl (.inl rfl)) (fun _ => rfl)) (px_lst (pxa_nil) (by decide) (len_nil)) rfl))))))
abbrev s_need_program : Stmt := (top 22)
theorem sc_need_program : FnScope ["program", "params", "names", "rows", "number", "row"] ["program"] (defScope s_need_program) := ⟨rfl, rfl, rfl, by decide +kernel, rfl, by decide +kernel, by decide +kernel⟩
theorem nd_need_program : (["program", "params", "names", "rows", "number", "row"] : List Str).all ndbg = true := by decide +kernel
theorem d_need_program (T : Txt w K mg C_Run C_Junk) (C_is_number : Cal nm P w K mg base 1 "is_number" ["part", "low", "high"] f_is_number) (C_is_row : Cal nm P w K mg base 2 "is_row" ["row", "names", "many"] f_is_row) {f : Addr} {fd : FuncData} (F : Fun K "need_program" "need_program" s_need_program f fd) : FnOk P w K mg base CX0 3 f fd ["program"] (spF nm K mg 1 f_need_program) :=
  fn_ok F sc_need_program fun cdv A outer s H E hr =>
    have nds : (["program", "params", "names", "rows", "number", "row"] : List Str).Nodup := sc_need_program.nd
    have nd := nd_need_program
    pxss_cons (pxs_if (pxt_w (pxw_or (pxt_not (pxt_val (px_isi .tup rfl (wv nd rfl (.inl rfl)) rfl T.m_isinstance rfl T.m_tuple rfl rfl rfl) (fun _ => rfl))) (pxw_or (pxt_cmp (op_neA (hu64 hr)) op2_ne (wd_len rfl T.m_len (pxa_cons (wv nd rfl (.inl rfl)) (pxa_nil) rfl) rfl rfl) (px_int) rfl) (pxw_or1 (pxt_not (pxt_val (wd_call C_is_number (alen_cons (alen_cons (alen_cons (alen_nil)))) (hr.mono (by decide)) rfl (pxa_cons (px_ix (wv nd rfl (.inl rfl)) (px_int) (fun _ _ => rfl)) (pxa_cons (px_int) (pxa_cons (wd_globI T.m_MOST_NAMES rfl dbg_MOST_NAMES) (pxa_nil) rfl) rfl) rfl) dbg_is_number rfl rfl) (fun _ => rfl))))))) (pxss_one (pxs_raise0)) (pxss_nil))
    (pxss_cons (pxs_asg (wv nd rfl (.inl rfl)) (pg_tup rfl (pgs_cons (pg_name nds rfl (.inl rfl) (.inr rfl)) (pgs_cons (pg_name nds rfl (.inl rfl) (.inr rfl)) (pgs_cons (pg_name nds rfl (.inl rfl) (.inr rfl)) (pgs_nil) rfl) rfl) rfl) rfl rfl) (gok_tup (is := [1, 2, 3])) rfl rfl rfl)
    (pxss_cons (pxs_if (pxt_w (pxw_or (pxt_not (pxt_val (wd_call C_is_number (alen_cons (alen_cons (alen_cons (alen_nil)))) (hr.mono (by decide)) rfl (pxa_cons (wv nd rfl (.inl rfl)) (pxa_cons (px_int) (pxa_cons (wv nd rfl (.inl rfl)) (pxa_nil) rfl) rfl) rfl) dbg_is_number rfl rfl) (fun _ => rfl))) (pxw_or (pxt_not (pxt_val (px_isi .tup rfl (wv nd rfl (.inl rfl)) rfl T.m_isinstance rfl T.m_tuple rfl rfl rfl) (fun _ => rfl))) (pxw_or1 (pxt_cmp (op_eqA (hu64 hr)) op2_eq (wd_len rfl T.m_len (pxa_cons (wv nd rfl (.inl rfl)) (pxa_nil) rfl) rfl rfl) (px_int) rfl))))) (pxss_one (pxs_raise0)) (pxss_nil))
    (pxss_one (pxs_for PassesOwn.never rfl (pxi_enum rfl T.m_enumerate (wv nd rfl (.inl rfl)) rfl) (pg_tup rfl (pgs_cons (pg_name nds rfl (.inl rfl) (.inr rfl)) (pgs_cons (pg_name nds rfl (.inl rfl) (.inr rfl)) (pgs_nil) rfl) rfl) rfl rfl) (gok_tup (is := [4, 5])) (pxss_one (pxs_if (pxt_w (pxw_or (pxt_cmp op_ge op2_cmp (wv nd rfl (.inl rfl)) (wd_globI T.m_MOST_ROWS rfl dbg_MOST_ROWS) rfl) (pxw_or1 (pxt_not (pxt_val (wd_call C_is_row (alen_cons (alen_cons (alen_cons (alen_nil)))) (hr.mono (by decide)) rfl (pxa_cons (wv nd rfl (.inl rfl)) (pxa_cons (wv nd rfl (.inl rfl)) (pxa_cons (wd_min rfl rfl T.m_min (pxa_cons (wd_len rfl T.m_len (pxa_cons (wv nd rfl (.inl rfl)) (pxa_nil) rfl) rfl rfl) (pxa_cons (wd_globI T.m_MOST_ROWS rfl dbg_MOST_ROWS) (pxa_nil) rfl) rfl) rfl rfl) (pxa_nil) rfl) rfl) rfl) dbg_is_row rfl rfl) (fun _ => rfl)))))) (pxss_one (pxs_raise0)) (pxss_nil))) (fun _ => rfl)))))
abbrev s_need_frame : Stmt := (top 33)
theorem sc_need_frame : FnScope ["frame", "boxes", "slots", "eaten", "box"] ["frame"] (defScope s_need_frame) := ⟨rfl, rfl, rfl, by decide +kernel, rfl, by decide +kernel, by decide +kernel⟩
theorem nd_need_frame : (["frame", "boxes", "slots", "eaten", "box"] : List Str).all ndbg = true := by decide +kernel
theorem d_need_frame (T : Txt w K mg C_Run C_Junk) (C_is_number : Cal nm P w K mg base 1 "is_number" ["part", "low", "high"] f_is_number) {f : Addr} {fd : FuncData} (F : Fun K "need_frame" "need_frame" s_need_frame f fd) : FnOk P w K mg base CX0 2 f fd ["frame"] (spF nm K mg 1 f_need_frame) :=
  fn_ok F sc_need_frame fun cdv A outer s H E hr =>
    have nds : (["frame", "boxes", "slots", "eaten", "box"] : List Str).Nodup := sc_need_frame.nd
    have nd := nd_need_frame
    pxss_cons (pxs_if (pxt_w (pxw_or (pxt_not (pxt_val (px_isi .tup rfl (wv nd rfl (.inl rfl)) rfl T.m_isinstance rfl T.m_tuple rfl rfl rfl) (fun _ => rfl))) (pxw_or1 (pxt_cmp (op_neA (hu64 hr)) op2_ne (wd_len rfl T.m_len (pxa_cons (wv nd rfl (.inl rfl)) (pxa_nil) rfl) rfl rfl) (px_int) rfl)))) (pxss_one (pxs_raise0)) (pxss_nil))
    (pxss_cons (pxs_asg (wv nd rfl (.inl rfl)) (pg_tup rfl (pgs_cons (pg_name nds rfl (.inr rfl) (.inl rfl)) (pgs_cons (pg_name nds rfl (.inl rfl) (.inr rfl)) (pgs_cons (pg_name nds rfl (.inl rfl) (.inr rfl)) (pgs_nil) rfl) rfl) rfl) rfl rfl) (gok_tup (is := [1, 2, 3])) rfl rfl rfl)
    (pxss_cons (pxs_if (pxt_w (pxw_or (pxt_not (pxt_val (wd_call C_is_number (alen_cons (alen_cons (alen_cons (alen_nil)))) (hr.mono (by decide)) rfl (pxa_cons (wv nd rfl (.inr (.inl rfl))) (pxa_cons (px_int) (pxa_cons (wd_globI T.m_MOST_BOXES rfl dbg_MOST_BOXES) (pxa_nil) rfl) rfl) rfl) dbg_is_number rfl rfl) (fun _ => rfl))) (pxw_or (pxt_not (pxt_val (wd_call C_is_number (alen_cons (alen_cons (alen_cons (alen_nil)))) (hr.mono (by decide)) rfl (pxa_cons (wv nd rfl (.inl rfl)) (pxa_cons (px_int) (pxa_cons (wd_globI T.m_MOST_SLOTS rfl dbg_MOST_SLOTS) (pxa_nil) rfl) rfl) rfl) dbg_is_number rfl rfl) (fun _ => rfl))) (pxw_or1 (pxt_not (pxt_val (px_isi .tup rfl (wv nd rfl (.inl rfl)) rfl T.m_isinstance rfl T.m_tuple rfl rfl rfl) (fun _ => rfl))))))) (pxss_one (pxs_raise0)) (pxss_nil))
    (pxss_one (pxs_if (pxt_w (pxw_or (pxt_cmp (op_neA (hu64 hr)) op2_ne (px_lc rfl nds (own := [("box", 4)]) (pxi_seq (wv nd rfl (.inl rfl))) (blkOk_by (by kernel_rfl)) (by decide) (gok_name 4) (fun _ _ _ _ _ => pg_name nds rfl (.inl rfl) (.inr rfl)) (fun _ _ _ _ _ => pxts_one (pxt_not (pxt_val (wd_call C_is_number (alen_cons (alen_cons (alen_cons (alen_nil)))) (hr.mono (by decide)) rfl (pxa_cons (wv nd rfl (.inl rfl)) (pxa_cons (px_int) (pxa_cons (px_op op_sub op2_sub (wv nd rfl (.inr (.inl rfl))) (px_int)) (pxa_nil) rfl) rfl) rfl) dbg_is_number rfl rfl) (fun _ => rfl)))) (fun _ _ _ _ _ => wv nd rfl (.inl rfl)) (fun _ => rfl)) (px_lst (pxa_nil) (by decide) (len_nil)) rfl) (pxw_or1 (pxt_cmp (op_neA (hu64 hr)) op2_ne (wd_list rfl T.m_list (pxa_cons (wv nd rfl (.inl rfl)) (pxa_nil) rfl) rfl rfl) (wd_sortedSet rfl rfl T.m_sorted rfl T.m_set (wv nd rfl (.inl rfl)) rfl rfl rfl rfl) rfl)))) (pxss_one (pxs_raise0)) (pxss_nil)))))
abbrev s_names_of : Stmt := (top 23)
theorem sc_names_of : FnScope ["row", "part", "sort"] ["row"] (defScope s_names_of) := ⟨rfl, rfl, rfl, by decide +kernel, rfl, by decide +kernel, by decide +kernel⟩
theorem nd_names_of : (["row", "part", "sort"] : List Str).all ndbg = true := by decide +kernel
theorem d_names_of (T : Txt w K mg C_Run C_Junk) {f : Addr} {fd : FuncData} (F : Fun K "names_of" "names_of" s_names_of f fd) : FnOk P w K mg base CX0 1 f fd ["row"] (spF nm K mg 1 f_names_of) :=
  fn_ok F sc_names_of fun cdv A outer s H E hr =>
    have nds : (["row", "part", "sort"] : List Str).Nodup := sc_names_of.nd
    have nd := nd_names_of
    pxss_one (pxs_ret (wd_tuple rfl T.m_tuple (pxa_cons (px_lc rfl nds (own := [("part", 1), ("sort", 2)]) (pxi_zip rfl T.m_zip (px_slice (wv nd rfl (.inl rfl)) (pxo_some (px_int)) (pxo_none)) (wd_kix T.m_SHAPES rfl dbg_SHAPES (px_ix (wv nd rfl (.inl rfl)) (px_int) (fun _ _ => rfl)) (fun _ _ => rfl)) rfl rfl rfl) (blkOk_by (by kernel_rfl)) (by decide) (gok_tup (is := [1, 2])) (fun _ _ _ _ _ => pg_tup rfl (pgs_cons (pg_name nds rfl (.inl rfl) (.inr rfl)) (pgs_cons (pg_name nds rfl (.inl rfl) (.inr rfl)) (pgs_nil) rfl) rfl) rfl rfl) (fun _ _ _ _ _ => pxts_one (pxt_cmp (op_inA (hu65 hr)) op2_in (wv nd rfl (.inl rfl)) (px_str kz_da) rfl)) (fun _ _ _ _ _ => wv nd rfl (.inl rfl)) (fun _ => rfl)) (pxa_nil) rfl) rfl rfl))
abbrev s_makes : Stmt := (top 49)
theorem sc_makes : FnScope ["row"] ["row"] (defScope s_makes) := ⟨rfl, rfl, rfl, by decide +kernel, rfl, by decide +kernel, by decide +kernel⟩
theorem nd_makes : (["row"] : List Str).all ndbg = true := by decide +kernel
theorem d_makes (T : Txt w K mg C_Run C_Junk) {f : Addr} {fd : FuncData} (F : Fun K "makes" "makes" s_makes f fd) : FnOk P w K mg base CX0 1 f fd ["row"] (spF nm K mg 1 f_makes) :=
  fn_ok F sc_makes fun cdv A outer s H E hr =>
    have nds : (["row"] : List Str).Nodup := sc_makes.nd
    have nd := nd_makes
    pxss_one (pxs_ret (px_cmp (op_notInA (hu65 hr)) op2_notIn (px_ix (wv nd rfl (.inl rfl)) (px_int) (fun _ _ => rfl)) (px_tup (pxa_cons (wd_globS T.m_SAY rfl dbg_SAY) (pxa_cons (wd_globS T.m_IF rfl dbg_IF) (pxa_cons (wd_globS T.m_GO rfl dbg_GO) (pxa_cons (wd_globS T.m_END rfl dbg_END) (pxa_nil) rfl) rfl) rfl) rfl) (by decide) (len_cons (len_cons (len_cons (len_cons (len_nil)))))) rfl))
abbrev s_group_of : Stmt := (top 60)
theorem sc_group_of : FnScope ["row", "names", "handed", "ahead", "boxes", "box", "name"] ["row"] (defScope s_group_of) := ⟨rfl, rfl, rfl, by decide +kernel, rfl, by decide +kernel, by decide +kernel⟩
theorem nd_group_of : (["row", "names", "handed", "ahead", "boxes", "box", "name"] : List Str).all ndbg = true := by decide +kernel
theorem d_group_of (T : Txt w K mg C_Run C_Junk) (C_names_of : Cal nm P w K mg base 1 "names_of" ["row"] f_names_of) (C_makes : Cal nm P w K mg base 1 "makes" ["row"] f_makes) {f : Addr} {fd : FuncData} (F : Fun K "group_of" "group_of" s_group_of f fd) : FnOk P w K mg base CX0 2 f fd ["row"] (spF nm K mg 1 f_group_of) :=
  fn_ok F sc_group_of fun cdv A outer s H E hr =>
    have nds : (["row", "names", "handed", "ahead", "boxes", "box", "name"] : List Str).Nodup := sc_group_of.nd
    have nd := nd_group_of
    pxss_cons (pxs_set nds rfl (.inl rfl) (wd_call C_names_of (alen_cons (alen_nil)) (hr.mono (by decide)) rfl (pxa_cons (wv nd rfl (.inl rfl)) (pxa_nil) rfl) dbg_names_of rfl rfl) rfl (.inr rfl))
    (pxss_cons (pxs_set nds rfl (.inl rfl) (px_if (pxt_val (wd_call C_makes (alen_cons (alen_nil)) (hr.mono (by decide)) rfl (pxa_cons (wv nd rfl (.inl rfl)) (pxa_nil) rfl) dbg_makes rfl rfl) (fun _ => rfl)) (px_slice (wv nd rfl (.inl rfl)) (pxo_some (px_int)) (pxo_none)) (wv nd rfl (.inl rfl))) rfl (.inr rfl))
    (pxss_cons (pxs_set nds rfl (.inl rfl) (wd_tuple rfl T.m_tuple (pxa_cons (px_lc rfl nds (own := [("box", 5), ("name", 6)]) (pxi_enum rfl T.m_enumerate (wv nd rfl (.inl rfl)) rfl) (blkOk_by (by kernel_rfl)) (by decide) (gok_tup (is := [5, 6])) (fun _ _ _ _ _ => pg_tup rfl (pgs_cons (pg_name nds rfl (.inl rfl) (.inr rfl)) (pgs_cons (pg_name nds rfl (.inl rfl) (.inr rfl)) (pgs_nil) rfl) rfl) rfl rfl) (fun _ _ _ _ _ => pxts_nil) (fun _ _ _ _ _ => px_tup (pxa_cons (px_str kz_load) (pxa_cons (wv nd rfl (.inl rfl)) (pxa_cons (wv nd rfl (.inl rfl)) (pxa_nil) rfl) rfl) rfl) (by decide) (len_cons (len_cons (len_cons (len_nil))))) (fun _ => rfl)) (pxa_nil) rfl) rfl rfl) rfl (.inr rfl))
    (pxss_cons (pxs_set nds rfl (.inl rfl) (wd_tupRg1 rfl rfl T.m_tuple rfl T.m_range (wd_len rfl T.m_len (pxa_cons (wv nd rfl (.inl rfl)) (pxa_nil) rfl) rfl rfl) rfl rfl) rfl (.inr rfl))
    (pxss_cons (pxs_if (pxt_not (pxt_val (wd_call C_makes (alen_cons (alen_nil)) (hr.mono (by decide)) rfl (pxa_cons (wv nd rfl (.inl rfl)) (pxa_nil) rfl) dbg_makes rfl rfl) (fun _ => rfl))) (pxss_one (pxs_ret (px_tup (pxa_cons (wv nd rfl (.inl rfl)) (pxa_cons (wv nd rfl (.inl rfl)) (pxa_cons (px_tup (pxa_nil) (by decide) (len_nil)) (pxa_nil) rfl) rfl) rfl) (by decide) (len_cons (len_cons (len_cons (len_nil))))))) (pxss_nil))
    (pxss_one (pxs_ret (px_tup (pxa_cons (wv nd rfl (.inl rfl)) (pxa_cons (px_op op_addA op2_add (px_tup (pxa_cons (wd_globI T.m_GOAL rfl dbg_GOAL) (pxa_nil) rfl) (by decide) (len_cons (len_nil))) (wv nd rfl (.inl rfl))) (pxa_cons (px_tup (pxa_cons (px_tup (pxa_cons (px_str kz_store) (pxa_cons (px_ix (wv nd rfl (.inl rfl)) (px_int) (fun _ _ => rfl)) (pxa_cons (wd_globI T.m_GOAL rfl dbg_GOAL) (pxa_nil) rfl) rfl) rfl) (by decide) (len_cons (len_cons (len_cons (len_nil))))) (pxa_nil) rfl) (by decide) (len_cons (len_nil))) (pxa_nil) rfl) rfl) rfl) (by decide) (len_cons (len_cons (len_cons (len_nil)))))))))))
abbrev s_made : Stmt := (top 61)
theorem sc_made : FnScope ["program", "frame", "places", "name", "row"] ["program", "frame"] (defScope s_made) := ⟨rfl, rfl, rfl, by decide +kernel, rfl, by decide +kernel, by decide +kernel⟩
theorem nd_made : (["program", "frame", "places", "name", "row"] : List Str).all ndbg = true := by decide +kernel
theorem d_made (T : Txt w K mg C_Run C_Junk) (C_need_program : Cal nm P w K mg base 3 "need_program" ["program"] f_need_program) (C_need_frame : Cal nm P w K mg base 2 "need_frame" ["frame"] f_need_frame) (C_group_of : Cal nm P w K mg base 2 "group_of" ["row"] f_group_of) {f : Addr} {fd : FuncData} (F : Fun K "made" "made" s_made f fd) : FnOk P w K mg base CX0 4 f fd ["program", "frame"] (spF nm K mg 2 f_made) :=
  fn_ok F sc_made fun cdv A outer s H E hr =>
    have nds : (["program", "frame", "places", "name", "row"] : List Str).Nodup := sc_made.nd
    have nd := nd_made
    pxss_cons (pxs_expr (wd_call C_need_program (alen_cons (alen_nil)) (hr.mono (by decide)) rfl (pxa_cons (wv nd rfl (.inl rfl)) (pxa_nil) rfl) dbg_need_program rfl rfl) rfl)
    (pxss_cons (pxs_expr (wd_call C_need_frame (alen_cons (alen_nil)) (hr.mono (by decide)) rfl (pxa_cons (wv nd rfl (.inl rfl)) (pxa_nil) rfl) dbg_need_frame rfl rfl) rfl)
    (pxss_cons (pxs_if (pxt_w (pxw_or (pxt_cmp op_le op2_cmp (px_ix (wv nd rfl (.inl rfl)) (px_int) (fun _ _ => rfl)) (wd_globI T.m_GOAL rfl dbg_GOAL) rfl) (pxw_or1 (pxt_cmp op_lt op2_cmp (px_ix (wv nd rfl (.inl rfl)) (px_int) (fun _ _ => rfl)) (px_ix (wv nd rfl (.inl rfl)) (px_int) (fun _ _ => rfl)) rfl)))) (pxss_one (pxs_raise0)) (pxss_nil))
    (pxss_cons (pxs_set nds rfl (.inl rfl) (wd_tuple rfl T.m_tuple (pxa_cons (px_lc rfl nds (own := [("name", 3)]) (pxi_range1 rfl T.m_range (px_ix (wv nd rfl (.inl rfl)) (px_int) (fun _ _ => rfl)) rfl) (blkOk_by (by kernel_rfl)) (by decide) (gok_name 3) (fun _ _ _ _ _ => pg_name nds rfl (.inl rfl) (.inr rfl)) (fun _ _ _ _ _ => pxts_nil) (fun _ _ _ _ _ => px_tup (pxa_cons (wd_globS T.m_SLOT rfl dbg_SLOT) (pxa_cons (wv nd rfl (.inl rfl)) (pxa_nil) rfl) rfl) (by decide) (len_cons (len_cons (len_nil)))) (fun _ => rfl)) (pxa_nil) rfl) rfl rfl) rfl (.inr rfl))
    (pxss_one (pxs_ret (px_tup (pxa_cons (wv nd rfl (.inl rfl)) (pxa_cons (wd_tuple rfl T.m_tuple (pxa_cons (px_lc rfl nds (own := [("row", 4)]) (pxi_seq (px_ix (wv nd rfl (.inl rfl)) (px_int) (fun _ _ => rfl))) (blkOk_by (by kernel_rfl)) (by decide) (gok_name 4) (fun _ _ _ _ _ => pg_name nds rfl (.inl rfl) (.inr rfl)) (fun _ _ _ _ _ => pxts_nil) (fun _ _ _ _ _ => wd_call C_group_of (alen_cons (alen_nil)) (hr.mono (by decide)) rfl (pxa_cons (wv nd rfl (.inl rfl)) (pxa_nil) rfl) dbg_group_of rfl rfl) (fun _ => rfl)) (pxa_nil) rfl) rfl rfl) (pxa_nil) rfl) rfl) (by decide) (len_cons (len_cons (len_nil)))))))))
abbrev s__law_alike : Stmt := (top 69)
theorem sc__law_alike : FnScope ["_law_found", "_law_due", "_law_k"] ["_law_found", "_law_due"] (defScope s__law_alike) := ⟨rfl, rfl, rfl, by decide +kernel, rfl, by decide +kernel, by decide +kernel⟩
theorem nd__law_alike : (["_law_found", "_law_due", "_law_k"] : List Str).all ndbg = true := by decide +kernel
theorem d__law_alike {k : Nat} {F0 : Fn} (T : Txt w K mg C_Run C_Junk) (C0 : Cal nm P w K mg base (1 + k) "_law_alike" ["_law_found", "_law_due"] F0) {f : Addr} {fd : FuncData} (F : Fun K "_law_alike" "_law_alike" s__law_alike f fd) : FnOk P w K mg base CX0 (2 + k) f fd ["_law_found", "_law_due"] (spF nm K mg 2 (fn 3 (b__law_alike F0))) :=
  (by omega : 1 + k + 1 = 2 + k) ▸ fn_ok F sc__law_alike fun cdv A outer s H E hr0 =>
    have nds : (["_law_found", "_law_due", "_law_k"] : List Str).Nodup := sc__law_alike.nd
    have nd := nd__law_alike
    have hr := hr0
    pxss_cons (pxs_if (pxt_isN (wv nd rfl (.inl rfl))) (pxss_one (pxs_ret (px_isN (wv nd rfl (.inl rfl))))) (pxss_nil))
    (pxss_cons (pxs_if (pxt_val (px_isi .bool rfl (wv nd rfl (.inl rfl)) rfl T.m_isinstance rfl T.m_bool rfl rfl rfl) (fun _ => rfl)) (pxss_one (pxs_ret (px_and (px_isi .bool rfl (wv nd rfl (.inl rfl)) rfl T.m_isinstance rfl T.m_bool rfl rfl rfl) (px_one (px_cmp (op_eqA (hu64 hr)) op2_eq (wv nd rfl (.inl rfl)) (wv nd rfl (.inl rfl)) rfl))))) (pxss_nil))
    (pxss_cons (pxs_if (pxt_val (px_isi .int rfl (wv nd rfl (.inl rfl)) rfl T.m_isinstance rfl T.m_int rfl rfl rfl) (fun _ => rfl)) (pxss_one (pxs_ret (px_and (px_isi .int rfl (wv nd rfl (.inl rfl)) rfl T.m_isinstance rfl T.m_int rfl rfl rfl) (px_and (px_not (px_isi .bool rfl (wv nd rfl (.inl rfl)) rfl T.m_isinstance rfl T.m_bool rfl rfl rfl)) (px_one (px_cmp (op_eqA (hu64 hr)) op2_eq (wv nd rfl (.inl rfl)) (wv nd rfl (.inl rfl)) rfl)))))) (pxss_nil))
    (pxss_cons (pxs_if (pxt_val (px_isi .str rfl (wv nd rfl (.inl rfl)) rfl T.m_isinstance rfl T.m_str rfl rfl rfl) (fun _ => rfl)) (pxss_one (pxs_ret (px_and (px_isi .str rfl (wv nd rfl (.inl rfl)) rfl T.m_isinstance rfl T.m_str rfl rfl rfl) (px_one (px_cmp (op_eqA (hu64 hr)) op2_eq (wv nd rfl (.inl rfl)) (wv nd rfl (.inl rfl)) rfl))))) (pxss_nil))
    (pxss_cons (pxs_if (pxt_w (pxw_or (pxt_cmp (op_neA (hu64 hr)) op2_ne (px_isi .tup rfl (wv nd rfl (.inl rfl)) rfl T.m_isinstance rfl T.m_tuple rfl rfl rfl) (px_isi .tup rfl (wv nd rfl (.inl rfl)) rfl T.m_isinstance rfl T.m_tuple rfl rfl rfl) rfl) (pxw_or1 (pxt_cmp (op_neA (hu64 hr)) op2_ne (px_isi .lst rfl (wv nd rfl (.inl rfl)) rfl T.m_isinstance rfl T.m_list rfl rfl rfl) (px_isi .lst rfl (wv nd rfl (.inl rfl)) rfl T.m_isinstance rfl T.m_list rfl rfl rfl) rfl)))) (pxss_one (pxs_ret (px_bl))) (pxss_nil))
    (pxss_cons (pxs_if (pxt_cmp (op_neA (hu64 hr)) op2_ne (wd_len rfl T.m_len (pxa_cons (wv nd rfl (.inl rfl)) (pxa_nil) rfl) rfl rfl) (wd_len rfl T.m_len (pxa_cons (wv nd rfl (.inl rfl)) (pxa_nil) rfl) rfl rfl) rfl) (pxss_one (pxs_ret (px_bl))) (pxss_nil))
    (pxss_cons (pxs_for PassesOwn.never rfl (pxi_range1 rfl T.m_range (wd_len rfl T.m_len (pxa_cons (wv nd rfl (.inl rfl)) (pxa_nil) rfl) rfl rfl) rfl) (pg_name nds rfl (.inl rfl) (.inr rfl)) (gok_name 2) (pxss_one (pxs_if (pxt_not (pxt_val (wd_call C0 (alen_cons (alen_cons (alen_nil))) hr0 rfl (pxa_cons (px_ix (wv nd rfl (.inl rfl)) (wv nd rfl (.inl rfl)) (fun _ _ => rfl)) (pxa_cons (px_ix (wv nd rfl (.inl rfl)) (wv nd rfl (.inl rfl)) (fun _ _ => rfl)) (pxa_nil) rfl) rfl) dbg__law_alike rfl rfl) (fun _ => rfl))) (pxss_one (pxs_ret (px_bl))) (pxss_nil))) (fun _ => rfl))
    (pxss_one (pxs_ret (px_bl)))))))))
abbrev s__law_groups : Stmt := (top 77)
theorem sc__law_groups : FnScope ["_law_program_here", "_law_found", "_law_row_here", "_law_names", "_law_ahead", "_law_k"] ["_law_program_here"] (defScope s__law_groups) := ⟨rfl, rfl, rfl, by decide +kernel, rfl, by decide +kernel, by decide +kernel⟩
theorem nd__law_groups : (["_law_program_here", "_law_found", "_law_row_here", "_law_names", "_law_ahead", "_law_k"] : List Str).all ndbg = true := by decide +kernel
theorem d__law_groups (T : Txt w K mg C_Run C_Junk) {f : Addr} {fd : FuncData} (F : Fun K "_law_groups" "_law_groups" s__law_groups f fd) : FnOk P w K mg base CX0 1 f fd ["_law_program_here"] (spF nm K mg 1 f__law_groups) :=
  fn_ok F sc__law_groups fun cdv A outer s H E hr =>
    have nds : (["_law_program_here", "_law_found", "_law_row_here", "_law_names", "_law_ahead", "_law_k"] : List Str).Nodup := sc__law_groups.nd
    have nd := nd__law_groups
    pxss_cons (pxs_set nds rfl (.inl rfl) (px_lst (pxa_nil) (by decide) (len_nil)) rfl (.inr rfl))
    (pxss_cons (pxs_for PassesOwn.never rfl (pxi_seq (px_ix (wv nd rfl (.inl rfl)) (px_int) (fun _ _ => rfl))) (pg_name nds rfl (.inl rfl) (.inr rfl)) (gok_name 2) (pxss_cons (pxs_set nds rfl (.inr rfl) (px_if (pxt_cmp (op_inA (hu65 hr)) op2_in (px_ix (wv nd rfl (.inl rfl)) (px_int) (fun _ _ => rfl)) (px_tup (pxa_cons (px_str kz_put) (pxa_cons (px_str kz_go) (pxa_cons (px_str kz_end) (pxa_nil) rfl) rfl) rfl) (by decide) (len_cons (len_cons (len_cons (len_nil))))) rfl) (px_lst (pxa_nil) (by decide) (len_nil)) (wd_list rfl T.m_list (pxa_cons (px_slice (wv nd rfl (.inl rfl)) (pxo_some (px_int)) (pxo_none)) (pxa_nil) rfl) rfl rfl)) rfl (.inl rfl))
    (pxss_cons (pxs_if (pxt_cmp (op_inA (hu65 hr)) op2_in (px_ix (wv nd rfl (.inl rfl)) (px_int) (fun _ _ => rfl)) (px_tup (pxa_cons (px_str kz_say) (pxa_cons (px_str kz_if) (pxa_nil) rfl) rfl) (by decide) (len_cons (len_cons (len_nil)))) rfl) (pxss_one (pxs_set nds rfl (.inr rfl) (px_lst (pxa_cons (px_ix (wv nd rfl (.inl rfl)) (px_int) (fun _ _ => rfl)) (pxa_nil) rfl) (by decide) (len_cons (len_nil))) rfl (.inl rfl))) (pxss_nil))
    (pxss_cons (pxs_set nds rfl (.inl rfl) (wd_tuple rfl T.m_tuple (pxa_cons (px_lc rfl nds (own := [("_law_k", 5)]) (pxi_range1 rfl T.m_range (wd_len rfl T.m_len (pxa_cons (wv nd rfl (.inr (.inl rfl))) (pxa_nil) rfl) rfl rfl) rfl) (blkOk_by (by kernel_rfl)) (by decide) (gok_name 5) (fun _ _ _ _ _ => pg_name nds rfl (.inl rfl) (.inr rfl)) (fun _ _ _ _ _ => pxts_nil) (fun _ _ _ _ _ => px_tup (pxa_cons (px_str kz_load) (pxa_cons (wv nd rfl (.inl rfl)) (pxa_cons (px_ix (wv nd rfl (.inr (.inl rfl))) (wv nd rfl (.inl rfl)) (fun _ _ => rfl)) (pxa_nil) rfl) rfl) rfl) (by decide) (len_cons (len_cons (len_cons (len_nil))))) (fun _ => rfl)) (pxa_nil) rfl) rfl rfl) rfl (.inr rfl))
    (pxss_one (pxs_if (pxt_cmp (op_inA (hu65 hr)) op2_in (px_ix (wv nd rfl (.inl rfl)) (px_int) (fun _ _ => rfl)) (px_tup (pxa_cons (px_str kz_say) (pxa_cons (px_str kz_if) (pxa_cons (px_str kz_go) (pxa_cons (px_str kz_end) (pxa_nil) rfl) rfl) rfl) rfl) (by decide) (len_cons (len_cons (len_cons (len_cons (len_nil)))))) rfl) (pxss_one (pxs_expr (wd_append (wv nd rfl (.inl rfl)) (px_tup (pxa_cons (wv nd rfl (.inl rfl)) (pxa_cons (wd_tupRg1 rfl rfl T.m_tuple rfl T.m_range (wd_len rfl T.m_len (pxa_cons (wv nd rfl (.inr (.inl rfl))) (pxa_nil) rfl) rfl rfl) rfl rfl) (pxa_cons (px_tup (pxa_nil) (by decide) (len_nil)) (pxa_nil) rfl) rfl) rfl) (by decide) (len_cons (len_cons (len_cons (len_nil))))) rfl rfl rfl rfl rfl) rfl)) (pxss_one (pxs_expr (wd_append (wv nd rfl (.inl rfl)) (px_tup (pxa_cons (wv nd rfl (.inl rfl)) (pxa_cons (px_op op_addA op2_add (px_tup (pxa_cons (px_int) (pxa_nil) rfl) (by decide) (len_cons (len_nil))) (wd_tupRg1 rfl rfl T.m_tuple rfl T.m_range (wd_len rfl T.m_len (pxa_cons (wv nd rfl (.inr (.inl rfl))) (pxa_nil) rfl) rfl rfl) rfl rfl)) (pxa_cons (px_tup (pxa_cons (px_tup (pxa_cons (px_str kz_store) (pxa_cons (px_ix (wv nd rfl (.inl rfl)) (px_int) (fun _ _ => rfl)) (pxa_cons (px_int) (pxa_nil) rfl) rfl) rfl) (by decide) (len_cons (len_cons (len_cons (len_nil))))) (pxa_nil) rfl) (by decide) (len_cons (len_nil))) (pxa_nil) rfl) rfl) rfl) (by decide) (len_cons (len_cons (len_cons (len_nil))))) rfl rfl rfl rfl rfl) rfl))))))) (fun _ => rfl))
    (pxss_one (pxs_ret (wd_tuple rfl T.m_tuple (pxa_cons (wv nd rfl (.inl rfl)) (pxa_nil) rfl) rfl rfl))))
abbrev s_is_place : Stmt := (top 37)
theorem sc_is_place : FnScope ["place", "frame"] ["place", "frame"] (defScope s_is_place) := ⟨rfl, rfl, rfl, by decide +kernel, rfl, by decide +kernel, by decide +kernel⟩
theorem nd_is_place : (["place", "frame"] : List Str).all ndbg = true := by decide +kernel
theorem d_is_place (T : Txt w K mg C_Run C_Junk) (C_is_number : Cal nm P w K mg base 1 "is_number" ["part", "low", "high"] f_is_number) {f : Addr} {fd : FuncData} (F : Fun K "is_place" "is_place" s_is_place f fd) : FnOk P w K mg base CX0 2 f fd ["place", "frame"] (spF nm K mg 2 f_is_place) :=
  fn_ok F sc_is_place fun cdv A outer s H E hr =>
    have nds : (["place", "frame"] : List Str).Nodup := sc_is_place.nd
    have nd := nd_is_place
    pxss_cons (pxs_if (pxt_w (pxw_or (pxt_not (pxt_val (px_isi .tup rfl (wv nd rfl (.inl rfl)) rfl T.m_isinstance rfl T.m_tuple rfl rfl rfl) (fun _ => rfl))) (pxw_or (pxt_cmp (op_neA (hu64 hr)) op2_ne (wd_len rfl T.m_len (pxa_cons (wv nd rfl (.inl rfl)) (pxa_nil) rfl) rfl rfl) (px_int) rfl) (pxw_or1 (pxt_not (pxt_val (px_isi .str rfl (px_ix (wv nd rfl (.inl rfl)) (px_int) (fun _ _ => rfl)) rfl T.m_isinstance rfl T.m_str rfl rfl rfl) (fun _ => rfl))))))) (pxss_one (pxs_ret (px_bl))) (pxss_nil))
    (pxss_one (pxs_ret (wd_call C_is_number (alen_cons (alen_cons (alen_cons (alen_nil)))) (hr.mono (by decide)) rfl (pxa_cons (px_ix (wv nd rfl (.inl rfl)) (px_int) (fun _ _ => rfl)) (pxa_cons (px_int) (pxa_cons (px_op op_sub op2_sub (px_get (hu1 hr) (px_disp (pxp_cons (wd_globS T.m_BOX rfl dbg_BOX) (px_ix (wv nd rfl (.inl rfl)) (px_int) (fun _ _ => rfl)) (pxp_cons (wd_globS T.m_SLOT rfl dbg_SLOT) (px_ix (wv nd rfl (.inl rfl)) (px_int) (fun _ _ => rfl)) (pxp_nil))) rfl rfl (by simp) (by decide) (by decide)) (px_ix (wv nd rfl (.inl rfl)) (px_int) (fun _ _ => rfl)) (px_int) ⟨rfl, rfl, rfl, rfl⟩) (px_int)) (pxa_nil) rfl) rfl) rfl) dbg_is_number rfl rfl)))
abbrev s_is_move : Stmt := (top 34)
theorem sc_is_move : FnScope ["move", "frame", "most", "k"] ["move", "frame"] (defScope s_is_move) := ⟨rfl, rfl, rfl, by decide +kernel, rfl, by decide +kernel, by decide +kernel⟩
theorem nd_is_move : (["move", "frame", "most", "k"] : List Str).all ndbg = true := by decide +kernel
theorem d_is_move (T : Txt w K mg C_Run C_Junk) (C_is_number : Cal nm P w K mg base 1 "is_number" ["part", "low", "high"] f_is_number) {f : Addr} {fd : FuncData} (F : Fun K "is_move" "is_move" s_is_move f fd) : FnOk P w K mg base CX0 2 f fd ["move", "frame"] (spF nm K mg 2 f_is_move) :=
  fn_ok F sc_is_move fun cdv A outer s H E hr =>
    have nds : (["move", "frame", "most", "k"] : List Str).Nodup := sc_is_move.nd
    have nd := nd_is_move
    pxss_cons (pxs_if (pxt_w (pxw_or (pxt_not (pxt_val (px_isi .tup rfl (wv nd rfl (.inr (.inl rfl))) rfl T.m_isinstance rfl T.m_tuple rfl rfl rfl) (fun _ => rfl))) (pxw_or (pxt_cmp (op_neA (hu64 hr)) op2_ne (wd_len rfl T.m_len (pxa_cons (wv nd rfl (.inr (.inl rfl))) (pxa_nil) rfl) rfl rfl) (px_int) rfl) (pxw_or (pxt_not (pxt_val (px_isi .str rfl (px_ix (wv nd rfl (.inr (.inl rfl))) (px_int) (fun _ _ => rfl)) rfl T.m_isinstance rfl T.m_str rfl rfl rfl) (fun _ => rfl))) (pxw_or1 (wd_kNotIn T.m_MOVES rfl dbg_MOVES (px_ix (wv nd rfl (.inr (.inl rfl))) (px_int) (fun _ _ => rfl)))))))) (pxss_one (pxs_ret (px_bl))) (pxss_nil))
    (pxss_cons (pxs_set nds rfl (.inr rfl) (px_disp (pxp_cons (px_str kz_b) (px_op op_sub op2_sub (px_ix (wv nd rfl (.inl rfl)) (px_int) (fun _ _ => rfl)) (px_int)) (pxp_cons (px_str kz_s) (px_op op_sub op2_sub (px_ix (wv nd rfl (.inl rfl)) (px_int) (fun _ _ => rfl)) (px_int)) (pxp_nil))) rfl rfl (by simp) (by decide) (by decide)) rfl (.inl rfl))
    (pxss_one (pxs_ret (px_cmp (op_eqA (hu64 hr)) op2_eq (px_lc rfl nds (own := [("k", 3)]) (pxi_range1 rfl T.m_range (px_int) rfl) (blkOk_by (by kernel_rfl)) (by decide) (gok_name 3) (fun _ _ _ _ _ => pg_name nds rfl (.inl rfl) (.inr rfl)) (fun _ _ _ _ _ => pxts_one (pxt_not (pxt_val (wd_call C_is_number (alen_cons (alen_cons (alen_cons (alen_nil)))) (hr.mono (by decide)) rfl (pxa_cons (px_ix (wv nd rfl (.inr (.inl rfl))) (px_op op_addA op2_add (wv nd rfl (.inl rfl)) (px_int)) (fun _ _ => rfl)) (pxa_cons (px_int) (pxa_cons (px_dx (hu1 hr) (wv nd rfl (.inr (.inl rfl))) (px_ix (wd_kix T.m_MOVES rfl dbg_MOVES (px_ix (wv nd rfl (.inr (.inl rfl))) (px_int) (fun _ _ => rfl)) (fun _ _ => rfl)) (wv nd rfl (.inl rfl)) (fun _ _ => rfl)) (fun _ _ => rfl)) (pxa_nil) rfl) rfl) rfl) dbg_is_number rfl rfl) (fun _ => rfl)))) (fun _ _ _ _ _ => wv nd rfl (.inl rfl)) (fun _ => rfl)) (px_lst (pxa_nil) (by decide) (len_nil)) rfl))))
abbrev s_are_moves : Stmt := (top 35)
theorem sc_are_moves : FnScope ["moves", "frame", "move"] ["moves", "frame"] (defScope s_are_moves) := ⟨rfl, rfl, rfl, by decide +kernel, rfl, by decide +kernel, by decide +kernel⟩
theorem nd_are_moves : (["moves", "frame", "move"] : List Str).all ndbg = true := by decide +kernel
theorem d_are_moves (T : Txt w K mg C_Run C_Junk) (C_is_move : Cal nm P w K mg base 2 "is_move" ["move", "frame"] f_is_move) {f : Addr} {fd : FuncData} (F : Fun K "are_moves" "are_moves" s_are_moves f fd) : FnOk P w K mg base CX0 3 f fd ["moves", "frame"] (spF nm K mg 2 f_are_moves) :=
  fn_ok F sc_are_moves fun cdv A outer s H E hr =>
    have nds : (["moves", "frame", "move"] : List Str).Nodup := sc_are_moves.nd
    have nd := nd_are_moves
    pxss_cons (pxs_if (pxt_w (pxw_or (pxt_not (pxt_val (px_isi .tup rfl (wv nd rfl (.inl rfl)) rfl T.m_isinstance rfl T.m_tuple rfl rfl rfl) (fun _ => rfl))) (pxw_or1 (pxt_cmp op_gt op2_cmp (wd_len rfl T.m_len (pxa_cons (wv nd rfl (.inl rfl)) (pxa_nil) rfl) rfl rfl) (wd_globI T.m_MOST_MOVES rfl dbg_MOST_MOVES) rfl)))) (pxss_one (pxs_ret (px_bl))) (pxss_nil))
    (pxss_one (pxs_ret (px_cmp (op_eqA (hu64 hr)) op2_eq (px_lc rfl nds (own := [("move", 2)]) (pxi_seq (wv nd rfl (.inl rfl))) (blkOk_by (by kernel_rfl)) (by decide) (gok_name 2) (fun _ _ _ _ _ => pg_name nds rfl (.inl rfl) (.inr rfl)) (fun _ _ _ _ _ => pxts_one (pxt_not (pxt_val (wd_call C_is_move (alen_cons (alen_cons (alen_nil))) (hr.mono (by decide)) rfl (pxa_cons (wv nd rfl (.inl rfl)) (pxa_cons (wv nd rfl (.inr (.inl rfl))) (pxa_nil) rfl) rfl) dbg_is_move rfl rfl) (fun _ => rfl)))) (fun _ _ _ _ _ => wv nd rfl (.inl rfl)) (fun _ => rfl)) (px_lst (pxa_nil) (by decide) (len_nil)) rfl)))
abbrev s_is_group : Stmt := (top 36)
theorem sc_is_group : FnScope ["group", "row", "frame", "box"] ["group", "row", "frame"] (defScope s_is_group) := ⟨rfl, rfl, rfl, by decide +kernel, rfl, by decide +kernel, by decide +kernel⟩
theorem nd_is_group : (["group", "row", "frame", "box"] : List Str).all ndbg = true := by decide +kernel
theorem d_is_group (T : Txt w K mg C_Run C_Junk) (C_are_moves : Cal nm P w K mg base 3 "are_moves" ["moves", "frame"] f_are_moves) (C_names_of : Cal nm P w K mg base 1 "names_of" ["row"] f_names_of) (C_is_number : Cal nm P w K mg base 1 "is_number" ["part", "low", "high"] f_is_number) {f : Addr} {fd : FuncData} (F : Fun K "is_group" "is_group" s_is_group f fd) : FnOk P w K mg base CX0 4 f fd ["group", "row", "frame"] (spF nm K mg 3 f_is_group) :=
  fn_ok F sc_is_group fun cdv A outer s H E hr =>
    have nds : (["group", "row", "frame", "box"] : List Str).Nodup := sc_is_group.nd
    have nd := nd_is_group
    pxss_cons (pxs_if (pxt_w (pxw_or (pxt_not (pxt_val (px_isi .tup rfl (wv nd rfl (.inl rfl)) rfl T.m_isinstance rfl T.m_tuple rfl rfl rfl) (fun _ => rfl))) (pxw_or (pxt_cmp (op_neA (hu64 hr)) op2_ne (wd_len rfl T.m_len (pxa_cons (wv nd rfl (.inl rfl)) (pxa_nil) rfl) rfl rfl) (px_int) rfl) (pxw_or1 (pxt_not (pxt_val (wd_call C_are_moves (alen_cons (alen_cons (alen_nil))) (hr.mono (by decide)) rfl (pxa_cons (px_ix (wv nd rfl (.inl rfl)) (px_int) (fun _ _ => rfl)) (pxa_cons (wv nd rfl (.inr (.inl rfl))) (pxa_nil) rfl) rfl) dbg_are_moves rfl rfl) (fun _ => rfl))))))) (pxss_one (pxs_ret (px_bl))) (pxss_nil))
    (pxss_cons (pxs_if (pxt_w (pxw_or (pxt_not (pxt_val (px_isi .tup rfl (px_ix (wv nd rfl (.inl rfl)) (px_int) (fun _ _ => rfl)) rfl T.m_isinstance rfl T.m_tuple rfl rfl rfl) (fun _ => rfl))) (pxw_or1 (pxt_cmp (op_neA (hu64 hr)) op2_ne (wd_len rfl T.m_len (pxa_cons (px_ix (wv nd rfl (.inl rfl)) (px_int) (fun _ _ => rfl)) (pxa_nil) rfl) rfl rfl) (wd_len rfl T.m_len (pxa_cons (wd_call C_names_of (alen_cons (alen_nil)) (hr.mono (by decide)) rfl (pxa_cons (wv nd rfl (.inl rfl)) (pxa_nil) rfl) dbg_names_of rfl rfl) (pxa_nil) rfl) rfl rfl) rfl)))) (pxss_one (pxs_ret (px_bl))) (pxss_nil))
    (pxss_cons (pxs_if (pxt_cmp (op_neA (hu64 hr)) op2_ne (px_lc rfl nds (own := [("box", 3)]) (pxi_seq (px_ix (wv nd rfl (.inl rfl)) (px_int) (fun _ _ => rfl))) (blkOk_by (by kernel_rfl)) (by decide) (gok_name 3) (fun _ _ _ _ _ => pg_name nds rfl (.inl rfl) (.inr rfl)) (fun _ _ _ _ _ => pxts_one (pxt_not (pxt_val (wd_call C_is_number (alen_cons (alen_cons (alen_cons (alen_nil)))) (hr.mono (by decide)) rfl (pxa_cons (wv nd rfl (.inl rfl)) (pxa_cons (px_int) (pxa_cons (px_op op_sub op2_sub (px_ix (wv nd rfl (.inr (.inl rfl))) (px_int) (fun _ _ => rfl)) (px_int)) (pxa_nil) rfl) rfl) rfl) dbg_is_number rfl rfl) (fun _ => rfl)))) (fun _ _ _ _ _ => wv nd rfl (.inl rfl)) (fun _ => rfl)) (px_lst (pxa_nil) (by decide) (len_nil)) rfl) (pxss_one (pxs_ret (px_bl))) (pxss_nil))
    (pxss_one (pxs_ret (px_and (wd_call C_are_moves (alen_cons (alen_cons (alen_nil))) (hr.mono (by decide)) rfl (pxa_cons (px_ix (wv nd rfl (.inl rfl)) (px_int) (fun _ _ => rfl)) (pxa_cons (wv nd rfl (.inr (.inl rfl))) (pxa_nil) rfl) rfl) dbg_are_moves rfl rfl) (px_one (px_or (px_cmp (op_eqA (hu64 hr)) op2_eq (px_ix (wv nd rfl (.inl rfl)) (px_int) (fun _ _ => rfl)) (px_tup (pxa_nil) (by decide) (len_nil)) rfl) (px_one (px_cmp (op_notInA (hu65 hr)) op2_notIn (px_ix (wv nd rfl (.inl rfl)) (px_int) (fun _ _ => rfl)) (px_tup (pxa_cons (wd_globS T.m_GO rfl dbg_GO) (pxa_cons (wd_globS T.m_IF rfl dbg_IF) (pxa_cons (wd_globS T.m_END rfl dbg_END) (pxa_nil) rfl) rfl) rfl) (by decide) (len_cons (len_cons (len_cons (len_nil))))) rfl)))))))))
abbrev s_need_choice : Stmt := (top 38)
theorem sc_need_choice : FnScope ["program", "frame", "choice", "places", "groups", "number", "group", "place"] ["program", "frame", "choice"] (defScope s_need_choice) := ⟨rfl, rfl, rfl, by decide +kernel, rfl, by decide +kernel, by decide +kernel⟩
theorem nd_need_choice : (["program", "frame", "choice", "places", "groups", "number", "group", "place"] : List Str).all ndbg = true := by decide +kernel
theorem d_need_choice (T : Txt w K mg C_Run C_Junk) (C_is_place : Cal nm P w K mg base 2 "is_place" ["place", "frame"] f_is_place) (C_is_group : Cal nm P w K mg base 4 "is_group" ["group", "row", "frame"] f_is_group) {f : Addr} {fd : FuncData} (F : Fun K "need_choice" "need_choice" s_need_choice f fd) : FnOk P w K mg base CX0 5 f fd ["program", "frame", "choice"] (spF nm K mg 3 f_need_choice) :=
  fn_ok F sc_need_choice fun cdv A outer s H E hr =>
    have nds : (["program", "frame", "choice", "places", "groups", "number", "group", "place"] : List Str).Nodup := sc_need_choice.nd
    have nd := nd_need_choice
    pxss_cons (pxs_if (pxt_w (pxw_or (pxt_not (pxt_val (px_isi .tup rfl (wv nd rfl (.inl rfl)) rfl T.m_isinstance rfl T.m_tuple rfl rfl rfl) (fun _ => rfl))) (pxw_or (pxt_cmp (op_neA (hu64 hr)) op2_ne (wd_len rfl T.m_len (pxa_cons (wv nd rfl (.inl rfl)) (pxa_nil) rfl) rfl rfl) (px_int) rfl) (pxw_or1 (pxt_not (pxt_val (px_isi .tup rfl (px_ix (wv nd rfl (.inl rfl)) (px_int) (fun _ _ => rfl)) rfl T.m_isinstance rfl T.m_tuple rfl rfl rfl) (fun _ => rfl))))))) (pxss_one (pxs_raise0)) (pxss_nil))
    (pxss_cons (pxs_asg (wv nd rfl (.inl rfl)) (pg_tup rfl (pgs_cons (pg_name nds rfl (.inl rfl) (.inr rfl)) (pgs_cons (pg_name nds rfl (.inl rfl) (.inr rfl)) (pgs_nil) rfl) rfl) rfl rfl) (gok_tup (is := [3, 4])) rfl rfl rfl)
    (pxss_cons (pxs_if (pxt_w (pxw_or (pxt_cmp (op_neA (hu64 hr)) op2_ne (wd_len rfl T.m_len (pxa_cons (wv nd rfl (.inl rfl)) (pxa_nil) rfl) rfl rfl) (px_ix (wv nd rfl (.inl rfl)) (px_int) (fun _ _ => rfl)) rfl) (pxw_or1 (pxt_cmp (op_neA (hu64 hr)) op2_ne (px_lc rfl nds (own := [("place", 7)]) (pxi_seq (wv nd rfl (.inl rfl))) (blkOk_by (by kernel_rfl)) (by decide) (gok_name 7) (fun _ _ _ _ _ => pg_name nds rfl (.inl rfl) (.inr rfl)) (fun _ _ _ _ _ => pxts_one (pxt_not (pxt_val (wd_call C_is_place (alen_cons (alen_cons (alen_nil))) (hr.mono (by decide)) rfl (pxa_cons (wv nd rfl (.inl rfl)) (pxa_cons (wv nd rfl (.inr (.inl rfl))) (pxa_nil) rfl) rfl) dbg_is_place rfl rfl) (fun _ => rfl)))) (fun _ _ _ _ _ => wv nd rfl (.inl rfl)) (fun _ => rfl)) (px_lst (pxa_nil) (by decide) (len_nil)) rfl)))) (pxss_one (pxs_raise0)) (pxss_nil))
    (pxss_cons (pxs_if (pxt_w (pxw_or (pxt_cmp (op_neA (hu64 hr)) op2_ne (wd_lenSet (hu64 hr) rfl rfl T.m_len rfl T.m_set (wv nd rfl (.inl rfl)) rfl rfl rfl rfl) (wd_len rfl T.m_len (pxa_cons (wv nd rfl (.inl rfl)) (pxa_nil) rfl) rfl rfl) rfl) (pxw_or1 (pxt_not (pxt_val (px_isi .tup rfl (wv nd rfl (.inl rfl)) rfl T.m_isinstance rfl T.m_tuple rfl rfl rfl) (fun _ => rfl)))))) (pxss_one (pxs_raise0)) (pxss_nil))
    (pxss_cons (pxs_for PassesOwn.never rfl (pxi_enum rfl T.m_enumerate (wv nd rfl (.inl rfl)) rfl) (pg_tup rfl (pgs_cons (pg_name nds rfl (.inl rfl) (.inr rfl)) (pgs_cons (pg_name nds rfl (.inl rfl) (.inr rfl)) (pgs_nil) rfl) rfl) rfl rfl) (gok_tup (is := [5, 6])) (pxss_one (pxs_if (pxt_w (pxw_or (pxt_cmp op_ge op2_cmp (wv nd rfl (.inl rfl)) (wd_len rfl T.m_len (pxa_cons (px_ix (wv nd rfl (.inl rfl)) (px_int) (fun _ _ => rfl)) (pxa_nil) rfl) rfl rfl) rfl) (pxw_or1 (pxt_not (pxt_val (wd_call C_is_group (alen_cons (alen_cons (alen_cons (alen_nil)))) (hr.mono (by decide)) rfl (pxa_cons (wv nd rfl (.inl rfl)) (pxa_cons (px_ix (px_ix (wv nd rfl (.inl rfl)) (px_int) (fun _ _ => rfl)) (wv nd rfl (.inl rfl)) (fun _ _ => rfl)) (pxa_cons (wv nd rfl (.inr (.inl rfl))) (pxa_nil) rfl) rfl) rfl) dbg_is_group rfl rfl) (fun _ => rfl)))))) (pxss_one (pxs_raise0)) (pxss_nil))) (fun _ => rfl))
    (pxss_one (pxs_if (pxt_cmp (op_neA (hu64 hr)) op2_ne (wd_len rfl T.m_len (pxa_cons (wv nd rfl (.inl rfl)) (pxa_nil) rfl) rfl rfl) (wd_len rfl T.m_len (pxa_cons (px_ix (wv nd rfl (.inl rfl)) (px_int) (fun _ _ => rfl)) (pxa_nil) rfl) rfl rfl) rfl) (pxss_one (pxs_raise0)) (pxss_nil)))))))
abbrev s_index_of : Stmt := (top 39)
theorem sc_index_of : FnScope ["place", "frame"] ["place", "frame"] (defScope s_index_of) := ⟨rfl, rfl, rfl, by decide +kernel, rfl, by decide +kernel, by decide +kernel⟩
theorem nd_index_of : (["place", "frame"] : List Str).all ndbg = true := by decide +kernel
theorem d_index_of (T : Txt w K mg C_Run C_Junk) {f : Addr} {fd : FuncData} (F : Fun K "index_of" "index_of" s_index_of f fd) : FnOk P w K mg base CX0 1 f fd ["place", "frame"] (spF nm K mg 2 f_index_of) :=
  fn_ok F sc_index_of fun cdv A outer s H E hr =>
    have nds : (["place", "frame"] : List Str).Nodup := sc_index_of.nd
    have nd := nd_index_of
    pxss_one (pxs_ret (px_if (pxt_cmp (op_eqA (hu64 hr)) op2_eq (px_ix (wv nd rfl (.inl rfl)) (px_int) (fun _ _ => rfl)) (wd_globS T.m_BOX rfl dbg_BOX) rfl) (px_ix (wv nd rfl (.inl rfl)) (px_int) (fun _ _ => rfl)) (px_op op_addA op2_add (px_ix (wv nd rfl (.inl rfl)) (px_int) (fun _ _ => rfl)) (px_ix (wv nd rfl (.inl rfl)) (px_int) (fun _ _ => rfl)))))
abbrev s_first_held : Stmt := (top 54)
theorem sc_first_held : FnScope ["program", "frame", "choice", "found", "name", "place"] ["program", "frame", "choice"] (defScope s_first_held) := ⟨rfl, rfl, rfl, by decide +kernel, rfl, by decide +kernel, by decide +kernel⟩
theorem nd_first_held : (["program", "frame", "choice", "found", "name", "place"] : List Str).all ndbg = true := by decide +kernel
theorem d_first_held (T : Txt w K mg C_Run C_Junk) (C_index_of : Cal nm P w K mg base 1 "index_of" ["place", "frame"] f_index_of) {f : Addr} {fd : FuncData} (F : Fun K "first_held" "first_held" s_first_held f fd) : FnOk P w K mg base CX0 2 f fd ["program", "frame", "choice"] (spF nm K mg 3 f_first_held) :=
  fn_ok F sc_first_held fun cdv A outer s H E hr =>
    have nds : (["program", "frame", "choice", "found", "name", "place"] : List Str).Nodup := sc_first_held.nd
    have nd := nd_first_held
    pxss_cons (pxs_set nds rfl (.inl rfl) (px_op op_mulA op2_mul (px_lst (pxa_cons (px_tup (pxa_nil) (by decide) (len_nil)) (pxa_nil) rfl) (by decide) (len_cons (len_nil))) (px_op op_addA op2_add (px_ix (wv nd rfl (.inl rfl)) (px_int) (fun _ _ => rfl)) (px_ix (wv nd rfl (.inl rfl)) (px_int) (fun _ _ => rfl)))) rfl (.inr rfl))
    (pxss_cons (pxs_for PassesOwn.never rfl (pxi_enum rfl T.m_enumerate (px_ix (wv nd rfl (.inl rfl)) (px_int) (fun _ _ => rfl)) rfl) (pg_tup rfl (pgs_cons (pg_name nds rfl (.inl rfl) (.inr rfl)) (pgs_cons (pg_name nds rfl (.inl rfl) (.inr rfl)) (pgs_nil) rfl) rfl) rfl rfl) (gok_tup (is := [4, 5])) (pxss_one (pxs_sub (wv nd rfl (.inl rfl)) (wd_call C_index_of (alen_cons (alen_cons (alen_nil))) (hr.mono (by decide)) rfl (pxa_cons (wv nd rfl (.inl rfl)) (pxa_cons (wv nd rfl (.inl rfl)) (pxa_nil) rfl) rfl) dbg_index_of rfl rfl) (px_tup (pxa_cons (wv nd rfl (.inl rfl)) (pxa_nil) rfl) (by decide) (len_cons (len_nil))) (fun _ => rfl) rfl rfl rfl)) (fun _ => rfl))
    (pxss_one (pxs_ret (wd_tuple rfl T.m_tuple (pxa_cons (wv nd rfl (.inl rfl)) (pxa_nil) rfl) rfl rfl))))
abbrev s_moved : Stmt := (top 40)
theorem sc_moved : FnScope ["held", "moves", "frame", "found", "word", "one", "other", "goal"] ["held", "moves", "frame"] (defScope s_moved) := ⟨rfl, rfl, rfl, by decide +kernel, rfl, by decide +kernel, by decide +kernel⟩
theorem nd_moved : (["held", "moves", "frame", "found", "word", "one", "other", "goal"] : List Str).all ndbg = true := by decide +kernel
theorem d_moved (T : Txt w K mg C_Run C_Junk) {f : Addr} {fd : FuncData} (F : Fun K "moved" "moved" s_moved f fd) : FnOk P w K mg base CX0 1 f fd ["held", "moves", "frame"] (spF nm K mg 3 f_moved) :=
  fn_ok F sc_moved fun cdv A outer s H E hr =>
    have nds : (["held", "moves", "frame", "found", "word", "one", "other", "goal"] : List Str).Nodup := sc_moved.nd
    have nd := nd_moved
    pxss_cons (pxs_set nds rfl (.inl rfl) (wd_list rfl T.m_list (pxa_cons (wv nd rfl (.inl rfl)) (pxa_nil) rfl) rfl rfl) rfl (.inr rfl))
    (pxss_cons (pxs_for PassesOwn.never rfl (pxi_seq (wv nd rfl (.inl rfl))) (pg_tup rfl (pgs_cons (pg_name nds rfl (.inl rfl) (.inr rfl)) (pgs_cons (pg_name nds rfl (.inl rfl) (.inr rfl)) (pgs_cons (pg_name nds rfl (.inl rfl) (.inr rfl)) (pgs_nil) rfl) rfl) rfl) rfl rfl) (gok_tup (is := [4, 5, 6])) (pxss_one (pxs_if (pxt_cmp (op_eqA (hu64 hr)) op2_eq (wv nd rfl (.inl rfl)) (px_str kz_swap) rfl) (pxss_one (pxs_sub2 rfl (px_tup (pxa_cons (px_ix (wv nd rfl (.inl rfl)) (wv nd rfl (.inl rfl)) (fun _ _ => rfl)) (pxa_cons (px_ix (wv nd rfl (.inl rfl)) (wv nd rfl (.inl rfl)) (fun _ _ => rfl)) (pxa_nil) rfl) rfl) (by decide) (len_cons (len_cons (len_nil)))) (wv nd rfl (.inl rfl)) (wv nd rfl (.inl rfl)) (wv nd rfl (.inl rfl)) (wv nd rfl (.inl rfl)) (fun _ => rfl) (fun _ => rfl) rfl rfl rfl rfl rfl rfl rfl)) (pxss_cons (pxs_set nds rfl (.inl rfl) (px_if (pxt_cmp (op_eqA (hu64 hr)) op2_eq (wv nd rfl (.inl rfl)) (px_str kz_store) rfl) (px_op op_addA op2_add (px_ix (wv nd rfl (.inl rfl)) (px_int) (fun _ _ => rfl)) (wv nd rfl (.inl rfl))) (wv nd rfl (.inl rfl))) rfl (.inr rfl))
    (pxss_one (pxs_sub (wv nd rfl (.inl rfl)) (wv nd rfl (.inl rfl)) (px_ix (wv nd rfl (.inl rfl)) (px_if (pxt_cmp (op_eqA (hu64 hr)) op2_eq (wv nd rfl (.inl rfl)) (px_str kz_load) rfl) (px_op op_addA op2_add (px_ix (wv nd rfl (.inl rfl)) (px_int) (fun _ _ => rfl)) (wv nd rfl (.inl rfl))) (wv nd rfl (.inl rfl))) (fun _ _ => rfl)) (fun _ => rfl) rfl rfl rfl))))) (fun _ => rfl))
    (pxss_one (pxs_ret (wv nd rfl (.inl rfl)))))
abbrev s_is_handed : Stmt := (top 55)
theorem sc_is_handed : FnScope ["row", "group", "held", "frame", "some", "boxes", "first", "k"] ["row", "group", "held", "frame"] (defScope s_is_handed) := ⟨rfl, rfl, rfl, by decide +kernel, rfl, by decide +kernel, by decide +kernel⟩
theorem nd_is_handed : (["row", "group", "held", "frame", "some", "boxes", "first", "k"] : List Str).all ndbg = true := by decide +kernel
theorem d_is_handed (T : Txt w K mg C_Run C_Junk) (C_moved : Cal nm P w K mg base 1 "moved" ["held", "moves", "frame"] f_moved) (C_makes : Cal nm P w K mg base 1 "makes" ["row"] f_makes) {f : Addr} {fd : FuncData} (F : Fun K "is_handed" "is_handed" s_is_handed f fd) : FnOk P w K mg base CX0 2 f fd ["row", "group", "held", "frame"] (spF nm K mg 4 f_is_handed) :=
  fn_ok F sc_is_handed fun cdv A outer s H E hr =>
    have nds : (["row", "group", "held", "frame", "some", "boxes", "first", "k"] : List Str).Nodup := sc_is_handed.nd
    have nd := nd_is_handed
    pxss_cons (pxs_set nds rfl (.inr rfl) (wd_call C_moved (alen_cons (alen_cons (alen_cons (alen_nil)))) (hr.mono (by decide)) rfl (pxa_cons (wv nd rfl (.inl rfl)) (pxa_cons (px_ix (wv nd rfl (.inl rfl)) (px_int) (fun _ _ => rfl)) (pxa_cons (wv nd rfl (.inl rfl)) (pxa_nil) rfl) rfl) rfl) dbg_moved rfl rfl) rfl (.inl rfl))
    (pxss_cons (pxs_set nds rfl (.inr rfl) (px_ix (wv nd rfl (.inl rfl)) (px_int) (fun _ _ => rfl)) rfl (.inl rfl))
    (pxss_cons (pxs_set nds rfl (.inl rfl) (wd_int rfl T.m_int (pxa_cons (wd_call C_makes (alen_cons (alen_nil)) (hr.mono (by decide)) rfl (pxa_cons (wv nd rfl (.inr (.inl rfl))) (pxa_nil) rfl) dbg_makes rfl rfl) (pxa_nil) rfl) rfl rfl) rfl (.inr rfl))
    (pxss_one (pxs_ret (px_cmp (op_eqA (hu64 hr)) op2_eq (px_lc rfl nds (own := [("k", 7)]) (pxi_range2 rfl T.m_range (wv nd rfl (.inl rfl)) (wd_len rfl T.m_len (pxa_cons (wv nd rfl (.inr (.inl rfl))) (pxa_nil) rfl) rfl rfl) rfl rfl) (blkOk_by (by kernel_rfl)) (by decide) (gok_name 7) (fun _ _ _ _ _ => pg_name nds rfl (.inl rfl) (.inr rfl)) (fun _ _ _ _ _ => pxts_one (pxt_cmp (op_notInA (hu65 hr)) op2_notIn (px_ix (wv nd rfl (.inr (.inl rfl))) (px_op op_addA op2_add (px_int) (wv nd rfl (.inl rfl))) (fun _ _ => rfl)) (px_ix (wv nd rfl (.inr (.inl rfl))) (px_ix (wv nd rfl (.inr (.inl rfl))) (wv nd rfl (.inl rfl)) (fun _ _ => rfl)) (fun _ _ => rfl)) rfl)) (fun _ _ _ _ _ => wv nd rfl (.inl rfl)) (fun _ => rfl)) (px_lst (pxa_nil) (by decide) (len_nil)) rfl)))))
abbrev s_renamed : Stmt := (top 56)
theorem sc_renamed : FnScope ["some", "goal", "source", "left", "name"] ["some", "goal", "source"] (defScope s_renamed) := ⟨rfl, rfl, rfl, by decide +kernel, rfl, by decide +kernel, by decide +kernel⟩
theorem nd_renamed : (["some", "goal", "source", "left", "name"] : List Str).all ndbg = true := by decide +kernel
theorem d_renamed (T : Txt w K mg C_Run C_Junk) {f : Addr} {fd : FuncData} (F : Fun K "renamed" "renamed" s_renamed f fd) : FnOk P w K mg base CX0 1 f fd ["some", "goal", "source"] (spF nm K mg 3 f_renamed) :=
  fn_ok F sc_renamed fun cdv A outer s H E hr =>
    have nds : (["some", "goal", "source", "left", "name"] : List Str).Nodup := sc_renamed.nd
    have nd := nd_renamed
    pxss_cons (pxs_if (pxt_cmp (op_eqA (hu64 hr)) op2_eq (wv nd rfl (.inr (.inl rfl))) (wv nd rfl (.inl rfl)) rfl) (pxss_one (pxs_ret (wv nd rfl (.inl rfl)))) (pxss_nil))
    (pxss_cons (pxs_setLc rfl nds rfl rfl rfl (own := [("name", 4)]) (pxi_seq (wv nd rfl (.inl rfl))) (blkOk_by (by kernel_rfl)) (by decide) (gok_name 4) (fun _ _ _ _ _ => pg_name nds rfl (.inl rfl) (.inr rfl)) (fun _ _ _ _ _ => pxts_one (pxt_cmp (op_neA (hu64 hr)) op2_ne (wv nd rfl (.inl rfl)) (wv nd rfl (.inr (.inl rfl))) rfl)) (fun _ _ _ _ _ => wv nd rfl (.inl rfl)) (fun _ => rfl))
    (pxss_one (pxs_ret (px_if (pxt_cmp (op_inA (hu65 hr)) op2_in (wv nd rfl (.inl rfl)) (wv nd rfl (.inl rfl)) rfl) (wd_tuple rfl T.m_tuple (pxa_cons (wd_sortedI rfl T.m_sorted (pxa_cons (px_op op_addA op2_add (wv nd rfl (.inl rfl)) (px_lst (pxa_cons (wv nd rfl (.inr (.inl rfl))) (pxa_nil) rfl) (by decide) (len_cons (len_nil)))) (pxa_nil) rfl) rfl rfl) (pxa_nil) rfl) rfl rfl) (wd_tuple rfl T.m_tuple (pxa_cons (wv nd rfl (.inl rfl)) (pxa_nil) rfl) rfl rfl)))))
abbrev s_held_behind : Stmt := (top 57)
theorem sc_held_behind : FnScope ["row", "group", "held", "frame", "is_same", "some", "boxes", "box", "one", "name"] ["row", "group", "held", "frame"] (defScope s_held_behind) := ⟨rfl, rfl, rfl, by decide +kernel, rfl, by decide +kernel, by decide +kernel⟩
theorem nd_held_behind : (["row", "group", "held", "frame", "is_same", "some", "boxes", "box", "one", "name"] : List Str).all ndbg = true := by decide +kernel
theorem d_held_behind (T : Txt w K mg C_Run C_Junk) (C_is_handed : Cal nm P w K mg base 2 "is_handed" ["row", "group", "held", "frame"] f_is_handed) (C_moved : Cal nm P w K mg base 1 "moved" ["held", "moves", "frame"] f_moved) (C_renamed : Cal nm P w K mg base 1 "renamed" ["some", "goal", "source"] f_renamed) (C_makes : Cal nm P w K mg base 1 "makes" ["row"] f_makes) {f : Addr} {fd : FuncData} (F : Fun K "held_behind" "held_behind" s_held_behind f fd) : FnOk P w K mg base CX0 3 f fd ["row", "group", "held", "frame"] (spF nm K mg 4 f_held_behind) :=
  fn_ok F sc_held_behind fun cdv A outer s H E hr =>
    have nds : (["row", "group", "held", "frame", "is_same", "some", "boxes", "box", "one", "name"] : List Str).Nodup := sc_held_behind.nd
    have nd := nd_held_behind
    pxss_cons (pxs_set nds rfl (.inl rfl) (wd_call C_is_handed (alen_cons (alen_cons (alen_cons (alen_cons (alen_nil))))) (hr.mono (by decide)) rfl (pxa_cons (wv nd rfl (.inr (.inl rfl))) (pxa_cons (wv nd rfl (.inl rfl)) (pxa_cons (wv nd rfl (.inl rfl)) (pxa_cons (wv nd rfl (.inl rfl)) (pxa_nil) rfl) rfl) rfl) rfl) dbg_is_handed rfl rfl) rfl (.inr rfl))
    (pxss_cons (pxs_set nds rfl (.inl rfl) (wd_call C_moved (alen_cons (alen_cons (alen_cons (alen_nil)))) (hr.mono (by decide)) rfl (pxa_cons (wv nd rfl (.inl rfl)) (pxa_cons (px_ix (wv nd rfl (.inl rfl)) (px_int) (fun _ _ => rfl)) (pxa_cons (wv nd rfl (.inl rfl)) (pxa_nil) rfl) rfl) rfl) dbg_moved rfl rfl) rfl (.inr rfl))
    (pxss_cons (pxs_set nds rfl (.inl rfl) (px_ix (wv nd rfl (.inl rfl)) (px_int) (fun _ _ => rfl)) rfl (.inr rfl))
    (pxss_cons (pxs_if (pxt_cmp (op_eqA (hu64 hr)) op2_eq (px_ix (wv nd rfl (.inr (.inl rfl))) (px_int) (fun _ _ => rfl)) (wd_globS T.m_COPY rfl dbg_COPY) rfl) (pxss_cons (pxs_setLc rfl nds rfl rfl rfl (own := [("one", 8)]) (pxi_seq (wv nd rfl (.inl rfl))) (blkOk_by (by kernel_rfl)) (by decide) (gok_name 8) (fun _ _ _ _ _ => pg_name nds rfl (.inl rfl) (.inr rfl)) (fun _ _ _ _ _ => pxts_nil) (fun _ _ _ _ _ => wd_call C_renamed (alen_cons (alen_cons (alen_cons (alen_nil)))) (hr.mono (by decide)) rfl (pxa_cons (wv nd rfl (.inl rfl)) (pxa_cons (px_ix (wv nd rfl (.inr (.inl rfl))) (px_int) (fun _ _ => rfl)) (pxa_cons (px_ix (wv nd rfl (.inr (.inl rfl))) (px_int) (fun _ _ => rfl)) (pxa_nil) rfl) rfl) rfl) dbg_renamed rfl rfl) (fun _ => rfl))
    (pxss_one (pxs_sub (wv nd rfl (.inl rfl)) (px_ix (wv nd rfl (.inl rfl)) (px_int) (fun _ _ => rfl)) (px_ix (wv nd rfl (.inl rfl)) (px_ix (wv nd rfl (.inl rfl)) (px_int) (fun _ _ => rfl)) (fun _ _ => rfl)) (fun _ => rfl) rfl rfl rfl))) (pxss_one (pxs_if (pxt_val (wd_call C_makes (alen_cons (alen_nil)) (hr.mono (by decide)) rfl (pxa_cons (wv nd rfl (.inr (.inl rfl))) (pxa_nil) rfl) dbg_makes rfl rfl) (fun _ => rfl)) (pxss_cons (pxs_setLc rfl nds rfl rfl rfl (own := [("one", 8)]) (pxi_seq (wv nd rfl (.inl rfl))) (blkOk_by (by kernel_rfl)) (by decide) (gok_name 8) (fun _ _ _ _ _ => pg_name nds rfl (.inl rfl) (.inr rfl)) (fun _ _ _ _ _ => pxts_nil) (fun _ _ _ _ _ => wd_tuple rfl T.m_tuple (pxa_cons (px_lc rfl nds (own := [("name", 9)]) (pxi_seq (wv nd rfl (.inl rfl))) (blkOk_by (by kernel_rfl)) (by decide) (gok_name 9) (fun _ _ _ _ _ => pg_name nds rfl (.inl rfl) (.inr rfl)) (fun _ _ _ _ _ => pxts_one (pxt_cmp (op_neA (hu64 hr)) op2_ne (wv nd rfl (.inl rfl)) (px_ix (wv nd rfl (.inr (.inl rfl))) (px_int) (fun _ _ => rfl)) rfl)) (fun _ _ _ _ _ => wv nd rfl (.inl rfl)) (fun _ => rfl)) (pxa_nil) rfl) rfl rfl) (fun _ => rfl))
    (pxss_cons (pxs_for PassesOwn.never rfl (pxi_seq (px_if (pxt_cmp (op_eqA (hu64 hr)) op2_eq (px_ix (wv nd rfl (.inr (.inl rfl))) (px_int) (fun _ _ => rfl)) (wd_globS T.m_CALL rfl dbg_CALL) rfl) (px_ix (wv nd rfl (.inl rfl)) (px_int) (fun _ _ => rfl)) (px_tup (pxa_nil) (by decide) (len_nil)))) (pg_name nds rfl (.inl rfl) (.inr rfl)) (gok_name 7) (pxss_one (pxs_sub (wv nd rfl (.inl rfl)) (wv nd rfl (.inl rfl)) (px_tup (pxa_nil) (by decide) (len_nil)) (fun _ => rfl) rfl rfl rfl)) (fun _ => rfl))
    (pxss_one (pxs_sub (wv nd rfl (.inl rfl)) (px_ix (wv nd rfl (.inl rfl)) (px_int) (fun _ _ => rfl)) (px_if (pxt_val (wv nd rfl (.inl rfl)) (fun _ => rfl)) (px_tup (pxa_cons (px_ix (wv nd rfl (.inr (.inl rfl))) (px_int) (fun _ _ => rfl)) (pxa_nil) rfl) (by decide) (len_cons (len_nil))) (px_tup (pxa_nil) (by decide) (len_nil))) (fun _ => rfl) rfl rfl rfl)))) (pxss_nil))))
    (pxss_one (pxs_ret (wd_tuple rfl T.m_tuple (pxa_cons (wd_call C_moved (alen_cons (alen_cons (alen_cons (alen_nil)))) (hr.mono (by decide)) rfl (pxa_cons (wv nd rfl (.inl rfl)) (pxa_cons (px_ix (wv nd rfl (.inl rfl)) (px_int) (fun _ _ => rfl)) (pxa_cons (wv nd rfl (.inl rfl)) (pxa_nil) rfl) rfl) rfl) dbg_moved rfl rfl) (pxa_nil) rfl) rfl rfl))))))
abbrev s_behind_row : Stmt := (top 63)
theorem sc_behind_row : FnScope ["program", "number", "later", "row"] ["program", "number", "later"] (defScope s_behind_row) := ⟨rfl, rfl, rfl, by decide +kernel, rfl, by decide +kernel, by decide +kernel⟩
theorem nd_behind_row : (["program", "number", "later", "row"] : List Str).all ndbg = true := by decide +kernel
theorem d_behind_row (T : Txt w K mg C_Run C_Junk) {f : Addr} {fd : FuncData} (F : Fun K "behind_row" "behind_row" s_behind_row f fd) : FnOk P w K mg base CX0 1 f fd ["program", "number", "later"] (spF nm K mg 3 f_behind_row) :=
  fn_ok F sc_behind_row fun cdv A outer s H E hr =>
    have nds : (["program", "number", "later", "row"] : List Str).Nodup := sc_behind_row.nd
    have nd := nd_behind_row
    pxss_cons (pxs_set nds rfl (.inl rfl) (px_ix (px_ix (wv nd rfl (.inl rfl)) (px_int) (fun _ _ => rfl)) (wv nd rfl (.inl rfl)) (fun _ _ => rfl)) rfl (.inr rfl))
    (pxss_cons (pxs_if (pxt_cmp (op_eqA (hu64 hr)) op2_eq (px_ix (wv nd rfl (.inl rfl)) (px_int) (fun _ _ => rfl)) (wd_globS T.m_IF rfl dbg_IF) rfl) (pxss_one (pxs_ret (px_lst (pxa_cons (px_tup (pxa_cons (px_op op_addA op2_add (wv nd rfl (.inl rfl)) (px_int)) (pxa_cons (px_op op_addA op2_add (wv nd rfl (.inl rfl)) (px_lst (pxa_cons (px_bl) (pxa_nil) rfl) (by decide) (len_cons (len_nil)))) (pxa_nil) rfl) rfl) (by decide) (len_cons (len_cons (len_nil)))) (pxa_cons (px_tup (pxa_cons (px_ix (wv nd rfl (.inl rfl)) (px_int) (fun _ _ => rfl)) (pxa_cons (px_op op_addA op2_add (wv nd rfl (.inl rfl)) (px_lst (pxa_cons (px_bl) (pxa_nil) rfl) (by decide) (len_cons (len_nil)))) (pxa_nil) rfl) rfl) (by decide) (len_cons (len_cons (len_nil)))) (pxa_nil) rfl) rfl) (by decide) (len_cons (len_cons (len_nil)))))) (pxss_nil))
    (pxss_one (pxs_ret (px_lst (pxa_cons (px_tup (pxa_cons (px_if (pxt_cmp (op_eqA (hu64 hr)) op2_eq (px_ix (wv nd rfl (.inl rfl)) (px_int) (fun _ _ => rfl)) (wd_globS T.m_GO rfl dbg_GO) rfl) (px_ix (wv nd rfl (.inl rfl)) (px_int) (fun _ _ => rfl)) (px_op op_addA op2_add (wv nd rfl (.inl rfl)) (px_int))) (pxa_cons (wv nd rfl (.inl rfl)) (pxa_nil) rfl) rfl) (by decide) (len_cons (len_cons (len_nil)))) (pxa_nil) rfl) (by decide) (len_cons (len_nil))))))
abbrev s_checked_by : Stmt := (top 64)
theorem sc_checked_by : FnScope ["program", "frame", "choice", "first", "level", "met", "more", "number", "held", "ways", "row", "group", "behind", "later", "longer"] ["program", "frame", "choice"] (defScope s_checked_by) := ⟨rfl, rfl, rfl, by decide +kernel, rfl, by decide +kernel, by decide +kernel⟩
theorem nd_checked_by : (["program", "frame", "choice", "first", "level", "met", "more", "number", "held", "ways", "row", "group", "behind", "later", "longer"] : List Str).all ndbg = true := by decide +kernel
theorem d_checked_by (T : Txt w K mg C_Run C_Junk) (C_first_held : Cal nm P w K mg base 2 "first_held" ["program", "frame", "choice"] f_first_held) (C_is_handed : Cal nm P w K mg base 2 "is_handed" ["row", "group", "held", "frame"] f_is_handed) (C_held_behind : Cal nm P w K mg base 3 "held_behind" ["row", "group", "held", "frame"] f_held_behind) (C_behind_row : Cal nm P w K mg base 1 "behind_row" ["program", "number", "later"] f_behind_row) {f : Addr} {fd : FuncData} (F : Fun K "checked_by" "checked_by" s_checked_by f fd) : FnOk P w K mg base CX0 4 f fd ["program", "frame", "choice"] (spF nm K mg 3 f_checked_by) :=
  fn_ok F sc_checked_by fun cdv A outer s H E hr =>
    have nds : (["program", "frame", "choice", "first", "level", "met", "more", "number", "held", "ways", "row", "group", "behind", "later", "longer"] : List Str).Nodup := sc_checked_by.nd
    have nd := nd_checked_by
    pxss_cons (pxs_set nds rfl (.inl rfl) (wd_call C_first_held (alen_cons (alen_cons (alen_cons (alen_nil)))) (hr.mono (by decide)) rfl (pxa_cons (wv nd rfl (.inl rfl)) (pxa_cons (wv nd rfl (.inl rfl)) (pxa_cons (wv nd rfl (.inl rfl)) (pxa_nil) rfl) rfl) rfl) dbg_first_held rfl rfl) rfl (.inr rfl))
    (pxss_cons (pxs_set nds rfl (.inl rfl) (px_lst (pxa_cons (px_tup (pxa_cons (px_int) (pxa_cons (wv nd rfl (.inl rfl)) (pxa_cons (px_lst (pxa_nil) (by decide) (len_nil)) (pxa_nil) rfl) rfl) rfl) (by decide) (len_cons (len_cons (len_cons (len_nil))))) (pxa_nil) rfl) (by decide) (len_cons (len_nil))) rfl (.inr rfl))
    (pxss_cons (pxs_set nds rfl (.inl rfl) (px_tone (hu64 hr) (px_tup (pxa_cons (px_int) (pxa_cons (wv nd rfl (.inl rfl)) (pxa_nil) rfl) rfl) (by decide) (len_cons (len_cons (len_nil)))) (px_bl)) rfl (.inr rfl))
    (pxss_cons (pxs_while PassesOwn.never (pxt_cmp (op_neA (hu64 hr)) op2_ne (wv nd rfl (.inl rfl)) (px_lst (pxa_nil) (by decide) (len_nil)) rfl) (pxss_cons (pxs_set nds rfl (.inl rfl) (px_lst (pxa_nil) (by decide) (len_nil)) rfl (.inr rfl))
    (pxss_cons (pxs_for PassesOwn.never rfl (pxi_seq (wv nd rfl (.inl rfl))) (pg_tup rfl (pgs_cons (pg_name nds rfl (.inl rfl) (.inr rfl)) (pgs_cons (pg_name nds rfl (.inl rfl) (.inr rfl)) (pgs_cons (pg_name nds rfl (.inl rfl) (.inr rfl)) (pgs_nil) rfl) rfl) rfl) rfl rfl) (gok_tup (is := [7, 8, 9])) (pxss_cons (pxs_par2 rfl nds rfl rfl  (by decide)  rfl rfl  (pxa_cons (px_ix (px_ix (wv nd rfl (.inl rfl)) (px_int) (fun _ _ => rfl)) (wv nd rfl (.inl rfl)) (fun _ _ => rfl)) (pxa_cons (px_ix (px_ix (wv nd rfl (.inl rfl)) (px_int) (fun _ _ => rfl)) (wv nd rfl (.inl rfl)) (fun _ _ => rfl)) (pxa_nil) rfl) rfl) rfl rfl)
    (pxss_cons (pxs_if (pxt_w (pxw_and (pxt_cmp (op_inA (hu65 hr)) op2_in (px_ix (wv nd rfl (.inl rfl)) (px_int) (fun _ _ => rfl)) (px_tup (pxa_cons (wd_globS T.m_SAY rfl dbg_SAY) (pxa_cons (wd_globS T.m_IF rfl dbg_IF) (pxa_nil) rfl) rfl) (by decide) (len_cons (len_cons (len_nil)))) rfl) (pxw_and1 (pxt_not (pxt_val (wd_call C_is_handed (alen_cons (alen_cons (alen_cons (alen_cons (alen_nil))))) (hr.mono (by decide)) rfl (pxa_cons (wv nd rfl (.inl rfl)) (pxa_cons (wv nd rfl (.inl rfl)) (pxa_cons (wv nd rfl (.inl rfl)) (pxa_cons (wv nd rfl (.inl rfl)) (pxa_nil) rfl) rfl) rfl) rfl) dbg_is_handed rfl rfl) (fun _ => rfl)))))) (pxss_one (pxs_ret (px_tup (pxa_cons (wv nd rfl (.inl rfl)) (pxa_cons (wv nd rfl (.inl rfl)) (pxa_nil) rfl) rfl) (by decide) (len_cons (len_cons (len_nil)))))) (pxss_nil))
    (pxss_cons (pxs_set nds rfl (.inl rfl) (wd_call C_held_behind (alen_cons (alen_cons (alen_cons (alen_cons (alen_nil))))) (hr.mono (by decide)) rfl (pxa_cons (wv nd rfl (.inl rfl)) (pxa_cons (wv nd rfl (.inl rfl)) (pxa_cons (wv nd rfl (.inl rfl)) (pxa_cons (wv nd rfl (.inl rfl)) (pxa_nil) rfl) rfl) rfl) rfl) dbg_held_behind rfl rfl) rfl (.inr rfl))
    (pxss_one (pxs_for PassesOwn.never rfl (pxi_seq (px_if (pxt_cmp (op_neA (hu64 hr)) op2_ne (px_ix (wv nd rfl (.inl rfl)) (px_int) (fun _ _ => rfl)) (wd_globS T.m_END rfl dbg_END) rfl) (wd_call C_behind_row (alen_cons (alen_cons (alen_cons (alen_nil)))) (hr.mono (by decide)) rfl (pxa_cons (wv nd rfl (.inl rfl)) (pxa_cons (wv nd rfl (.inl rfl)) (pxa_cons (wv nd rfl (.inl rfl)) (pxa_nil) rfl) rfl) rfl) dbg_behind_row rfl rfl) (px_lst (pxa_nil) (by decide) (len_nil)))) (pg_tup rfl (pgs_cons (pg_name nds rfl (.inl rfl) (.inr rfl)) (pgs_cons (pg_name nds rfl (.inl rfl) (.inr rfl)) (pgs_nil) rfl) rfl) rfl rfl) (gok_tup (is := [13, 14])) (pxss_one (pxs_if (pxt_w (pxw_and (pxt_cmp op_lt op2_cmp (wv nd rfl (.inl rfl)) (wd_len rfl T.m_len (pxa_cons (px_ix (wv nd rfl (.inl rfl)) (px_int) (fun _ _ => rfl)) (pxa_nil) rfl) rfl rfl) rfl) (pxw_and1 (pxt_tnot (hu64 hr) (px_tup (pxa_cons (wv nd rfl (.inl rfl)) (pxa_cons (wv nd rfl (.inl rfl)) (pxa_nil) rfl) rfl) (by decide) (len_cons (len_cons (len_nil)))) (wv nd rfl (.inl rfl)) rfl)))) (pxss_cons (pxs_tput (hu64 hr) (wv nd rfl (.inl rfl)) (px_tup (pxa_cons (wv nd rfl (.inl rfl)) (pxa_cons (wv nd rfl (.inl rfl)) (pxa_nil) rfl) rfl) (by decide) (len_cons (len_cons (len_nil)))) (px_bl) rfl)
    (pxss_one (pxs_expr (wd_append (wv nd rfl (.inl rfl)) (px_tup (pxa_cons (wv nd rfl (.inl rfl)) (pxa_cons (wv nd rfl (.inl rfl)) (pxa_cons (wv nd rfl (.inl rfl)) (pxa_nil) rfl) rfl) rfl) (by decide) (len_cons (len_cons (len_cons (len_nil))))) rfl rfl rfl rfl rfl) rfl))) (pxss_nil))) (fun _ => rfl)))))) (fun _ => rfl))
    (pxss_one (pxs_set nds rfl (.inl rfl) (wv nd rfl (.inl rfl)) rfl (.inr rfl))))))
    (pxss_one (pxs_ret (px_non))))))
abbrev s_checked : Stmt := (top 65)
theorem sc_checked : FnScope ["program", "frame", "choice"] ["program", "frame", "choice"] (defScope s_checked) := ⟨rfl, rfl, rfl, by decide +kernel, rfl, by decide +kernel, by decide +kernel⟩
theorem nd_checked : (["program", "frame", "choice"] : List Str).all ndbg = true := by decide +kernel
theorem d_checked (T : Txt w K mg C_Run C_Junk) (C_need_program : Cal nm P w K mg base 3 "need_program" ["program"] f_need_program) (C_need_frame : Cal nm P w K mg base 2 "need_frame" ["frame"] f_need_frame) (C_need_choice : Cal nm P w K mg base 5 "need_choice" ["program", "frame", "choice"] f_need_choice) (C_checked_by : Cal nm P w K mg base 4 "checked_by" ["program", "frame", "choice"] f_checked_by) {f : Addr} {fd : FuncData} (F : Fun K "checked" "checked" s_checked f fd) : FnOk P w K mg base CX0 6 f fd ["program", "frame", "choice"] (spF nm K mg 3 f_checked) :=
  fn_ok F sc_checked fun cdv A outer s H E hr =>
    have nds : (["program", "frame", "choice"] : List Str).Nodup := sc_checked.nd
    have nd := nd_checked
    pxss_cons (pxs_expr (wd_call C_need_program (alen_cons (alen_nil)) (hr.mono (by decide)) rfl (pxa_cons (wv nd rfl (.inl rfl)) (pxa_nil) rfl) dbg_need_program rfl rfl) rfl)
    (pxss_cons (pxs_expr (wd_call C_need_frame (alen_cons (alen_nil)) (hr.mono (by decide)) rfl (pxa_cons (wv nd rfl (.inl rfl)) (pxa_nil) rfl) dbg_need_frame rfl rfl) rfl)
    (pxss_cons (pxs_expr (wd_call C_need_choice (alen_cons (alen_cons (alen_cons (alen_nil)))) (hr.mono (by decide)) rfl (pxa_cons (wv nd rfl (.inl rfl)) (pxa_cons (wv nd rfl (.inl rfl)) (pxa_cons (wv nd rfl (.inl rfl)) (pxa_nil) rfl) rfl) rfl) dbg_need_choice rfl rfl) rfl)
    (pxss_one (pxs_ret (wd_call C_checked_by (alen_cons (alen_cons (alen_cons (alen_nil)))) (hr.mono (by decide)) rfl (pxa_cons (wv nd rfl (.inl rfl)) (pxa_cons (wv nd rfl (.inl rfl)) (pxa_cons (wv nd rfl (.inl rfl)) (pxa_nil) rfl) rfl) rfl) dbg_checked_by rfl rfl)))))
abbrev s_need_given : Stmt := (top 45)
theorem sc_need_given : FnScope ["program", "given", "number"] ["program", "given"] (defScope s_need_given) := ⟨rfl, rfl, rfl, by decide +kernel, rfl, by decide +kernel, by decide +kernel⟩
theorem nd_need_given : (["program", "given", "number"] : List Str).all ndbg = true := by decide +kernel
theorem d_need_given (T : Txt w K mg C_Run C_Junk) (C_is_number : Cal nm P w K mg base 1 "is_number" ["part", "low", "high"] f_is_number) {f : Addr} {fd : FuncData} (F : Fun K "need_given" "need_given" s_need_given f fd) : FnOk P w K mg base CX0 2 f fd ["program", "given"] (spF nm K mg 2 f_need_given) :=
  fn_ok F sc_need_given fun cdv A outer s H E hr =>
    have nds : (["program", "given", "number"] : List Str).Nodup := sc_need_given.nd
    have nd := nd_need_given
    pxss_cons (pxs_if (pxt_w (pxw_or (pxt_not (pxt_val (px_isi .tup rfl (wv nd rfl (.inl rfl)) rfl T.m_isinstance rfl T.m_tuple rfl rfl rfl) (fun _ => rfl))) (pxw_or1 (pxt_cmp (op_neA (hu64 hr)) op2_ne (wd_len rfl T.m_len (pxa_cons (wv nd rfl (.inl rfl)) (pxa_nil) rfl) rfl rfl) (px_ix (wv nd rfl (.inl rfl)) (px_int) (fun _ _ => rfl)) rfl)))) (pxss_one (pxs_raise0)) (pxss_nil))
    (pxss_one (pxs_if (pxt_cmp (op_neA (hu64 hr)) op2_ne (px_lc rfl nds (own := [("number", 2)]) (pxi_seq (wv nd rfl (.inl rfl))) (blkOk_by (by kernel_rfl)) (by decide) (gok_name 2) (fun _ _ _ _ _ => pg_name nds rfl (.inl rfl) (.inr rfl)) (fun _ _ _ _ _ => pxts_one (pxt_not (pxt_val (wd_call C_is_number (alen_cons (alen_cons (alen_cons (alen_nil)))) (hr.mono (by decide)) rfl (pxa_cons (wv nd rfl (.inl rfl)) (pxa_cons (px_int) (pxa_cons (px_op op_sub op2_sub (wd_globI T.m_RING rfl dbg_RING) (px_int)) (pxa_nil) rfl) rfl) rfl) dbg_is_number rfl rfl) (fun _ => rfl)))) (fun _ _ _ _ _ => wv nd rfl (.inl rfl)) (fun _ => rfl)) (px_lst (pxa_nil) (by decide) (len_nil)) rfl) (pxss_one (pxs_raise0)) (pxss_nil)))
abbrev s_need_fuel : Stmt := (top 46)
theorem sc_need_fuel : FnScope ["fuel"] ["fuel"] (defScope s_need_fuel) := ⟨rfl, rfl, rfl, by decide +kernel, rfl, by decide +kernel, by decide +kernel⟩
theorem nd_need_fuel : (["fuel"] : List Str).all ndbg = true := by decide +kernel
theorem d_need_fuel (T : Txt w K mg C_Run C_Junk) (C_is_number : Cal nm P w K mg base 1 "is_number" ["part", "low", "high"] f_is_number) {f : Addr} {fd : FuncData} (F : Fun K "need_fuel" "need_fuel" s_need_fuel f fd) : FnOk P w K mg base CX0 2 f fd ["fuel"] (spF nm K mg 1 f_need_fuel) :=
  fn_ok F sc_need_fuel fun cdv A outer s H E hr =>
    have nds : (["fuel"] : List Str).Nodup := sc_need_fuel.nd
    have nd := nd_need_fuel
    pxss_one (pxs_if (pxt_not (pxt_val (wd_call C_is_number (alen_cons (alen_cons (alen_cons (alen_nil)))) (hr.mono (by decide)) rfl (pxa_cons (wv nd rfl (.inl rfl)) (pxa_cons (px_int) (pxa_cons (wd_globI T.m_MOST_FUEL rfl dbg_MOST_FUEL) (pxa_nil) rfl) rfl) rfl) dbg_is_number rfl rfl) (fun _ => rfl))) (pxss_one (pxs_raise0)) (pxss_nil))
abbrev s_Run___init__ : Stmt := (inClass (top 48) 0)
theorem sc_Run___init__ : FnScope ["self", "rows"] ["self", "rows"] (defScope s_Run___init__) := ⟨rfl, rfl, rfl, by decide +kernel, rfl, by decide +kernel, by decide +kernel⟩
theorem nd_Run___init__ : (["self", "rows"] : List Str).all ndbg = true := by decide +kernel
theorem d_Run___init__ (T : Txt w K mg C_Run C_Junk) {f : Addr} {fd : FuncData} (F : Fun K "__init__" "Run.__init__" s_Run___init__ f fd) : FnOk P w K mg base CX0 1 f fd ["self", "rows"] (spF nm K mg 2 f_Run___init__) :=
  fn_ok F sc_Run___init__ fun cdv A outer s H E hr =>
    have nds : (["self", "rows"] : List Str).Nodup := sc_Run___init__.nd
    have nd := nd_Run___init__
    pxss_cons (pxs_fld T.k_Run (by decide) rfl (wv nd rfl (.inl rfl)) (wv nd rfl (.inl rfl)) rfl)
    (pxss_cons (pxs_fld T.k_Run (by decide) rfl (wv nd rfl (.inl rfl)) (px_int) rfl)
    (pxss_cons (pxs_fld T.k_Run (by decide) rfl (wv nd rfl (.inl rfl)) (px_lst (pxa_nil) (by decide) (len_nil)) rfl)
    (pxss_one (pxs_fld T.k_Run (by decide) rfl (wv nd rfl (.inl rfl)) (px_int) rfl))))
abbrev s_Run_is_over : Stmt := (inClass (top 48) 1)
theorem sc_Run_is_over : FnScope ["self"] ["self"] (defScope s_Run_is_over) := ⟨rfl, rfl, rfl, by decide +kernel, rfl, by decide +kernel, by decide +kernel⟩
theorem nd_Run_is_over : (["self"] : List Str).all ndbg = true := by decide +kernel
theorem d_Run_is_over (T : Txt w K mg C_Run C_Junk) {f : Addr} {fd : FuncData} (F : Fun K "is_over" "Run.is_over" s_Run_is_over f fd) : FnOk P w K mg base CX0 1 f fd ["self"] (spF nm K mg 1 f_Run_is_over) :=
  fn_ok F sc_Run_is_over fun cdv A outer s H E hr =>
    have nds : (["self"] : List Str).Nodup := sc_Run_is_over.nd
    have nd := nd_Run_is_over
    pxss_one (pxs_ret (px_or (px_cmp op_ge op2_cmp (px_fld T.k_Run (by decide) rfl (wv nd rfl (.inl rfl)) rfl) (wd_len rfl T.m_len (pxa_cons (px_fld T.k_Run (by decide) rfl (wv nd rfl (.inl rfl)) rfl) (pxa_nil) rfl) rfl rfl) rfl) (px_one (px_cmp (op_eqA (hu64 hr)) op2_eq (px_ix (px_ix (px_fld T.k_Run (by decide) rfl (wv nd rfl (.inl rfl)) rfl) (px_fld T.k_Run (by decide) rfl (wv nd rfl (.inl rfl)) rfl) (fun _ _ => rfl)) (px_int) (fun _ _ => rfl)) (wd_globS T.m_END rfl dbg_END) rfl))))
abbrev s_called : Stmt := (top 25)
theorem sc_called : FnScope ["number"] ["number"] (defScope s_called) := ⟨rfl, rfl, rfl, by decide +kernel, rfl, by decide +kernel, by decide +kernel⟩
theorem nd_called : (["number"] : List Str).all ndbg = true := by decide +kernel
theorem d_called (T : Txt w K mg C_Run C_Junk) {f : Addr} {fd : FuncData} (F : Fun K "called" "called" s_called f fd) : FnOk P w K mg base CX0 1 f fd ["number"] (spF nm K mg 1 f_called) :=
  fn_ok F sc_called fun cdv A outer s H E hr =>
    have nds : (["number"] : List Str).Nodup := sc_called.nd
    have nd := nd_called
    pxss_one (pxs_ret (px_op op_mod op2_mod (px_op op_addA op2_add (px_op op_addA op2_add (px_op op_mulA op2_mul (px_op op_mulA op2_mul (wv nd rfl (.inl rfl)) (wv nd rfl (.inl rfl))) (px_int)) (wv nd rfl (.inl rfl))) (px_int)) (wd_globI T.m_RING rfl dbg_RING)))
abbrev s_reckoned : Stmt := (top 24)
theorem sc_reckoned : FnScope ["word", "one", "other"] ["word", "one", "other"] (defScope s_reckoned) := ⟨rfl, rfl, rfl, by decide +kernel, rfl, by decide +kernel, by decide +kernel⟩
theorem nd_reckoned : (["word", "one", "other"] : List Str).all ndbg = true := by decide +kernel
theorem d_reckoned (T : Txt w K mg C_Run C_Junk) {f : Addr} {fd : FuncData} (F : Fun K "reckoned" "reckoned" s_reckoned f fd) : FnOk P w K mg base CX0 1 f fd ["word", "one", "other"] (spF nm K mg 3 f_reckoned) :=
  fn_ok F sc_reckoned fun cdv A outer s H E hr =>
    have nds : (["word", "one", "other"] : List Str).Nodup := sc_reckoned.nd
    have nd := nd_reckoned
    pxss_cons (pxs_if (pxt_cmp (op_eqA (hu64 hr)) op2_eq (wv nd rfl (.inl rfl)) (px_str kz_less) rfl) (pxss_one (pxs_ret (wd_int rfl T.m_int (pxa_cons (px_cmp op_lt op2_cmp (wv nd rfl (.inl rfl)) (wv nd rfl (.inl rfl)) rfl) (pxa_nil) rfl) rfl rfl))) (pxss_nil))
    (pxss_one (pxs_ret (px_op op_mod op2_mod (px_if (pxt_cmp (op_eqA (hu64 hr)) op2_eq (wv nd rfl (.inl rfl)) (px_str kz_add) rfl) (px_op op_addA op2_add (wv nd rfl (.inl rfl)) (wv nd rfl (.inl rfl))) (px_op op_sub op2_sub (wv nd rfl (.inl rfl)) (wv nd rfl (.inl rfl)))) (wd_globI T.m_RING rfl dbg_RING))))
abbrev s_told_by : Stmt := (top 47)
theorem sc_told_by : FnScope ["row", "some"] ["row", "some"] (defScope s_told_by) := ⟨rfl, rfl, rfl, by decide +kernel, rfl, by decide +kernel, by decide +kernel⟩
theorem nd_told_by : (["row", "some"] : List Str).all ndbg = true := by decide +kernel
theorem d_told_by (T : Txt w K mg C_Run C_Junk) (C_called : Cal nm P w K mg base 1 "called" ["number"] f_called) (C_reckoned : Cal nm P w K mg base 1 "reckoned" ["word", "one", "other"] f_reckoned) {f : Addr} {fd : FuncData} (F : Fun K "told_by" "told_by" s_told_by f fd) : FnOk P w K mg base CX0 2 f fd ["row", "some"] (spF nm K mg 2 f_told_by) :=
  fn_ok F sc_told_by fun cdv A outer s H E hr =>
    have nds : (["row", "some"] : List Str).Nodup := sc_told_by.nd
    have nd := nd_told_by
    pxss_cons (pxs_if (pxt_cmp (op_eqA (hu64 hr)) op2_eq (px_ix (wv nd rfl (.inl rfl)) (px_int) (fun _ _ => rfl)) (wd_globS T.m_PUT rfl dbg_PUT) rfl) (pxss_one (pxs_ret (px_ix (wv nd rfl (.inl rfl)) (px_int) (fun _ _ => rfl)))) (pxss_nil))
    (pxss_cons (pxs_if (pxt_cmp (op_eqA (hu64 hr)) op2_eq (px_ix (wv nd rfl (.inl rfl)) (px_int) (fun _ _ => rfl)) (wd_globS T.m_CALL rfl dbg_CALL) rfl) (pxss_one (pxs_ret (wd_call C_called (alen_cons (alen_nil)) (hr.mono (by decide)) rfl (pxa_cons (px_ix (wv nd rfl (.inl rfl)) (px_int) (fun _ _ => rfl)) (pxa_nil) rfl) dbg_called rfl rfl))) (pxss_nil))
    (pxss_one (pxs_ret (px_if (pxt_cmp (op_eqA (hu64 hr)) op2_eq (px_ix (wv nd rfl (.inl rfl)) (px_int) (fun _ _ => rfl)) (wd_globS T.m_COPY rfl dbg_COPY) rfl) (px_ix (wv nd rfl (.inl rfl)) (px_int) (fun _ _ => rfl)) (wd_call C_reckoned (alen_cons (alen_cons (alen_cons (alen_nil)))) (hr.mono (by decide)) rfl (pxa_cons (px_ix (wv nd rfl (.inl rfl)) (px_int) (fun _ _ => rfl)) (pxa_cons (px_ix (wv nd rfl (.inl rfl)) (px_int) (fun _ _ => rfl)) (pxa_cons (px_ix (wv nd rfl (.inl rfl)) (px_int) (fun _ _ => rfl)) (pxa_nil) rfl) rfl) rfl) dbg_reckoned rfl rfl)))))
abbrev s_Run_go : Stmt := (inClass (top 48) 2)
theorem sc_Run_go : FnScope ["self", "some", "row"] ["self", "some"] (defScope s_Run_go) := ⟨rfl, rfl, rfl, by decide +kernel, rfl, by decide +kernel, by decide +kernel⟩
theorem nd_Run_go : (["self", "some", "row"] : List Str).all ndbg = true := by decide +kernel
theorem d_Run_go (T : Txt w K mg C_Run C_Junk) {f : Addr} {fd : FuncData} (F : Fun K "go" "Run.go" s_Run_go f fd) : FnOk P w K mg base CX0 1 f fd ["self", "some"] (spF nm K mg 2 f_Run_go) :=
  fn_ok F sc_Run_go fun cdv A outer s H E hr =>
    have nds : (["self", "some", "row"] : List Str).Nodup := sc_Run_go.nd
    have nd := nd_Run_go
    pxss_cons (pxs_set nds rfl (.inl rfl) (px_ix (px_fld T.k_Run (by decide) rfl (wv nd rfl (.inl rfl)) rfl) (px_fld T.k_Run (by decide) rfl (wv nd rfl (.inl rfl)) rfl) (fun _ _ => rfl)) rfl (.inr rfl))
    (pxss_cons (pxs_fld T.k_Run (by decide) rfl (wv nd rfl (.inl rfl)) (px_op op_addA op2_add (px_fld T.k_Run (by decide) rfl (wv nd rfl (.inl rfl)) rfl) (px_int)) rfl)
    (pxss_cons (pxs_fld T.k_Run (by decide) rfl (wv nd rfl (.inl rfl)) (px_op op_addA op2_add (px_fld T.k_Run (by decide) rfl (wv nd rfl (.inl rfl)) rfl) (px_int)) rfl)
    (pxss_cons (pxs_if (pxt_cmp (op_eqA (hu64 hr)) op2_eq (px_ix (wv nd rfl (.inl rfl)) (px_int) (fun _ _ => rfl)) (wd_globS T.m_SAY rfl dbg_SAY) rfl) (pxss_one (pxs_expr (wd_append (px_fld T.k_Run (by decide) rfl (wv nd rfl (.inl rfl)) rfl) (px_ix (wv nd rfl (.inl rfl)) (px_int) (fun _ _ => rfl)) rfl rfl rfl rfl rfl) rfl)) (pxss_nil))
    (pxss_cons (pxs_if (pxt_cmp (op_eqA (hu64 hr)) op2_eq (px_ix (wv nd rfl (.inl rfl)) (px_int) (fun _ _ => rfl)) (wd_globS T.m_GO rfl dbg_GO) rfl) (pxss_one (pxs_fld T.k_Run (by decide) rfl (wv nd rfl (.inl rfl)) (px_ix (wv nd rfl (.inl rfl)) (px_int) (fun _ _ => rfl)) rfl)) (pxss_nil))
    (pxss_one (pxs_if (pxt_w (pxw_and (pxt_cmp (op_eqA (hu64 hr)) op2_eq (px_ix (wv nd rfl (.inl rfl)) (px_int) (fun _ _ => rfl)) (wd_globS T.m_IF rfl dbg_IF) rfl) (pxw_and1 (pxt_cmp (op_neA (hu64 hr)) op2_ne (px_ix (wv nd rfl (.inl rfl)) (px_int) (fun _ _ => rfl)) (px_int) rfl)))) (pxss_one (pxs_fld T.k_Run (by decide) rfl (wv nd rfl (.inl rfl)) (px_ix (wv nd rfl (.inl rfl)) (px_int) (fun _ _ => rfl)) rfl)) (pxss_nil)))))))
abbrev s_Run_told : Stmt := (inClass (top 48) 3)
theorem sc_Run_told : FnScope ["self"] ["self"] (defScope s_Run_told) := ⟨rfl, rfl, rfl, by decide +kernel, rfl, by decide +kernel, by decide +kernel⟩
theorem nd_Run_told : (["self"] : List Str).all ndbg = true := by decide +kernel
theorem d_Run_told (T : Txt w K mg C_Run C_Junk) (C_Run_is_over : CalM nm P w K mg base 1 C_Run "is_over" ["self"] f_Run_is_over) {f : Addr} {fd : FuncData} (F : Fun K "told" "Run.told" s_Run_told f fd) : FnOk P w K mg base CX0 2 f fd ["self"] (spF nm K mg 1 f_Run_told) :=
  fn_ok F sc_Run_told fun cdv A outer s H E hr =>
    have nds : (["self"] : List Str).Nodup := sc_Run_told.nd
    have nd := nd_Run_told
    pxss_one (pxs_ret (px_tup (pxa_cons (px_fld T.k_Run (by decide) rfl (wv nd rfl (.inl rfl)) rfl) (pxa_cons (px_if (pxt_val (wd_meth0 T.k_Run nm_is_over C_Run_is_over (hr.mono (by decide)) (wv nd rfl (.inl rfl)) rfl) (fun _ => rfl)) (wd_globT T.m_OVER rfl dbg_OVER) (wd_globT T.m_LONG rfl dbg_LONG)) (pxa_cons (px_fld T.k_Run (by decide) rfl (wv nd rfl (.inl rfl)) rfl) (pxa_nil) rfl) rfl) rfl) (by decide) (len_cons (len_cons (len_cons (len_nil))))))
abbrev s_run : Stmt := (top 50)
theorem sc_run : FnScope ["program", "given", "fuel", "held", "one", "row", "name"] ["program", "given", "fuel"] (defScope s_run) := ⟨rfl, rfl, rfl, by decide +kernel, rfl, by decide +kernel, by decide +kernel⟩
theorem nd_run : (["program", "given", "fuel", "held", "one", "row", "name"] : List Str).all ndbg = true := by decide +kernel
theorem d_run (T : Txt w K mg C_Run C_Junk) (C_need_program : Cal nm P w K mg base 3 "need_program" ["program"] f_need_program) (C_need_given : Cal nm P w K mg base 2 "need_given" ["program", "given"] f_need_given) (C_need_fuel : Cal nm P w K mg base 2 "need_fuel" ["fuel"] f_need_fuel) (C_Run___init__ : CalI nm P w K mg base 1 C_Run ["self", "rows"] f_Run___init__) (C_Run_is_over : CalM nm P w K mg base 1 C_Run "is_over" ["self"] f_Run_is_over) (C_makes : Cal nm P w K mg base 1 "makes" ["row"] f_makes) (C_told_by : Cal nm P w K mg base 2 "told_by" ["row", "some"] f_told_by) (C_Run_go : CalM nm P w K mg base 1 C_Run "go" ["self", "some"] f_Run_go) (C_Run_told : CalM nm P w K mg base 2 C_Run "told" ["self"] f_Run_told) {f : Addr} {fd : FuncData} (F : Fun K "run" "run" s_run f fd) : FnOk P w K mg base CX0 4 f fd ["program", "given", "fuel"] (spF nm K mg 3 f_run) :=
  fn_ok F sc_run fun cdv A outer s H E hr =>
    have nds : (["program", "given", "fuel", "held", "one", "row", "name"] : List Str).Nodup := sc_run.nd
    have nd := nd_run
    pxss_cons (pxs_expr (wd_call C_need_program (alen_cons (alen_nil)) (hr.mono (by decide)) rfl (pxa_cons (wv nd rfl (.inl rfl)) (pxa_nil) rfl) dbg_need_program rfl rfl) rfl)
    (pxss_cons (pxs_expr (wd_call C_need_given (alen_cons (alen_cons (alen_nil))) (hr.mono (by decide)) rfl (pxa_cons (wv nd rfl (.inl rfl)) (pxa_cons (wv nd rfl (.inl rfl)) (pxa_nil) rfl) rfl) dbg_need_given rfl rfl) rfl)
    (pxss_cons (pxs_expr (wd_call C_need_fuel (alen_cons (alen_nil)) (hr.mono (by decide)) rfl (pxa_cons (wv nd rfl (.inl rfl)) (pxa_nil) rfl) dbg_need_fuel rfl rfl) rfl)
    (pxss_cons (pxs_set nds rfl (.inr rfl) (px_op op_addA op2_add (wd_list rfl T.m_list (pxa_cons (wv nd rfl (.inl rfl)) (pxa_nil) rfl) rfl rfl) (px_op op_mulA op2_mul (px_lst (pxa_cons (px_int) (pxa_nil) rfl) (by decide) (len_cons (len_nil))) (px_op op_sub op2_sub (px_ix (wv nd rfl (.inl rfl)) (px_int) (fun _ _ => rfl)) (px_ix (wv nd rfl (.inl rfl)) (px_int) (fun _ _ => rfl))))) rfl (.inl rfl))
    (pxss_cons (pxs_set nds rfl (.inl rfl) (wd_make T.k_Run rfl C_Run___init__ (alen_cons (alen_nil)) (hr.mono (by decide)) rfl (pxa_cons (px_ix (wv nd rfl (.inl rfl)) (px_int) (fun _ _ => rfl)) (pxa_nil) rfl) dbg_Run rfl rfl) rfl (.inr rfl))
    (pxss_cons (pxs_while PassesOwn.never (pxt_w (pxw_and (pxt_not (pxt_val (wd_meth0 T.k_Run nm_is_over C_Run_is_over (hr.mono (by decide)) (wv nd rfl (.inl rfl)) rfl) (fun _ => rfl))) (pxw_and1 (pxt_cmp op_lt op2_cmp (px_fld T.k_Run (by decide) rfl (wv nd rfl (.inl rfl)) rfl) (wv nd rfl (.inl rfl)) rfl)))) (pxss_cons (pxs_set nds rfl (.inl rfl) (px_ix (px_fld T.k_Run (by decide) rfl (wv nd rfl (.inl rfl)) rfl) (px_fld T.k_Run (by decide) rfl (wv nd rfl (.inl rfl)) rfl) (fun _ _ => rfl)) rfl (.inr rfl))
    (pxss_cons (pxs_if (pxt_val (wd_call C_makes (alen_cons (alen_nil)) (hr.mono (by decide)) rfl (pxa_cons (wv nd rfl (.inl rfl)) (pxa_nil) rfl) dbg_makes rfl rfl) (fun _ => rfl)) (pxss_one (pxs_sub (wv nd rfl (.inr (.inl rfl))) (px_ix (wv nd rfl (.inl rfl)) (px_int) (fun _ _ => rfl)) (wd_call C_told_by (alen_cons (alen_cons (alen_nil))) (hr.mono (by decide)) rfl (pxa_cons (wv nd rfl (.inl rfl)) (pxa_cons (px_if (pxt_cmp (op_neA (hu64 hr)) op2_ne (px_ix (wv nd rfl (.inl rfl)) (px_int) (fun _ _ => rfl)) (wd_globS T.m_PUT rfl dbg_PUT) rfl) (px_lc rfl nds (own := [("name", 6)]) (pxi_seq (px_slice (wv nd rfl (.inl rfl)) (pxo_some (px_int)) (pxo_none))) (blkOk_by (by kernel_rfl)) (by decide) (gok_name 6) (fun _ _ _ _ _ => pg_name nds rfl (.inl rfl) (.inr rfl)) (fun _ _ _ _ _ => pxts_nil) (fun _ _ _ _ _ => px_ix (wv nd rfl (.inr (.inl rfl))) (wv nd rfl (.inl rfl)) (fun _ _ => rfl)) (fun _ => rfl)) (px_lst (pxa_nil) (by decide) (len_nil))) (pxa_nil) rfl) rfl) dbg_told_by rfl rfl) (fun _ => rfl) rfl rfl rfl)) (pxss_nil))
    (pxss_one (pxs_expr (wd_meth T.k_Run nm_go C_Run_go (alen_cons (alen_nil)) (hr.mono (by decide)) (wv nd rfl (.inl rfl)) (pxa_cons (px_if (pxt_cmp (op_inA (hu65 hr)) op2_in (px_ix (wv nd rfl (.inl rfl)) (px_int) (fun _ _ => rfl)) (px_tup (pxa_cons (wd_globS T.m_SAY rfl dbg_SAY) (pxa_cons (wd_globS T.m_IF rfl dbg_IF) (pxa_nil) rfl) rfl) (by decide) (len_cons (len_cons (len_nil)))) rfl) (px_lst (pxa_cons (px_ix (wv nd rfl (.inr (.inl rfl))) (px_ix (wv nd rfl (.inl rfl)) (px_int) (fun _ _ => rfl)) (fun _ _ => rfl)) (pxa_nil) rfl) (by decide) (len_cons (len_nil))) (px_lst (pxa_nil) (by decide) (len_nil))) (pxa_nil) rfl) rfl rfl rfl) rfl)))))
    (pxss_one (pxs_ret (wd_meth0 T.k_Run nm_told C_Run_told (hr.mono (by decide)) (wv nd rfl (.inl rfl)) rfl))))))))
abbrev s_Junk___init__ : Stmt := (inClass (top 51) 0)
theorem sc_Junk___init__ : FnScope ["self", "numbers"] ["self", "numbers"] (defScope s_Junk___init__) := ⟨rfl, rfl, rfl, by decide +kernel, rfl, by decide +kernel, by decide +kernel⟩
theorem nd_Junk___init__ : (["self", "numbers"] : List Str).all ndbg = true := by decide +kernel
theorem d_Junk___init__ (T : Txt w K mg C_Run C_Junk) {f : Addr} {fd : FuncData} (F : Fun K "__init__" "Junk.__init__" s_Junk___init__ f fd) : FnOk P w K mg base CX0 1 f fd ["self", "numbers"] (spF nm K mg 2 f_Junk___init__) :=
  fn_ok F sc_Junk___init__ fun cdv A outer s H E hr =>
    have nds : (["self", "numbers"] : List Str).Nodup := sc_Junk___init__.nd
    have nd := nd_Junk___init__
    pxss_cons (pxs_fld T.k_Junk (by decide) rfl (wv nd rfl (.inl rfl)) (wv nd rfl (.inl rfl)) rfl)
    (pxss_one (pxs_fld T.k_Junk (by decide) rfl (wv nd rfl (.inl rfl)) (px_int) rfl))
abbrev s_Junk_next_one : Stmt := (inClass (top 51) 1)
theorem sc_Junk_next_one : FnScope ["self"] ["self"] (defScope s_Junk_next_one) := ⟨rfl, rfl, rfl, by decide +kernel, rfl, by decide +kernel, by decide +kernel⟩
theorem nd_Junk_next_one : (["self"] : List Str).all ndbg = true := by decide +kernel
theorem d_Junk_next_one (T : Txt w K mg C_Run C_Junk) {f : Addr} {fd : FuncData} (F : Fun K "next_one" "Junk.next_one" s_Junk_next_one f fd) : FnOk P w K mg base CX0 1 f fd ["self"] (spF nm K mg 1 f_Junk_next_one) :=
  fn_ok F sc_Junk_next_one fun cdv A outer s H E hr =>
    have nds : (["self"] : List Str).Nodup := sc_Junk_next_one.nd
    have nd := nd_Junk_next_one
    pxss_cons (pxs_fld T.k_Junk (by decide) rfl (wv nd rfl (.inl rfl)) (px_op op_addA op2_add (px_fld T.k_Junk (by decide) rfl (wv nd rfl (.inl rfl)) rfl) (px_int)) rfl)
    (pxss_one (pxs_ret (px_if (pxt_cmp (op_neA (hu64 hr)) op2_ne (px_fld T.k_Junk (by decide) rfl (wv nd rfl (.inl rfl)) rfl) (px_lst (pxa_nil) (by decide) (len_nil)) rfl) (px_ix (px_fld T.k_Junk (by decide) rfl (wv nd rfl (.inl rfl)) rfl) (px_op op_mod op2_mod (px_op op_sub op2_sub (px_fld T.k_Junk (by decide) rfl (wv nd rfl (.inl rfl)) rfl) (px_int)) (wd_len rfl T.m_len (pxa_cons (px_fld T.k_Junk (by decide) rfl (wv nd rfl (.inl rfl)) rfl) (pxa_nil) rfl) rfl rfl)) (fun _ _ => rfl)) (px_int))))
abbrev s_run_boxes : Stmt := (top 52)
theorem sc_run_boxes : FnScope ["program", "frame", "choice", "given", "fuel", "junk", "odd", "held", "place", "number", "one", "row", "ahead", "boxes", "behind", "some", "box"] ["program", "frame", "choice", "given", "fuel", "junk"] (defScope s_run_boxes) := ⟨rfl, rfl, rfl, by decide +kernel, rfl, by decide +kernel, by decide +kernel⟩
theorem nd_run_boxes : (["program", "frame", "choice", "given", "fuel", "junk", "odd", "held", "place", "number", "one", "row", "ahead", "boxes", "behind", "some", "box"] : List Str).all ndbg = true := by decide +kernel
theorem d_run_boxes (T : Txt w K mg C_Run C_Junk) (C_need_program : Cal nm P w K mg base 3 "need_program" ["program"] f_need_program) (C_need_frame : Cal nm P w K mg base 2 "need_frame" ["frame"] f_need_frame) (C_need_choice : Cal nm P w K mg base 5 "need_choice" ["program", "frame", "choice"] f_need_choice) (C_need_given : Cal nm P w K mg base 2 "need_given" ["program", "given"] f_need_given) (C_need_fuel : Cal nm P w K mg base 2 "need_fuel" ["fuel"] f_need_fuel) (C_is_number : Cal nm P w K mg base 1 "is_number" ["part", "low", "high"] f_is_number) (C_Junk___init__ : CalI nm P w K mg base 1 C_Junk ["self", "numbers"] f_Junk___init__) (C_Junk_next_one : CalM nm P w K mg base 1 C_Junk "next_one" ["self"] f_Junk_next_one) (C_index_of : Cal nm P w K mg base 1 "index_of" ["place", "frame"] f_index_of) (C_Run___init__ : CalI nm P w K mg base 1 C_Run ["self", "rows"] f_Run___init__) (C_Run_is_over : CalM nm P w K mg base 1 C_Run "is_over" ["self"] f_Run_is_over) (C_moved : Cal nm P w K mg base 1 "moved" ["held", "moves", "frame"] f_moved) (C_makes : Cal nm P w K mg base 1 "makes" ["row"] f_makes) (C_told_by : Cal nm P w K mg base 2 "told_by" ["row", "some"] f_told_by) (C_Run_go : CalM nm P w K mg base 1 C_Run "go" ["self", "some"] f_Run_go) (C_Run_told : CalM nm P w K mg base 2 C_Run "told" ["self"] f_Run_told) {f : Addr} {fd : FuncData} (F : Fun K "run_boxes" "run_boxes" s_run_boxes f fd) : FnOk P w K mg base CX0 6 f fd ["program", "frame", "choice", "given", "fuel", "junk"] (spF nm K mg 6 f_run_boxes) :=
  fn_ok F sc_run_boxes fun cdv A outer s H E hr =>
    have nds : (["program", "frame", "choice", "given", "fuel", "junk", "odd", "held", "place", "number", "one", "row", "ahead", "boxes", "behind", "some", "box"] : List Str).Nodup := sc_run_boxes.nd
    have nd := nd_run_boxes
    pxss_cons (pxs_expr (wd_call C_need_program (alen_cons (alen_nil)) (hr.mono (by decide)) rfl (pxa_cons (wv nd rfl (.inl rfl)) (pxa_nil) rfl) dbg_need_program rfl rfl) rfl)
    (pxss_cons (pxs_expr (wd_call C_need_frame (alen_cons (alen_nil)) (hr.mono (by decide)) rfl (pxa_cons (wv nd rfl (.inl rfl)) (pxa_nil) rfl) dbg_need_frame rfl rfl) rfl)
    (pxss_cons (pxs_expr (wd_call C_need_choice (alen_cons (alen_cons (alen_cons (alen_nil)))) (hr.mono (by decide)) rfl (pxa_cons (wv nd rfl (.inl rfl)) (pxa_cons (wv nd rfl (.inl rfl)) (pxa_cons (wv nd rfl (.inl rfl)) (pxa_nil) rfl) rfl) rfl) dbg_need_choice rfl rfl) rfl)
    (pxss_cons (pxs_expr (wd_call C_need_given (alen_cons (alen_cons (alen_nil))) (hr.mono (by decide)) rfl (pxa_cons (wv nd rfl (.inl rfl)) (pxa_cons (wv nd rfl (.inl rfl)) (pxa_nil) rfl) rfl) dbg_need_given rfl rfl) rfl)
    (pxss_cons (pxs_expr (wd_call C_need_fuel (alen_cons (alen_nil)) (hr.mono (by decide)) rfl (pxa_cons (wv nd rfl (.inl rfl)) (pxa_nil) rfl) dbg_need_fuel rfl rfl) rfl)
    (pxss_cons (pxs_if (pxt_cmp (op_neA (hu64 hr)) op2_ne (px_lc rfl nds (own := [("number", 9)]) (pxi_seq (wv nd rfl (.inl rfl))) (blkOk_by (by kernel_rfl)) (by decide) (gok_name 9) (fun _ _ _ _ _ => pg_name nds rfl (.inl rfl) (.inr rfl)) (fun _ _ _ _ _ => pxts_one (pxt_not (pxt_val (wd_call C_is_number (alen_cons (alen_cons (alen_cons (alen_nil)))) (hr.mono (by decide)) rfl (pxa_cons (wv nd rfl (.inl rfl)) (pxa_cons (px_int) (pxa_cons (px_op op_sub op2_sub (wd_globI T.m_RING rfl dbg_RING) (px_int)) (pxa_nil) rfl) rfl) rfl) dbg_is_number rfl rfl) (fun _ => rfl)))) (fun _ _ _ _ _ => wv nd rfl (.inl rfl)) (fun _ => rfl)) (px_lst (pxa_nil) (by decide) (len_nil)) rfl) (pxss_one (pxs_raise0)) (pxss_nil))
    (pxss_cons (pxs_set nds rfl (.inr rfl) (wd_make T.k_Junk rfl C_Junk___init__ (alen_cons (alen_nil)) (hr.mono (by decide)) rfl (pxa_cons (wv nd rfl (.inl rfl)) (pxa_nil) rfl) dbg_Junk rfl rfl) rfl (.inl rfl))
    (pxss_cons (pxs_set nds rfl (.inr rfl) (px_lc rfl nds (own := [("place", 8)]) (pxi_range1 rfl T.m_range (px_op op_addA op2_add (px_ix (wv nd rfl (.inl rfl)) (px_int) (fun _ _ => rfl)) (px_ix (wv nd rfl (.inl rfl)) (px_int) (fun _ _ => rfl))) rfl) (blkOk_by (by kernel_rfl)) (by decide) (gok_name 8) (fun _ _ _ _ _ => pg_name nds rfl (.inl rfl) (.inr rfl)) (fun _ _ _ _ _ => pxts_nil) (fun _ _ _ _ _ => wd_meth0 T.k_Junk nm_next_one C_Junk_next_one (hr.mono (by decide)) (wv nd rfl (.inr (.inl rfl))) rfl) (fun _ => rfl)) rfl (.inl rfl))
    (pxss_cons (pxs_for PassesOwn.never rfl (pxi_zip rfl T.m_zip (px_ix (wv nd rfl (.inl rfl)) (px_int) (fun _ _ => rfl)) (wv nd rfl (.inl rfl)) rfl rfl rfl) (pg_tup rfl (pgs_cons (pg_name nds rfl (.inl rfl) (.inr rfl)) (pgs_cons (pg_name nds rfl (.inl rfl) (.inr rfl)) (pgs_nil) rfl) rfl) rfl rfl) (gok_tup (is := [8, 9])) (pxss_one (pxs_sub (wv nd rfl (.inr (.inl rfl))) (wd_call C_index_of (alen_cons (alen_cons (alen_nil))) (hr.mono (by decide)) rfl (pxa_cons (wv nd rfl (.inl rfl)) (pxa_cons (wv nd rfl (.inl rfl)) (pxa_nil) rfl) rfl) dbg_index_of rfl rfl) (wv nd rfl (.inl rfl)) (fun _ => rfl) rfl rfl rfl)) (fun _ => rfl))
    (pxss_cons (pxs_set nds rfl (.inl rfl) (wd_make T.k_Run rfl C_Run___init__ (alen_cons (alen_nil)) (hr.mono (by decide)) rfl (pxa_cons (px_ix (wv nd rfl (.inl rfl)) (px_int) (fun _ _ => rfl)) (pxa_nil) rfl) dbg_Run rfl rfl) rfl (.inr rfl))
    (pxss_cons (pxs_while PassesOwn.never (pxt_w (pxw_and (pxt_not (pxt_val (wd_meth0 T.k_Run nm_is_over C_Run_is_over (hr.mono (by decide)) (wv nd rfl (.inl rfl)) rfl) (fun _ => rfl))) (pxw_and1 (pxt_cmp op_lt op2_cmp (px_fld T.k_Run (by decide) rfl (wv nd rfl (.inl rfl)) rfl) (wv nd rfl (.inl rfl)) rfl)))) (pxss_cons (pxs_set nds rfl (.inl rfl) (px_ix (px_fld T.k_Run (by decide) rfl (wv nd rfl (.inl rfl)) rfl) (px_fld T.k_Run (by decide) rfl (wv nd rfl (.inl rfl)) rfl) (fun _ _ => rfl)) rfl (.inr rfl))
    (pxss_cons (pxs_asg (px_ix (px_ix (wv nd rfl (.inl rfl)) (px_int) (fun _ _ => rfl)) (px_fld T.k_Run (by decide) rfl (wv nd rfl (.inl rfl)) rfl) (fun _ _ => rfl)) (pg_tup rfl (pgs_cons (pg_name nds rfl (.inl rfl) (.inr rfl)) (pgs_cons (pg_name nds rfl (.inl rfl) (.inr rfl)) (pgs_cons (pg_name nds rfl (.inl rfl) (.inr rfl)) (pgs_nil) rfl) rfl) rfl) rfl rfl) (gok_tup (is := [12, 13, 14])) rfl rfl rfl)
    (pxss_cons (pxs_set nds rfl (.inr rfl) (wd_call C_moved (alen_cons (alen_cons (alen_cons (alen_nil)))) (hr.mono (by decide)) rfl (pxa_cons (wv nd rfl (.inr (.inl rfl))) (pxa_cons (wv nd rfl (.inl rfl)) (pxa_cons (wv nd rfl (.inl rfl)) (pxa_nil) rfl) rfl) rfl) dbg_moved rfl rfl) rfl (.inl rfl))
    (pxss_cons (pxs_setLc rfl nds rfl rfl rfl (own := [("box", 16)]) (pxi_seq (px_slice (wv nd rfl (.inl rfl)) (pxo_some (wd_int rfl T.m_int (pxa_cons (wd_call C_makes (alen_cons (alen_nil)) (hr.mono (by decide)) rfl (pxa_cons (wv nd rfl (.inl rfl)) (pxa_nil) rfl) dbg_makes rfl rfl) (pxa_nil) rfl) rfl rfl)) (pxo_none))) (blkOk_by (by kernel_rfl)) (by decide) (gok_name 16) (fun _ _ _ _ _ => pg_name nds rfl (.inl rfl) (.inr rfl)) (fun _ _ _ _ _ => pxts_nil) (fun _ _ _ _ _ => px_ix (wv nd rfl (.inr (.inl rfl))) (wv nd rfl (.inl rfl)) (fun _ _ => rfl)) (fun _ => rfl))
    (pxss_cons (pxs_if (pxt_cmp (op_eqA (hu64 hr)) op2_eq (px_ix (wv nd rfl (.inl rfl)) (px_int) (fun _ _ => rfl)) (wd_globS T.m_CALL rfl dbg_CALL) rfl) (pxss_one (pxs_for PassesOwn.never rfl (pxi_seq (px_ix (wv nd rfl (.inl rfl)) (px_int) (fun _ _ => rfl))) (pg_name nds rfl (.inl rfl) (.inr rfl)) (gok_name 16) (pxss_one (pxs_sub (wv nd rfl (.inr (.inl rfl))) (wv nd rfl (.inl rfl)) (wd_meth0 T.k_Junk nm_next_one C_Junk_next_one (hr.mono (by decide)) (wv nd rfl (.inr (.inl rfl))) rfl) (fun _ => rfl) rfl rfl rfl)) (fun _ => rfl))) (pxss_nil))
    (pxss_cons (pxs_if (pxt_val (wd_call C_makes (alen_cons (alen_nil)) (hr.mono (by decide)) rfl (pxa_cons (wv nd rfl (.inl rfl)) (pxa_nil) rfl) dbg_makes rfl rfl) (fun _ => rfl)) (pxss_one (pxs_sub (wv nd rfl (.inr (.inl rfl))) (px_ix (wv nd rfl (.inl rfl)) (px_int) (fun _ _ => rfl)) (wd_call C_told_by (alen_cons (alen_cons (alen_nil))) (hr.mono (by decide)) rfl (pxa_cons (wv nd rfl (.inl rfl)) (pxa_cons (wv nd rfl (.inl rfl)) (pxa_nil) rfl) rfl) dbg_told_by rfl rfl) (fun _ => rfl) rfl rfl rfl)) (pxss_nil))
    (pxss_cons (pxs_set nds rfl (.inr rfl) (wd_call C_moved (alen_cons (alen_cons (alen_cons (alen_nil)))) (hr.mono (by decide)) rfl (pxa_cons (wv nd rfl (.inr (.inl rfl))) (pxa_cons (wv nd rfl (.inl rfl)) (pxa_cons (wv nd rfl (.inl rfl)) (pxa_nil) rfl) rfl) rfl) dbg_moved rfl rfl) rfl (.inl rfl))
    (pxss_one (pxs_expr (wd_meth T.k_Run nm_go C_Run_go (alen_cons (alen_nil)) (hr.mono (by decide)) (wv nd rfl (.inl rfl)) (pxa_cons (wv nd rfl (.inl rfl)) (pxa_nil) rfl) rfl rfl rfl) rfl))))))))))
    (pxss_one (pxs_ret (wd_meth0 T.k_Run nm_told C_Run_told (hr.mono (by decide)) (wv nd rfl (.inl rfl)) rfl)))))))))))))
abbrev s_law : Stmt := (top 78)
theorem sc_law : FnScope ["_law_script", "_law_box", "_law_turn", "_law_program_here", "_law_boxes", "_law_frame_here", "_law_choice_here", "_law_places", "_law_given", "_law_junk", "_law_k", "_law_one"] ["_law_script"] (defScope s_law) := ⟨rfl, rfl, rfl, by decide +kernel, rfl, by decide +kernel, by decide +kernel⟩
theorem nd_law : (["_law_script", "_law_box", "_law_turn", "_law_program_here", "_law_boxes", "_law_frame_here", "_law_choice_here", "_law_places", "_law_given", "_law_junk", "_law_k", "_law_one"] : List Str).all ndbg = true := by decide +kernel
theorem d_law (T : Txt w K mg C_Run C_Junk) (C__law_begun : Cal nm P w K mg base 1 "_law_begun" ["_law_script"] f__law_begun) (C__law_program : Cal nm P w K mg base 3 "_law_program" ["_law_box", "_law_most"] f__law_program_v2) (C__law_take : Cal nm P w K mg base 1 "_law_take" ["_law_box", "_law_many"] f__law_take) (C__law_frame : Cal nm P w K mg base 2 "_law_frame" ["_law_box"] f__law_frame) (C_made : Cal nm P w K mg base 4 "made" ["program", "frame"] f_made) (C__law_alike : Cal nm P w K mg base 13 "_law_alike" ["_law_found", "_law_due"] (f__law_alike 12)) (C__law_groups : Cal nm P w K mg base 1 "_law_groups" ["_law_program_here"] f__law_groups) (C_checked : Cal nm P w K mg base 6 "checked" ["program", "frame", "choice"] f_checked) (C_run : Cal nm P w K mg base 4 "run" ["program", "given", "fuel"] f_run) (C_run_boxes : Cal nm P w K mg base 6 "run_boxes" ["program", "frame", "choice", "given", "fuel", "junk"] f_run_boxes) {f : Addr} {fd : FuncData} (F : Fun K "law" "law" s_law f fd) : FnOk P w K mg base CX0 14 f fd ["_law_script"] (spF nm K mg 1 f_law_v9) :=
  fn_ok F sc_law fun cdv A outer s H E hr =>
    have nds : (["_law_script", "_law_box", "_law_turn", "_law_program_here", "_law_boxes", "_law_frame_here", "_law_choice_here", "_law_places", "_law_given", "_law_junk", "_law_k", "_law_one"] : List Str).Nodup := sc_law.nd
    have nd := nd_law
    pxss_cons (pxs_set nds rfl (.inr rfl) (wd_call C__law_begun (alen_cons (alen_nil)) (hr.mono (by decide)) rfl (pxa_cons (wv nd rfl (.inl rfl)) (pxa_nil) rfl) dbg__law_begun rfl rfl) rfl (.inl rfl))
    (pxss_cons (pxs_for PassesOwn.never rfl (pxi_range1 rfl T.m_range (px_int) rfl) (pg_name nds rfl (.inl rfl) (.inr rfl)) (gok_name 2) (pxss_cons (pxs_set nds rfl (.inl rfl) (wd_call C__law_program (alen_cons (alen_cons (alen_nil))) (hr.mono (by decide)) rfl (pxa_cons (wv nd rfl (.inr (.inl rfl))) (pxa_cons (px_int) (pxa_nil) rfl) rfl) dbg__law_program rfl rfl) rfl (.inr rfl))
    (pxss_cons (pxs_set nds rfl (.inl rfl) (px_tup (pxa_cons (px_ix (wv nd rfl (.inl rfl)) (px_int) (fun _ _ => rfl)) (pxa_cons (px_ix (wv nd rfl (.inl rfl)) (px_int) (fun _ _ => rfl)) (pxa_cons (px_ix (wv nd rfl (.inl rfl)) (px_int) (fun _ _ => rfl)) (pxa_nil) rfl) rfl) rfl) (by decide) (len_cons (len_cons (len_cons (len_nil))))) rfl (.inr rfl))
    (pxss_cons (pxs_set nds rfl (.inr rfl) (px_op op_addA op2_add (px_int) (wd_call C__law_take (alen_cons (alen_cons (alen_nil))) (hr.mono (by decide)) rfl (pxa_cons (wv nd rfl (.inr (.inl rfl))) (pxa_cons (px_int) (pxa_nil) rfl) rfl) dbg__law_take rfl rfl)) rfl (.inl rfl))
    (pxss_cons (pxs_set nds rfl (.inl rfl) (px_tup (pxa_cons (wv nd rfl (.inr (.inl rfl))) (pxa_cons (px_op op_addA op2_add (px_ix (wv nd rfl (.inl rfl)) (px_int) (fun _ _ => rfl)) (wd_call C__law_take (alen_cons (alen_cons (alen_nil))) (hr.mono (by decide)) rfl (pxa_cons (wv nd rfl (.inr (.inl rfl))) (pxa_cons (px_op op_sub op2_sub (px_int) (px_ix (wv nd rfl (.inl rfl)) (px_int) (fun _ _ => rfl))) (pxa_nil) rfl) rfl) dbg__law_take rfl rfl)) (pxa_cons (px_ix (wd_call C__law_frame (alen_cons (alen_nil)) (hr.mono (by decide)) rfl (pxa_cons (wv nd rfl (.inr (.inl rfl))) (pxa_nil) rfl) dbg__law_frame rfl rfl) (px_int) (fun _ _ => rfl)) (pxa_nil) rfl) rfl) rfl) (by decide) (len_cons (len_cons (len_cons (len_nil))))) rfl (.inr rfl))
    (pxss_cons (pxs_set nds rfl (.inl rfl) (px_tup (pxa_cons (wv nd rfl (.inr (.inl rfl))) (pxa_cons (px_ix (wv nd rfl (.inl rfl)) (px_int) (fun _ _ => rfl)) (pxa_cons (wd_tuple rfl T.m_tuple (pxa_cons (px_lc rfl nds (own := [("_law_one", 11)]) (pxi_seq (px_ix (wv nd rfl (.inl rfl)) (px_int) (fun _ _ => rfl))) (blkOk_by (by kernel_rfl)) (by decide) (gok_name 11) (fun _ _ _ _ _ => pg_name nds rfl (.inl rfl) (.inr rfl)) (fun _ _ _ _ _ => pxts_one (pxt_cmp op_lt op2_cmp (wv nd rfl (.inl rfl)) (wv nd rfl (.inr (.inl rfl))) rfl)) (fun _ _ _ _ _ => wv nd rfl (.inl rfl)) (fun _ => rfl)) (pxa_nil) rfl) rfl rfl) (pxa_nil) rfl) rfl) rfl) (by decide) (len_cons (len_cons (len_cons (len_nil))))) rfl (.inr rfl))
    (pxss_cons (pxs_set nds rfl (.inl rfl) (wd_call C_made (alen_cons (alen_cons (alen_nil))) (hr.mono (by decide)) rfl (pxa_cons (wv nd rfl (.inl rfl)) (pxa_cons (wv nd rfl (.inl rfl)) (pxa_nil) rfl) rfl) dbg_made rfl rfl) rfl (.inr rfl))
    (pxss_cons (pxs_set nds rfl (.inl rfl) (wd_tuple rfl T.m_tuple (pxa_cons (px_lc rfl nds (own := [("_law_k", 10)]) (pxi_range1 rfl T.m_range (px_ix (wv nd rfl (.inl rfl)) (px_int) (fun _ _ => rfl)) rfl) (blkOk_by (by kernel_rfl)) (by decide) (gok_name 10) (fun _ _ _ _ _ => pg_name nds rfl (.inl rfl) (.inr rfl)) (fun _ _ _ _ _ => pxts_nil) (fun _ _ _ _ _ => px_tup (pxa_cons (px_str kz_slot) (pxa_cons (wv nd rfl (.inl rfl)) (pxa_nil) rfl) rfl) (by decide) (len_cons (len_cons (len_nil)))) (fun _ => rfl)) (pxa_nil) rfl) rfl rfl) rfl (.inr rfl))
    (pxss_cons (pxs_if (pxt_w (pxw_or (pxt_not (pxt_val (wd_call C__law_alike (alen_cons (alen_cons (alen_nil))) (hr.mono (by decide)) rfl (pxa_cons (wv nd rfl (.inl rfl)) (pxa_cons (px_tup (pxa_cons (wv nd rfl (.inl rfl)) (pxa_cons (wd_call C__law_groups (alen_cons (alen_nil)) (hr.mono (by decide)) rfl (pxa_cons (wv nd rfl (.inl rfl)) (pxa_nil) rfl) dbg__law_groups rfl rfl) (pxa_nil) rfl) rfl) (by decide) (len_cons (len_cons (len_nil)))) (pxa_nil) rfl) rfl) dbg__law_alike rfl rfl) (fun _ => rfl))) (pxw_or1 (pxt_notN (wd_call C_checked (alen_cons (alen_cons (alen_cons (alen_nil)))) (hr.mono (by decide)) rfl (pxa_cons (wv nd rfl (.inl rfl)) (pxa_cons (wv nd rfl (.inl rfl)) (pxa_cons (wv nd rfl (.inl rfl)) (pxa_nil) rfl) rfl) rfl) dbg_checked rfl rfl))))) (pxss_one (pxs_ret (px_bl))) (pxss_nil))
    (pxss_cons (pxs_set nds rfl (.inl rfl) (wd_tuple rfl T.m_tuple (pxa_cons (px_lc rfl nds (own := [("_law_k", 10)]) (pxi_range1 rfl T.m_range (px_ix (wv nd rfl (.inl rfl)) (px_int) (fun _ _ => rfl)) rfl) (blkOk_by (by kernel_rfl)) (by decide) (gok_name 10) (fun _ _ _ _ _ => pg_name nds rfl (.inl rfl) (.inr rfl)) (fun _ _ _ _ _ => pxts_nil) (fun _ _ _ _ _ => wd_call C__law_take (alen_cons (alen_cons (alen_nil))) (hr.mono (by decide)) rfl (pxa_cons (wv nd rfl (.inr (.inl rfl))) (pxa_cons (px_int) (pxa_nil) rfl) rfl) dbg__law_take rfl rfl) (fun _ => rfl)) (pxa_nil) rfl) rfl rfl) rfl (.inr rfl))
    (pxss_cons (pxs_setLc rfl nds rfl rfl rfl (own := [("_law_k", 10)]) (pxi_range1 rfl T.m_range (wd_call C__law_take (alen_cons (alen_cons (alen_nil))) (hr.mono (by decide)) rfl (pxa_cons (wv nd rfl (.inr (.inl rfl))) (pxa_cons (px_int) (pxa_nil) rfl) rfl) dbg__law_take rfl rfl) rfl) (blkOk_by (by kernel_rfl)) (by decide) (gok_name 10) (fun _ _ _ _ _ => pg_name nds rfl (.inl rfl) (.inr rfl)) (fun _ _ _ _ _ => pxts_nil) (fun _ _ _ _ _ => wd_call C__law_take (alen_cons (alen_cons (alen_nil))) (hr.mono (by decide)) rfl (pxa_cons (wv nd rfl (.inr (.inl rfl))) (pxa_cons (px_int) (pxa_nil) rfl) rfl) dbg__law_take rfl rfl) (fun _ => rfl))
    (pxss_one (pxs_if (pxt_not (pxt_val (wd_call C__law_alike (alen_cons (alen_cons (alen_nil))) (hr.mono (by decide)) rfl (pxa_cons (wd_call C_run_boxes (alen_cons (alen_cons (alen_cons (alen_cons (alen_cons (alen_cons (alen_nil))))))) (hr.mono (by decide)) rfl (pxa_cons (wv nd rfl (.inl rfl)) (pxa_cons (wv nd rfl (.inl rfl)) (pxa_cons (wv nd rfl (.inl rfl)) (pxa_cons (wv nd rfl (.inl rfl)) (pxa_cons (px_int) (pxa_cons (wv nd rfl (.inl rfl)) (pxa_nil) rfl) rfl) rfl) rfl) rfl) rfl) dbg_run_boxes rfl rfl) (pxa_cons (wd_call C_run (alen_cons (alen_cons (alen_cons (alen_nil)))) (hr.mono (by decide)) rfl (pxa_cons (wv nd rfl (.inl rfl)) (pxa_cons (wv nd rfl (.inl rfl)) (pxa_cons (px_int) (pxa_nil) rfl) rfl) rfl) dbg_run rfl rfl) (pxa_nil) rfl) rfl) dbg__law_alike rfl rfl) (fun _ => rfl))) (pxss_one (pxs_ret (px_bl))) (pxss_nil))))))))))))) (fun _ => rfl))
    (pxss_one (pxs_ret (px_bl))))
end
end Gk14
end
section
set_option linter.all false
set_option Elab.async false
set_option linter.all false
set_option maxRecDepth 100003
set_option maxHeartbeats 4000003
set_option autoImplicit false
namespace Gk14
open PySem L2 PF PG
theorem all_mk {l : PySem.W.OpenLaw} {w : World} {K : PySem.W.Frag} {h : Heap} {mg : Str → Option Value} {fa C_Run C_Junk t_at_LONG t_at_MOVES t_at_OVER t_at_SHAPES f___law_begun f___law_take f___law_row f___law_program f___law_frame f__is_number f__is_row f__need_program f__need_frame f__names_of f__makes f__group_of f__made f___law_alike f___law_groups f__is_place f__is_move f__are_moves f__is_group f__need_choice f__index_of f__first_held f__moved f__is_handed f__renamed f__held_behind f__behind_row f__checked_by f__checked f__need_given f__need_fuel f__Run___init__ f__Run_is_over f__called f__reckoned f__told_by f__Run_go f__Run_told f__run f__Junk___init__ f__Junk_next_one f__run_boxes f__law : Addr} (X : K.In h) (G : h.Ns mainGlobals mg) (hfa : mg "law" = some (.ref fa))
    {v_BOX : Tok}
    {v_CALL : Tok}
    {v_COPY : Tok}
    {v_END : Tok}
    {v_GO : Tok}
    {v_GOAL : Tok}
    {v_IF : Tok}
    {it_LONG : Array Value} {od_LONG : Option Addr} {m_LONG : Nat} {sl_LONG : Array (Option Value)}
    {v_MOST_BOXES : Tok}
    {v_MOST_FUEL : Tok}
    {v_MOST_MOVES : Tok}
    {v_MOST_NAMES : Tok}
    {v_MOST_ROWS : Tok}
    {v_MOST_SLOTS : Tok}
    {es_MOVES : Array DictEntry} {m_MOVES : Nat}
    {it_OVER : Array Value} {od_OVER : Option Addr} {m_OVER : Nat} {sl_OVER : Array (Option Value)}
    {v_PUT : Tok}
    {v_RING : Tok}
    {v_SAY : Tok}
    {es_SHAPES : Array DictEntry} {m_SHAPES : Nat}
    {v_SLOT : Tok}
    {oc__law_begun kV__law_begun dc__law_begun pm__law_begun cd__law_begun ct__law_begun : Value} {od__law_begun an__law_begun : Option Addr} {sl__law_begun : Array (Option Value)}
    {oc__law_take kV__law_take dc__law_take pm__law_take cd__law_take ct__law_take : Value} {od__law_take an__law_take : Option Addr} {sl__law_take : Array (Option Value)}
    {oc__law_row kV__law_row dc__law_row pm__law_row cd__law_row ct__law_row : Value} {od__law_row an__law_row : Option Addr} {sl__law_row : Array (Option Value)}
    {oc__law_program kV__law_program dc__law_program pm__law_program cd__law_program ct__law_program : Value} {od__law_program an__law_program : Option Addr} {sl__law_program : Array (Option Value)}
    {oc__law_frame kV__law_frame dc__law_frame pm__law_frame cd__law_frame ct__law_frame : Value} {od__law_frame an__law_frame : Option Addr} {sl__law_frame : Array (Option Value)}
    {oc_is_number kV_is_number dc_is_number pm_is_number cd_is_number ct_is_number : Value} {od_is_number an_is_number : Option Addr} {sl_is_number : Array (Option Value)}
    {oc_is_row kV_is_row dc_is_row pm_is_row cd_is_row ct_is_row : Value} {od_is_row an_is_row : Option Addr} {sl_is_row : Array (Option Value)}
    {oc_need_program kV_need_program dc_need_program pm_need_program cd_need_program ct_need_program : Value} {od_need_program an_need_program : Option Addr} {sl_need_program : Array (Option Value)}
    {oc_need_frame kV_need_frame dc_need_frame pm_need_frame cd_need_frame ct_need_frame : Value} {od_need_frame an_need_frame : Option Addr} {sl_need_frame : Array (Option Value)}
    {oc_names_of kV_names_of dc_names_of pm_names_of cd_names_of ct_names_of : Value} {od_names_of an_names_of : Option Addr} {sl_names_of : Array (Option Value)}
    {oc_makes kV_makes dc_makes pm_makes cd_makes ct_makes : Value} {od_makes an_makes : Option Addr} {sl_makes : Array (Option Value)}
    {oc_group_of kV_group_of dc_group_of pm_group_of cd_group_of ct_group_of : Value} {od_group_of an_group_of : Option Addr} {sl_group_of : Array (Option Value)}
    {oc_made kV_made dc_made pm_made cd_made ct_made : Value} {od_made an_made : Option Addr} {sl_made : Array (Option Value)}
    {oc__law_alike kV__law_alike dc__law_alike pm__law_alike cd__law_alike ct__law_alike : Value} {od__law_alike an__law_alike : Option Addr} {sl__law_alike : Array (Option Value)}
    {oc__law_groups kV__law_groups dc__law_groups pm__law_groups cd__law_groups ct__law_groups : Value} {od__law_groups an__law_groups : Option Addr} {sl__law_groups : Array (Option Value)}
    {oc_is_place kV_is_place dc_is_place pm_is_place cd_is_place ct_is_place : Value} {od_is_place an_is_place : Option Addr} {sl_is_place : Array (Option Value)}
    {oc_is_move kV_is_move dc_is_move pm_is_move cd_is_move ct_is_move : Value} {od_is_move an_is_move : Option Addr} {sl_is_move : Array (Option Value)}
    {oc_are_moves kV_are_moves dc_are_moves pm_are_moves cd_are_moves ct_are_moves : Value} {od_are_moves an_are_moves : Option Addr} {sl_are_moves : Array (Option Value)}
    {oc_is_group kV_is_group dc_is_group pm_is_group cd_is_group ct_is_group : Value} {od_is_group an_is_group : Option Addr} {sl_is_group : Array (Option Value)}
    {oc_need_choice kV_need_choice dc_need_choice pm_need_choice cd_need_choice ct_need_choice : Value} {od_need_choice an_need_choice : Option Addr} {sl_need_choice : Array (Option Value)}
    {oc_index_of kV_index_of dc_index_of pm_index_of cd_index_of ct_index_of : Value} {od_index_of an_index_of : Option Addr} {sl_index_of : Array (Option Value)}
    {oc_first_held kV_first_held dc_first_held pm_first_held cd_first_held ct_first_held : Value} {od_first_held an_first_held : Option Addr} {sl_first_held : Array (Option Value)}
    {oc_moved kV_moved dc_moved pm_moved cd_moved ct_moved : Value} {od_moved an_moved : Option Addr} {sl_moved : Array (Option Value)}
    {oc_is_handed kV_is_handed dc_is_handed pm_is_handed cd_is_handed ct_is_handed : Value} {od_is_handed an_is_handed : Option Addr} {sl_is_handed : Array (Option Value)}
    {oc_renamed kV_renamed dc_renamed pm_renamed cd_renamed ct_renamed : Value} {od_renamed an_renamed : Option Addr} {sl_renamed : Array (Option Value)}
    {oc_held_behind kV_held_behind dc_held_behind pm_held_behind cd_held_behind ct_held_behind : Value} {od_held_behind an_held_behind : Option Addr} {sl_held_behind : Array (Option Value)}
    {oc_behind_row kV_behind_row dc_behind_row pm_behind_row cd_behind_row ct_behind_row : Value} {od_behind_row an_behind_row : Option Addr} {sl_behind_row : Array (Option Value)}
    {oc_checked_by kV_checked_by dc_checked_by pm_checked_by cd_checked_by ct_checked_by : Value} {od_checked_by an_checked_by : Option Addr} {sl_checked_by : Array (Option Value)}
    {oc_checked kV_checked dc_checked pm_checked cd_checked ct_checked : Value} {od_checked an_checked : Option Addr} {sl_checked : Array (Option Value)}
    {oc_need_given kV_need_given dc_need_given pm_need_given cd_need_given ct_need_given : Value} {od_need_given an_need_given : Option Addr} {sl_need_given : Array (Option Value)}
    {oc_need_fuel kV_need_fuel dc_need_fuel pm_need_fuel cd_need_fuel ct_need_fuel : Value} {od_need_fuel an_need_fuel : Option Addr} {sl_need_fuel : Array (Option Value)}
    {oc_Run___init__ kV_Run___init__ dc_Run___init__ pm_Run___init__ cd_Run___init__ ct_Run___init__ : Value} {od_Run___init__ an_Run___init__ : Option Addr} {sl_Run___init__ : Array (Option Value)}
    {oc_Run_is_over kV_Run_is_over dc_Run_is_over pm_Run_is_over cd_Run_is_over ct_Run_is_over : Value} {od_Run_is_over an_Run_is_over : Option Addr} {sl_Run_is_over : Array (Option Value)}
    {oc_called kV_called dc_called pm_called cd_called ct_called : Value} {od_called an_called : Option Addr} {sl_called : Array (Option Value)}
    {oc_reckoned kV_reckoned dc_reckoned pm_reckoned cd_reckoned ct_reckoned : Value} {od_reckoned an_reckoned : Option Addr} {sl_reckoned : Array (Option Value)}
    {oc_told_by kV_told_by dc_told_by pm_told_by cd_told_by ct_told_by : Value} {od_told_by an_told_by : Option Addr} {sl_told_by : Array (Option Value)}
    {oc_Run_go kV_Run_go dc_Run_go pm_Run_go cd_Run_go ct_Run_go : Value} {od_Run_go an_Run_go : Option Addr} {sl_Run_go : Array (Option Value)}
    {oc_Run_told kV_Run_told dc_Run_told pm_Run_told cd_Run_told ct_Run_told : Value} {od_Run_told an_Run_told : Option Addr} {sl_Run_told : Array (Option Value)}
    {oc_run kV_run dc_run pm_run cd_run ct_run : Value} {od_run an_run : Option Addr} {sl_run : Array (Option Value)}
    {oc_Junk___init__ kV_Junk___init__ dc_Junk___init__ pm_Junk___init__ cd_Junk___init__ ct_Junk___init__ : Value} {od_Junk___init__ an_Junk___init__ : Option Addr} {sl_Junk___init__ : Array (Option Value)}
    {oc_Junk_next_one kV_Junk_next_one dc_Junk_next_one pm_Junk_next_one cd_Junk_next_one ct_Junk_next_one : Value} {od_Junk_next_one an_Junk_next_one : Option Addr} {sl_Junk_next_one : Array (Option Value)}
    {oc_run_boxes kV_run_boxes dc_run_boxes pm_run_boxes cd_run_boxes ct_run_boxes : Value} {od_run_boxes an_run_boxes : Option Addr} {sl_run_boxes : Array (Option Value)}
    {oc_law kV_law dc_law pm_law cd_law ct_law : Value} {od_law an_law : Option Addr} {sl_law : Array (Option Value)}
    (a_Run : PySem.W.nsIn K mainGlobals "Run" = some (some (.ref C_Run)))
    (pg_Run : PySem.W.plainGet K C_Run Str.empty = true)
    (hd_Run : PySem.W.hasDictIn K C_Run = true)
    (po_Run : PySem.W.plainOver K C_Run = true)
    (sa_Run : PySem.W.findIn K (.ref C_Run) "__setattr__" = some (some (.builtin "object.__setattr__")))
    (mk_Run : PySem.W.makesIn K C_Run = true)
    (kc_Run : PySem.W.keepIn K (.ref C_Run) = true)
    (n0_Run : PySem.W.findIn K (.ref C_Run) "rows" = some none)
    (n1_Run : PySem.W.findIn K (.ref C_Run) "at" = some none)
    (n2_Run : PySem.W.findIn K (.ref C_Run) "said" = some none)
    (n3_Run : PySem.W.findIn K (.ref C_Run) "done" = some none)
    (n4_Run : PySem.W.findIn K (.ref C_Run) "numbers" = some none)
    (n5_Run : PySem.W.findIn K (.ref C_Run) "many" = some none)
    (n6_Run : PySem.W.findIn K (.ref C_Run) "frame" = some none)
    (n7_Run : PySem.W.findIn K (.ref C_Run) "names" = some none)
    (n8_Run : PySem.W.findIn K (.ref C_Run) "held" = some none)
    (a_Junk : PySem.W.nsIn K mainGlobals "Junk" = some (some (.ref C_Junk)))
    (pg_Junk : PySem.W.plainGet K C_Junk Str.empty = true)
    (hd_Junk : PySem.W.hasDictIn K C_Junk = true)
    (po_Junk : PySem.W.plainOver K C_Junk = true)
    (sa_Junk : PySem.W.findIn K (.ref C_Junk) "__setattr__" = some (some (.builtin "object.__setattr__")))
    (mk_Junk : PySem.W.makesIn K C_Junk = true)
    (kc_Junk : PySem.W.keepIn K (.ref C_Junk) = true)
    (n0_Junk : PySem.W.findIn K (.ref C_Junk) "rows" = some none)
    (n1_Junk : PySem.W.findIn K (.ref C_Junk) "at" = some none)
    (n2_Junk : PySem.W.findIn K (.ref C_Junk) "said" = some none)
    (n3_Junk : PySem.W.findIn K (.ref C_Junk) "done" = some none)
    (n4_Junk : PySem.W.findIn K (.ref C_Junk) "numbers" = some none)
    (n5_Junk : PySem.W.findIn K (.ref C_Junk) "many" = some none)
    (n6_Junk : PySem.W.findIn K (.ref C_Junk) "frame" = some none)
    (n7_Junk : PySem.W.findIn K (.ref C_Junk) "names" = some none)
    (n8_Junk : PySem.W.findIn K (.ref C_Junk) "held" = some none)
    (b_bool : PySem.W.nsIn K mainGlobals "bool" = some none)
    (b_enumerate : PySem.W.nsIn K mainGlobals "enumerate" = some none)
    (b_int : PySem.W.nsIn K mainGlobals "int" = some none)
    (b_isinstance : PySem.W.nsIn K mainGlobals "isinstance" = some none)
    (b_len : PySem.W.nsIn K mainGlobals "len" = some none)
    (b_list : PySem.W.nsIn K mainGlobals "list" = some none)
    (b_min : PySem.W.nsIn K mainGlobals "min" = some none)
    (b_range : PySem.W.nsIn K mainGlobals "range" = some none)
    (b_set : PySem.W.nsIn K mainGlobals "set" = some none)
    (b_sorted : PySem.W.nsIn K mainGlobals "sorted" = some none)
    (b_str : PySem.W.nsIn K mainGlobals "str" = some none)
    (b_tuple : PySem.W.nsIn K mainGlobals "tuple" = some none)
    (b_zip : PySem.W.nsIn K mainGlobals "zip" = some none)
    (c_BOX : PySem.W.nsIn K mainGlobals "BOX" = some (some (.str "box" v_BOX)))
    (c_CALL : PySem.W.nsIn K mainGlobals "CALL" = some (some (.str "call" v_CALL)))
    (c_COPY : PySem.W.nsIn K mainGlobals "COPY" = some (some (.str "copy" v_COPY)))
    (c_END : PySem.W.nsIn K mainGlobals "END" = some (some (.str "end" v_END)))
    (c_GO : PySem.W.nsIn K mainGlobals "GO" = some (some (.str "go" v_GO)))
    (c_GOAL : PySem.W.nsIn K mainGlobals "GOAL" = some (some (.int 2 v_GOAL)))
    (c_IF : PySem.W.nsIn K mainGlobals "IF" = some (some (.str "if" v_IF)))
    (c_LONG : PySem.W.nsIn K mainGlobals "LONG" = some (some (.ref t_at_LONG)))
    (l_LONG : K.lookup t_at_LONG = some ⟨.type "tuple", od_LONG, .seq it_LONG m_LONG, sl_LONG⟩)
    (z_LONG : it_LONG.size ≤ 1000)
    (s_LONG : strsR [z_long] it_LONG.toList)
    (c_MOST_BOXES : PySem.W.nsIn K mainGlobals "MOST_BOXES" = some (some (.int 6 v_MOST_BOXES)))
    (c_MOST_FUEL : PySem.W.nsIn K mainGlobals "MOST_FUEL" = some (some (.int 1000 v_MOST_FUEL)))
    (c_MOST_MOVES : PySem.W.nsIn K mainGlobals "MOST_MOVES" = some (some (.int 6 v_MOST_MOVES)))
    (c_MOST_NAMES : PySem.W.nsIn K mainGlobals "MOST_NAMES" = some (some (.int 8 v_MOST_NAMES)))
    (c_MOST_ROWS : PySem.W.nsIn K mainGlobals "MOST_ROWS" = some (some (.int 24 v_MOST_ROWS)))
    (c_MOST_SLOTS : PySem.W.nsIn K mainGlobals "MOST_SLOTS" = some (some (.int 8 v_MOST_SLOTS)))
    (c_MOVES : PySem.W.nsIn K mainGlobals "MOVES" = some (some (.ref t_at_MOVES)))
    (l_MOVES : K.lookup t_at_MOVES = some ⟨.type "dict", none, .dict es_MOVES m_MOVES, #[]⟩)
    (lo_MOVES : (t_at_MOVES == sysModules) = false)
    (kl_MOVES : PySem.W.KeysLit w.params es_MOVES.toList)
    (te_MOVES : TabEs t_MOVES es_MOVES.toList)
    (c_OVER : PySem.W.nsIn K mainGlobals "OVER" = some (some (.ref t_at_OVER)))
    (l_OVER : K.lookup t_at_OVER = some ⟨.type "tuple", od_OVER, .seq it_OVER m_OVER, sl_OVER⟩)
    (z_OVER : it_OVER.size ≤ 1000)
    (s_OVER : strsR [z_end] it_OVER.toList)
    (c_PUT : PySem.W.nsIn K mainGlobals "PUT" = some (some (.str "put" v_PUT)))
    (c_RING : PySem.W.nsIn K mainGlobals "RING" = some (some (.int 1000 v_RING)))
    (c_SAY : PySem.W.nsIn K mainGlobals "SAY" = some (some (.str "say" v_SAY)))
    (c_SHAPES : PySem.W.nsIn K mainGlobals "SHAPES" = some (some (.ref t_at_SHAPES)))
    (l_SHAPES : K.lookup t_at_SHAPES = some ⟨.type "dict", none, .dict es_SHAPES m_SHAPES, #[]⟩)
    (lo_SHAPES : (t_at_SHAPES == sysModules) = false)
    (kl_SHAPES : PySem.W.KeysLit w.params es_SHAPES.toList)
    (te_SHAPES : TabEs t_SHAPES es_SHAPES.toList)
    (c_SLOT : PySem.W.nsIn K mainGlobals "SLOT" = some (some (.str "slot" v_SLOT)))
    (a__law_begun : PySem.W.nsIn K mainGlobals "_law_begun" = some (some (.ref f___law_begun)))
    (l__law_begun : K.lookup f___law_begun = some ⟨oc__law_begun, od__law_begun, .func (PySem.W.fnOf "_law_begun" "_law_begun" (defArgs s__law_begun) (defBody s__law_begun) (defScope s__law_begun) .none kV__law_begun dc__law_begun pm__law_begun an__law_begun cd__law_begun ct__law_begun), sl__law_begun⟩)
    (c__law_begun : PySem.W.codeIn K cd__law_begun "_law_begun" = true)
    (k__law_begun : PySem.W.keepIn K (.ref f___law_begun) = true)
    (a__law_take : PySem.W.nsIn K mainGlobals "_law_take" = some (some (.ref f___law_take)))
    (l__law_take : K.lookup f___law_take = some ⟨oc__law_take, od__law_take, .func (PySem.W.fnOf "_law_take" "_law_take" (defArgs s__law_take) (defBody s__law_take) (defScope s__law_take) .none kV__law_take dc__law_take pm__law_take an__law_take cd__law_take ct__law_take), sl__law_take⟩)
    (c__law_take : PySem.W.codeIn K cd__law_take "_law_take" = true)
    (k__law_take : PySem.W.keepIn K (.ref f___law_take) = true)
    (a__law_row : PySem.W.nsIn K mainGlobals "_law_row" = some (some (.ref f___law_row)))
    (l__law_row : K.lookup f___law_row = some ⟨oc__law_row, od__law_row, .func (PySem.W.fnOf "_law_row" "_law_row" (defArgs s__law_row) (defBody s__law_row) (defScope s__law_row) .none kV__law_row dc__law_row pm__law_row an__law_row cd__law_row ct__law_row), sl__law_row⟩)
    (c__law_row : PySem.W.codeIn K cd__law_row "_law_row" = true)
    (k__law_row : PySem.W.keepIn K (.ref f___law_row) = true)
    (a__law_program : PySem.W.nsIn K mainGlobals "_law_program" = some (some (.ref f___law_program)))
    (l__law_program : K.lookup f___law_program = some ⟨oc__law_program, od__law_program, .func (PySem.W.fnOf "_law_program" "_law_program" (defArgs s__law_program) (defBody s__law_program) (defScope s__law_program) .none kV__law_program dc__law_program pm__law_program an__law_program cd__law_program ct__law_program), sl__law_program⟩)
    (c__law_program : PySem.W.codeIn K cd__law_program "_law_program" = true)
    (k__law_program : PySem.W.keepIn K (.ref f___law_program) = true)
    (a__law_frame : PySem.W.nsIn K mainGlobals "_law_frame" = some (some (.ref f___law_frame)))
    (l__law_frame : K.lookup f___law_frame = some ⟨oc__law_frame, od__law_frame, .func (PySem.W.fnOf "_law_frame" "_law_frame" (defArgs s__law_frame) (defBody s__law_frame) (defScope s__law_frame) .none kV__law_frame dc__law_frame pm__law_frame an__law_frame cd__law_frame ct__law_frame), sl__law_frame⟩)
    (c__law_frame : PySem.W.codeIn K cd__law_frame "_law_frame" = true)
    (k__law_frame : PySem.W.keepIn K (.ref f___law_frame) = true)
    (a_is_number : PySem.W.nsIn K mainGlobals "is_number" = some (some (.ref f__is_number)))
    (l_is_number : K.lookup f__is_number = some ⟨oc_is_number, od_is_number, .func (PySem.W.fnOf "is_number" "is_number" (defArgs s_is_number) (defBody s_is_number) (defScope s_is_number) .none kV_is_number dc_is_number pm_is_number an_is_number cd_is_number ct_is_number), sl_is_number⟩)
    (c_is_number : PySem.W.codeIn K cd_is_number "is_number" = true)
    (k_is_number : PySem.W.keepIn K (.ref f__is_number) = true)
    (a_is_row : PySem.W.nsIn K mainGlobals "is_row" = some (some (.ref f__is_row)))
    (l_is_row : K.lookup f__is_row = some ⟨oc_is_row, od_is_row, .func (PySem.W.fnOf "is_row" "is_row" (defArgs s_is_row) (defBody s_is_row) (defScope s_is_row) .none kV_is_row dc_is_row pm_is_row an_is_row cd_is_row ct_is_row), sl_is_row⟩)
    (c_is_row : PySem.W.codeIn K cd_is_row "is_row" = true)
    (k_is_row : PySem.W.keepIn K (.ref f__is_row) = true)
    (a_need_program : PySem.W.nsIn K mainGlobals "need_program" = some (some (.ref f__need_program)))
    (l_need_program : K.lookup f__need_program = some ⟨oc_need_program, od_need_program, .func (PySem.W.fnOf "need_program" "need_program" (defArgs s_need_program) (defBody s_need_program) (defScope s_need_program) .none kV_need_program dc_need_program pm_need_program an_need_program cd_need_program ct_need_program), sl_need_program⟩)
    (c_need_program : PySem.W.codeIn K cd_need_program "need_program" = true)
    (k_need_program : PySem.W.keepIn K (.ref f__need_program) = true)
    (a_need_frame : PySem.W.nsIn K mainGlobals "need_frame" = some (some (.ref f__need_frame)))
    (l_need_frame : K.lookup f__need_frame = some ⟨oc_need_frame, od_need_frame, .func (PySem.W.fnOf "need_frame" "need_frame" (defArgs s_need_frame) (defBody s_need_frame) (defScope s_need_frame) .none kV_need_frame dc_need_frame pm_need_frame an_need_frame cd_need_frame ct_need_frame), sl_need_frame⟩)
    (c_need_frame : PySem.W.codeIn K cd_need_frame "need_frame" = true)
    (k_need_frame : PySem.W.keepIn K (.ref f__need_frame) = true)
    (a_names_of : PySem.W.nsIn K mainGlobals "names_of" = some (some (.ref f__names_of)))
    (l_names_of : K.lookup f__names_of = some ⟨oc_names_of, od_names_of, .func (PySem.W.fnOf "names_of" "names_of" (defArgs s_names_of) (defBody s_names_of) (defScope s_names_of) .none kV_names_of dc_names_of pm_names_of an_names_of cd_names_of ct_names_of), sl_names_of⟩)
    (c_names_of : PySem.W.codeIn K cd_names_of "names_of" = true)
    (k_names_of : PySem.W.keepIn K (.ref f__names_of) = true)
    (a_makes : PySem.W.nsIn K mainGlobals "makes" = some (some (.ref f__makes)))
    (l_makes : K.lookup f__makes = some ⟨oc_makes, od_makes, .func (PySem.W.fnOf "makes" "makes" (defArgs s_makes) (defBody s_makes) (defScope s_makes) .none kV_makes dc_makes pm_makes an_makes cd_makes ct_makes), sl_makes⟩)
    (c_makes : PySem.W.codeIn K cd_makes "makes" = true)
    (k_makes : PySem.W.keepIn K (.ref f__makes) = true)
    (a_group_of : PySem.W.nsIn K mainGlobals "group_of" = some (some (.ref f__group_of)))
    (l_group_of : K.lookup f__group_of = some ⟨oc_group_of, od_group_of, .func (PySem.W.fnOf "group_of" "group_of" (defArgs s_group_of) (defBody s_group_of) (defScope s_group_of) .none kV_group_of dc_group_of pm_group_of an_group_of cd_group_of ct_group_of), sl_group_of⟩)
    (c_group_of : PySem.W.codeIn K cd_group_of "group_of" = true)
    (k_group_of : PySem.W.keepIn K (.ref f__group_of) = true)
    (a_made : PySem.W.nsIn K mainGlobals "made" = some (some (.ref f__made)))
    (l_made : K.lookup f__made = some ⟨oc_made, od_made, .func (PySem.W.fnOf "made" "made" (defArgs s_made) (defBody s_made) (defScope s_made) .none kV_made dc_made pm_made an_made cd_made ct_made), sl_made⟩)
    (c_made : PySem.W.codeIn K cd_made "made" = true)
    (k_made : PySem.W.keepIn K (.ref f__made) = true)
    (a__law_alike : PySem.W.nsIn K mainGlobals "_law_alike" = some (some (.ref f___law_alike)))
    (l__law_alike : K.lookup f___law_alike = some ⟨oc__law_alike, od__law_alike, .func (PySem.W.fnOf "_law_alike" "_law_alike" (defArgs s__law_alike) (defBody s__law_alike) (defScope s__law_alike) .none kV__law_alike dc__law_alike pm__law_alike an__law_alike cd__law_alike ct__law_alike), sl__law_alike⟩)
    (c__law_alike : PySem.W.codeIn K cd__law_alike "_law_alike" = true)
    (k__law_alike : PySem.W.keepIn K (.ref f___law_alike) = true)
    (a__law_groups : PySem.W.nsIn K mainGlobals "_law_groups" = some (some (.ref f___law_groups)))
    (l__law_groups : K.lookup f___law_groups = some ⟨oc__law_groups, od__law_groups, .func (PySem.W.fnOf "_law_groups" "_law_groups" (defArgs s__law_groups) (defBody s__law_groups) (defScope s__law_groups) .none kV__law_groups dc__law_groups pm__law_groups an__law_groups cd__law_groups ct__law_groups), sl__law_groups⟩)
    (c__law_groups : PySem.W.codeIn K cd__law_groups "_law_groups" = true)
    (k__law_groups : PySem.W.keepIn K (.ref f___law_groups) = true)
    (a_is_place : PySem.W.nsIn K mainGlobals "is_place" = some (some (.ref f__is_place)))
    (l_is_place : K.lookup f__is_place = some ⟨oc_is_place, od_is_place, .func (PySem.W.fnOf "is_place" "is_place" (defArgs s_is_place) (defBody s_is_place) (defScope s_is_place) .none kV_is_place dc_is_place pm_is_place an_is_place cd_is_place ct_is_place), sl_is_place⟩)
    (c_is_place : PySem.W.codeIn K cd_is_place "is_place" = true)
    (k_is_place : PySem.W.keepIn K (.ref f__is_place) = true)
    (a_is_move : PySem.W.nsIn K mainGlobals "is_move" = some (some (.ref f__is_move)))
    (l_is_move : K.lookup f__is_move = some ⟨oc_is_move, od_is_move, .func (PySem.W.fnOf "is_move" "is_move" (defArgs s_is_move) (defBody s_is_move) (defScope s_is_move) .none kV_is_move dc_is_move pm_is_move an_is_move cd_is_move ct_is_move), sl_is_move⟩)
    (c_is_move : PySem.W.codeIn K cd_is_move "is_move" = true)
    (k_is_move : PySem.W.keepIn K (.ref f__is_move) = true)
    (a_are_moves : PySem.W.nsIn K mainGlobals "are_moves" = some (some (.ref f__are_moves)))
    (l_are_moves : K.lookup f__are_moves = some ⟨oc_are_moves, od_are_moves, .func (PySem.W.fnOf "are_moves" "are_moves" (defArgs s_are_moves) (defBody s_are_moves) (defScope s_are_moves) .none kV_are_moves dc_are_moves pm_are_moves an_are_moves cd_are_moves ct_are_moves), sl_are_moves⟩)
    (c_are_moves : PySem.W.codeIn K cd_are_moves "are_moves" = true)
    (k_are_moves : PySem.W.keepIn K (.ref f__are_moves) = true)
    (a_is_group : PySem.W.nsIn K mainGlobals "is_group" = some (some (.ref f__is_group)))
    (l_is_group : K.lookup f__is_group = some ⟨oc_is_group, od_is_group, .func (PySem.W.fnOf "is_group" "is_group" (defArgs s_is_group) (defBody s_is_group) (defScope s_is_group) .none kV_is_group dc_is_group pm_is_group an_is_group cd_is_group ct_is_group), sl_is_group⟩)
    (c_is_group : PySem.W.codeIn K cd_is_group "is_group" = true)
    (k_is_group : PySem.W.keepIn K (.ref f__is_group) = true)
    (a_need_choice : PySem.W.nsIn K mainGlobals "need_choice" = some (some (.ref f__need_choice)))
    (l_need_choice : K.lookup f__need_choice = some ⟨oc_need_choice, od_need_choice, .func (PySem.W.fnOf "need_choice" "need_choice" (defArgs s_need_choice) (defBody s_need_choice) (defScope s_need_choice) .none kV_need_choice dc_need_choice pm_need_choice an_need_choice cd_need_choice ct_need_choice), sl_need_choice⟩)
    (c_need_choice : PySem.W.codeIn K cd_need_choice "need_choice" = true)
    (k_need_choice : PySem.W.keepIn K (.ref f__need_choice) = true)
    (a_index_of : PySem.W.nsIn K mainGlobals "index_of" = some (some (.ref f__index_of)))
    (l_index_of : K.lookup f__index_of = some ⟨oc_index_of, od_index_of, .func (PySem.W.fnOf "index_of" "index_of" (defArgs s_index_of) (defBody s_index_of) (defScope s_index_of) .none kV_index_of dc_index_of pm_index_of an_index_of cd_index_of ct_index_of), sl_index_of⟩)
    (c_index_of : PySem.W.codeIn K cd_index_of "index_of" = true)
    (k_index_of : PySem.W.keepIn K (.ref f__index_of) = true)
    (a_first_held : PySem.W.nsIn K mainGlobals "first_held" = some (some (.ref f__first_held)))
    (l_first_held : K.lookup f__first_held = some ⟨oc_first_held, od_first_held, .func (PySem.W.fnOf "first_held" "first_held" (defArgs s_first_held) (defBody s_first_held) (defScope s_first_held) .none kV_first_held dc_first_held pm_first_held an_first_held cd_first_held ct_first_held), sl_first_held⟩)
    (c_first_held : PySem.W.codeIn K cd_first_held "first_held" = true)
    (k_first_held : PySem.W.keepIn K (.ref f__first_held) = true)
    (a_moved : PySem.W.nsIn K mainGlobals "moved" = some (some (.ref f__moved)))
    (l_moved : K.lookup f__moved = some ⟨oc_moved, od_moved, .func (PySem.W.fnOf "moved" "moved" (defArgs s_moved) (defBody s_moved) (defScope s_moved) .none kV_moved dc_moved pm_moved an_moved cd_moved ct_moved), sl_moved⟩)
    (c_moved : PySem.W.codeIn K cd_moved "moved" = true)
    (k_moved : PySem.W.keepIn K (.ref f__moved) = true)
    (a_is_handed : PySem.W.nsIn K mainGlobals "is_handed" = some (some (.ref f__is_handed)))
    (l_is_handed : K.lookup f__is_handed = some ⟨oc_is_handed, od_is_handed, .func (PySem.W.fnOf "is_handed" "is_handed" (defArgs s_is_handed) (defBody s_is_handed) (defScope s_is_handed) .none kV_is_handed dc_is_handed pm_is_handed an_is_handed cd_is_handed ct_is_handed), sl_is_handed⟩)
    (c_is_handed : PySem.W.codeIn K cd_is_handed "is_handed" = true)
    (k_is_handed : PySem.W.keepIn K (.ref f__is_handed) = true)
    (a_renamed : PySem.W.nsIn K mainGlobals "renamed" = some (some (.ref f__renamed)))
    (l_renamed : K.lookup f__renamed = some ⟨oc_renamed, od_renamed, .func (PySem.W.fnOf "renamed" "renamed" (defArgs s_renamed) (defBody s_renamed) (defScope s_renamed) .none kV_renamed dc_renamed pm_renamed an_renamed cd_renamed ct_renamed), sl_renamed⟩)
    (c_renamed : PySem.W.codeIn K cd_renamed "renamed" = true)
    (k_renamed : PySem.W.keepIn K (.ref f__renamed) = true)
    (a_held_behind : PySem.W.nsIn K mainGlobals "held_behind" = some (some (.ref f__held_behind)))
    (l_held_behind : K.lookup f__held_behind = some ⟨oc_held_behind, od_held_behind, .func (PySem.W.fnOf "held_behind" "held_behind" (defArgs s_held_behind) (defBody s_held_behind) (defScope s_held_behind) .none kV_held_behind dc_held_behind pm_held_behind an_held_behind cd_held_behind ct_held_behind), sl_held_behind⟩)
    (c_held_behind : PySem.W.codeIn K cd_held_behind "held_behind" = true)
    (k_held_behind : PySem.W.keepIn K (.ref f__held_behind) = true)
    (a_behind_row : PySem.W.nsIn K mainGlobals "behind_row" = some (some (.ref f__behind_row)))
    (l_behind_row : K.lookup f__behind_row = some ⟨oc_behind_row, od_behind_row, .func (PySem.W.fnOf "behind_row" "behind_row" (defArgs s_behind_row) (defBody s_behind_row) (defScope s_behind_row) .none kV_behind_row dc_behind_row pm_behind_row an_behind_row cd_behind_row ct_behind_row), sl_behind_row⟩)
    (c_behind_row : PySem.W.codeIn K cd_behind_row "behind_row" = true)
    (k_behind_row : PySem.W.keepIn K (.ref f__behind_row) = true)
    (a_checked_by : PySem.W.nsIn K mainGlobals "checked_by" = some (some (.ref f__checked_by)))
    (l_checked_by : K.lookup f__checked_by = some ⟨oc_checked_by, od_checked_by, .func (PySem.W.fnOf "checked_by" "checked_by" (defArgs s_checked_by) (defBody s_checked_by) (defScope s_checked_by) .none kV_checked_by dc_checked_by pm_checked_by an_checked_by cd_checked_by ct_checked_by), sl_checked_by⟩)
    (c_checked_by : PySem.W.codeIn K cd_checked_by "checked_by" = true)
    (k_checked_by : PySem.W.keepIn K (.ref f__checked_by) = true)
    (a_checked : PySem.W.nsIn K mainGlobals "checked" = some (some (.ref f__checked)))
    (l_checked : K.lookup f__checked = some ⟨oc_checked, od_checked, .func (PySem.W.fnOf "checked" "checked" (defArgs s_checked) (defBody s_checked) (defScope s_checked) .none kV_checked dc_checked pm_checked an_checked cd_checked ct_checked), sl_checked⟩)
    (c_checked : PySem.W.codeIn K cd_checked "checked" = true)
    (k_checked : PySem.W.keepIn K (.ref f__checked) = true)
    (a_need_given : PySem.W.nsIn K mainGlobals "need_given" = some (some (.ref f__need_given)))
    (l_need_given : K.lookup f__need_given = some ⟨oc_need_given, od_need_given, .func (PySem.W.fnOf "need_given" "need_given" (defArgs s_need_given) (defBody s_need_given) (defScope s_need_given) .none kV_need_given dc_need_given pm_need_given an_need_given cd_need_given ct_need_given), sl_need_given⟩)
    (c_need_given : PySem.W.codeIn K cd_need_given "need_given" = true)
    (k_need_given : PySem.W.keepIn K (.ref f__need_given) = true)
    (a_need_fuel : PySem.W.nsIn K mainGlobals "need_fuel" = some (some (.ref f__need_fuel)))
    (l_need_fuel : K.lookup f__need_fuel = some ⟨oc_need_fuel, od_need_fuel, .func (PySem.W.fnOf "need_fuel" "need_fuel" (defArgs s_need_fuel) (defBody s_need_fuel) (defScope s_need_fuel) .none kV_need_fuel dc_need_fuel pm_need_fuel an_need_fuel cd_need_fuel ct_need_fuel), sl_need_fuel⟩)
    (c_need_fuel : PySem.W.codeIn K cd_need_fuel "need_fuel" = true)
    (k_need_fuel : PySem.W.keepIn K (.ref f__need_fuel) = true)
    (a_Run___init__ : PySem.W.findIn K (.ref C_Run) "__init__" = some (some (.ref f__Run___init__)))
    (i_Run___init__ : PySem.W.isFn K (.ref f__Run___init__) = true)
    (l_Run___init__ : K.lookup f__Run___init__ = some ⟨oc_Run___init__, od_Run___init__, .func (PySem.W.fnOf "__init__" "Run.__init__" (defArgs s_Run___init__) (defBody s_Run___init__) (defScope s_Run___init__) .none kV_Run___init__ dc_Run___init__ pm_Run___init__ an_Run___init__ cd_Run___init__ ct_Run___init__), sl_Run___init__⟩)
    (c_Run___init__ : PySem.W.codeIn K cd_Run___init__ "Run.__init__" = true)
    (k_Run___init__ : PySem.W.keepIn K (.ref f__Run___init__) = true)
    (a_Run_is_over : PySem.W.findIn K (.ref C_Run) "is_over" = some (some (.ref f__Run_is_over)))
    (i_Run_is_over : PySem.W.isFn K (.ref f__Run_is_over) = true)
    (l_Run_is_over : K.lookup f__Run_is_over = some ⟨oc_Run_is_over, od_Run_is_over, .func (PySem.W.fnOf "is_over" "Run.is_over" (defArgs s_Run_is_over) (defBody s_Run_is_over) (defScope s_Run_is_over) .none kV_Run_is_over dc_Run_is_over pm_Run_is_over an_Run_is_over cd_Run_is_over ct_Run_is_over), sl_Run_is_over⟩)
    (c_Run_is_over : PySem.W.codeIn K cd_Run_is_over "Run.is_over" = true)
    (k_Run_is_over : PySem.W.keepIn K (.ref f__Run_is_over) = true)
    (a_called : PySem.W.nsIn K mainGlobals "called" = some (some (.ref f__called)))
    (l_called : K.lookup f__called = some ⟨oc_called, od_called, .func (PySem.W.fnOf "called" "called" (defArgs s_called) (defBody s_called) (defScope s_called) .none kV_called dc_called pm_called an_called cd_called ct_called), sl_called⟩)
    (c_called : PySem.W.codeIn K cd_called "called" = true)
    (k_called : PySem.W.keepIn K (.ref f__called) = true)
    (a_reckoned : PySem.W.nsIn K mainGlobals "reckoned" = some (some (.ref f__reckoned)))
    (l_reckoned : K.lookup f__reckoned = some ⟨oc_reckoned, od_reckoned, .func (PySem.W.fnOf "reckoned" "reckoned" (defArgs s_reckoned) (defBody s_reckoned) (defScope s_reckoned) .none kV_reckoned dc_reckoned pm_reckoned an_reckoned cd_reckoned ct_reckoned), sl_reckoned⟩)
    (c_reckoned : PySem.W.codeIn K cd_reckoned "reckoned" = true)
    (k_reckoned : PySem.W.keepIn K (.ref f__reckoned) = true)
    (a_told_by : PySem.W.nsIn K mainGlobals "told_by" = some (some (.ref f__told_by)))
    (l_told_by : K.lookup f__told_by = some ⟨oc_told_by, od_told_by, .func (PySem.W.fnOf "told_by" "told_by" (defArgs s_told_by) (defBody s_told_by) (defScope s_told_by) .none kV_told_by dc_told_by pm_told_by an_told_by cd_told_by ct_told_by), sl_told_by⟩)
    (c_told_by : PySem.W.codeIn K cd_told_by "told_by" = true)
    (k_told_by : PySem.W.keepIn K (.ref f__told_by) = true)
    (a_Run_go : PySem.W.findIn K (.ref C_Run) "go" = some (some (.ref f__Run_go)))
    (i_Run_go : PySem.W.isFn K (.ref f__Run_go) = true)
    (l_Run_go : K.lookup f__Run_go = some ⟨oc_Run_go, od_Run_go, .func (PySem.W.fnOf "go" "Run.go" (defArgs s_Run_go) (defBody s_Run_go) (defScope s_Run_go) .none kV_Run_go dc_Run_go pm_Run_go an_Run_go cd_Run_go ct_Run_go), sl_Run_go⟩)
    (c_Run_go : PySem.W.codeIn K cd_Run_go "Run.go" = true)
    (k_Run_go : PySem.W.keepIn K (.ref f__Run_go) = true)
    (a_Run_told : PySem.W.findIn K (.ref C_Run) "told" = some (some (.ref f__Run_told)))
    (i_Run_told : PySem.W.isFn K (.ref f__Run_told) = true)
    (l_Run_told : K.lookup f__Run_told = some ⟨oc_Run_told, od_Run_told, .func (PySem.W.fnOf "told" "Run.told" (defArgs s_Run_told) (defBody s_Run_told) (defScope s_Run_told) .none kV_Run_told dc_Run_told pm_Run_told an_Run_told cd_Run_told ct_Run_told), sl_Run_told⟩)
    (c_Run_told : PySem.W.codeIn K cd_Run_told "Run.told" = true)
    (k_Run_told : PySem.W.keepIn K (.ref f__Run_told) = true)
    (a_run : PySem.W.nsIn K mainGlobals "run" = some (some (.ref f__run)))
    (l_run : K.lookup f__run = some ⟨oc_run, od_run, .func (PySem.W.fnOf "run" "run" (defArgs s_run) (defBody s_run) (defScope s_run) .none kV_run dc_run pm_run an_run cd_run ct_run), sl_run⟩)
    (c_run : PySem.W.codeIn K cd_run "run" = true)
    (k_run : PySem.W.keepIn K (.ref f__run) = true)
    (a_Junk___init__ : PySem.W.findIn K (.ref C_Junk) "__init__" = some (some (.ref f__Junk___init__)))
    (i_Junk___init__ : PySem.W.isFn K (.ref f__Junk___init__) = true)
    (l_Junk___init__ : K.lookup f__Junk___init__ = some ⟨oc_Junk___init__, od_Junk___init__, .func (PySem.W.fnOf "__init__" "Junk.__init__" (defArgs s_Junk___init__) (defBody s_Junk___init__) (defScope s_Junk___init__) .none kV_Junk___init__ dc_Junk___init__ pm_Junk___init__ an_Junk___init__ cd_Junk___init__ ct_Junk___init__), sl_Junk___init__⟩)
    (c_Junk___init__ : PySem.W.codeIn K cd_Junk___init__ "Junk.__init__" = true)
    (k_Junk___init__ : PySem.W.keepIn K (.ref f__Junk___init__) = true)
    (a_Junk_next_one : PySem.W.findIn K (.ref C_Junk) "next_one" = some (some (.ref f__Junk_next_one)))
    (i_Junk_next_one : PySem.W.isFn K (.ref f__Junk_next_one) = true)
    (l_Junk_next_one : K.lookup f__Junk_next_one = some ⟨oc_Junk_next_one, od_Junk_next_one, .func (PySem.W.fnOf "next_one" "Junk.next_one" (defArgs s_Junk_next_one) (defBody s_Junk_next_one) (defScope s_Junk_next_one) .none kV_Junk_next_one dc_Junk_next_one pm_Junk_next_one an_Junk_next_one cd_Junk_next_one ct_Junk_next_one), sl_Junk_next_one⟩)
    (c_Junk_next_one : PySem.W.codeIn K cd_Junk_next_one "Junk.next_one" = true)
    (k_Junk_next_one : PySem.W.keepIn K (.ref f__Junk_next_one) = true)
    (a_run_boxes : PySem.W.nsIn K mainGlobals "run_boxes" = some (some (.ref f__run_boxes)))
    (l_run_boxes : K.lookup f__run_boxes = some ⟨oc_run_boxes, od_run_boxes, .func (PySem.W.fnOf "run_boxes" "run_boxes" (defArgs s_run_boxes) (defBody s_run_boxes) (defScope s_run_boxes) .none kV_run_boxes dc_run_boxes pm_run_boxes an_run_boxes cd_run_boxes ct_run_boxes), sl_run_boxes⟩)
    (c_run_boxes : PySem.W.codeIn K cd_run_boxes "run_boxes" = true)
    (k_run_boxes : PySem.W.keepIn K (.ref f__run_boxes) = true)
    (a_law : PySem.W.nsIn K mainGlobals "law" = some (some (.ref f__law)))
    (l_law : K.lookup f__law = some ⟨oc_law, od_law, .func (PySem.W.fnOf "law" "law" (defArgs s_law) (defBody s_law) (defScope s_law) .none kV_law dc_law pm_law an_law cd_law ct_law), sl_law⟩)
    (c_law : PySem.W.codeIn K cd_law "law" = true)
    (k_law : PySem.W.keepIn K (.ref f__law) = true)
    : ∃ fd : FuncData, (∀ (s : Shared) (v : Value), BindsTo s fd ⟨[v], []⟩ [("_law_script", v)]) ∧ ∀ base : Heap, K.In base → base.Ns mainGlobals mg → FnOk l.prog w K mg base CX0 14 fa fd ["_law_script"] (spF nm K mg 1 f_law_v9) := by
  have e := hfa.symm.trans (PySem.W.mg_of X G a_law)
  cases e
  have k_Run : ClsOk nm K mg 0 C_Run [0, 1, 2, 3, 4, 5, 6, 7, 8] := ⟨PySem.W.mg_of X G a_Run, ⟨pg_Run, hd_Run, po_Run, sa_Run⟩, by simp only [List.forall_mem_cons]; exact ⟨n0_Run, n1_Run, n2_Run, n3_Run, n4_Run, n5_Run, n6_Run, n7_Run, n8_Run,  fun _ z => nomatch z⟩⟩
  have k_Junk : ClsOk nm K mg 1 C_Junk [0, 1, 2, 3, 4, 5, 6, 7, 8] := ⟨PySem.W.mg_of X G a_Junk, ⟨pg_Junk, hd_Junk, po_Junk, sa_Junk⟩, by simp only [List.forall_mem_cons]; exact ⟨n0_Junk, n1_Junk, n2_Junk, n3_Junk, n4_Junk, n5_Junk, n6_Junk, n7_Junk, n8_Junk,  fun _ z => nomatch z⟩⟩
  have T : Txt w K mg C_Run C_Junk := ⟨PySem.W.mg_none_of X G b_bool, PySem.W.mg_none_of X G b_enumerate, PySem.W.mg_none_of X G b_int, PySem.W.mg_none_of X G b_isinstance, PySem.W.mg_none_of X G b_len, PySem.W.mg_none_of X G b_list, PySem.W.mg_none_of X G b_min, PySem.W.mg_none_of X G b_range, PySem.W.mg_none_of X G b_set, PySem.W.mg_none_of X G b_sorted, PySem.W.mg_none_of X G b_str, PySem.W.mg_none_of X G b_tuple, PySem.W.mg_none_of X G b_zip, glS_mk X G kz_box c_BOX, glS_mk X G kz_call c_CALL, glS_mk X G kz_copy c_COPY, glS_mk X G kz_end c_END, glS_mk X G kz_go c_GO, glI_mk X G c_GOAL, glS_mk X G kz_if c_IF, glT_mk (ss := [z_long]) X G c_LONG l_LONG z_LONG s_LONG, glI_mk X G c_MOST_BOXES, glI_mk X G c_MOST_FUEL, glI_mk X G c_MOST_MOVES, glI_mk X G c_MOST_NAMES, glI_mk X G c_MOST_ROWS, glI_mk X G c_MOST_SLOTS, glD_mk X G c_MOVES l_MOVES lo_MOVES kl_MOVES te_MOVES, glT_mk (ss := [z_end]) X G c_OVER l_OVER z_OVER s_OVER, glS_mk X G kz_put c_PUT, glI_mk X G c_RING, glS_mk X G kz_say c_SAY, glD_mk X G c_SHAPES l_SHAPES lo_SHAPES kl_SHAPES te_SHAPES, glS_mk X G kz_slot c_SLOT, k_Run, k_Junk⟩
  obtain ⟨fd__law_begun, F__law_begun, m__law_begun, kp__law_begun, bd__law_begun⟩ := at_mk (st := s__law_begun) (ps := ["_law_script"]) X G a__law_begun l__law_begun c__law_begun k__law_begun (fun _ _ _ _ _ _ us hl => match us, hl with | [_], _ => rfl)
  obtain ⟨fd__law_take, F__law_take, m__law_take, kp__law_take, bd__law_take⟩ := at_mk (st := s__law_take) (ps := ["_law_box", "_law_many"]) X G a__law_take l__law_take c__law_take k__law_take (fun _ _ _ _ _ _ us hl => match us, hl with | [_, _], _ => rfl)
  obtain ⟨fd__law_row, F__law_row, m__law_row, kp__law_row, bd__law_row⟩ := at_mk (st := s__law_row) (ps := ["_law_box", "_law_names", "_law_many", "_law_at"]) X G a__law_row l__law_row c__law_row k__law_row (fun _ _ _ _ _ _ us hl => match us, hl with | [_, _, _, _], _ => rfl)
  obtain ⟨fd__law_program, F__law_program, m__law_program, kp__law_program, bd__law_program⟩ := at_mk (st := s__law_program) (ps := ["_law_box", "_law_most"]) X G a__law_program l__law_program c__law_program k__law_program (fun _ _ _ _ _ _ us hl => match us, hl with | [_, _], _ => rfl)
  obtain ⟨fd__law_frame, F__law_frame, m__law_frame, kp__law_frame, bd__law_frame⟩ := at_mk (st := s__law_frame) (ps := ["_law_box"]) X G a__law_frame l__law_frame c__law_frame k__law_frame (fun _ _ _ _ _ _ us hl => match us, hl with | [_], _ => rfl)
  obtain ⟨fd_is_number, F_is_number, m_is_number, kp_is_number, bd_is_number⟩ := at_mk (st := s_is_number) (ps := ["part", "low", "high"]) X G a_is_number l_is_number c_is_number k_is_number (fun _ _ _ _ _ _ us hl => match us, hl with | [_, _, _], _ => rfl)
  obtain ⟨fd_is_row, F_is_row, m_is_row, kp_is_row, bd_is_row⟩ := at_mk (st := s_is_row) (ps := ["row", "names", "many"]) X G a_is_row l_is_row c_is_row k_is_row (fun _ _ _ _ _ _ us hl => match us, hl with | [_, _, _], _ => rfl)
  obtain ⟨fd_need_program, F_need_program, m_need_program, kp_need_program, bd_need_program⟩ := at_mk (st := s_need_program) (ps := ["program"]) X G a_need_program l_need_program c_need_program k_need_program (fun _ _ _ _ _ _ us hl => match us, hl with | [_], _ => rfl)
  obtain ⟨fd_need_frame, F_need_frame, m_need_frame, kp_need_frame, bd_need_frame⟩ := at_mk (st := s_need_frame) (ps := ["frame"]) X G a_need_frame l_need_frame c_need_frame k_need_frame (fun _ _ _ _ _ _ us hl => match us, hl with | [_], _ => rfl)
  obtain ⟨fd_names_of, F_names_of, m_names_of, kp_names_of, bd_names_of⟩ := at_mk (st := s_names_of) (ps := ["row"]) X G a_names_of l_names_of c_names_of k_names_of (fun _ _ _ _ _ _ us hl => match us, hl with | [_], _ => rfl)
  obtain ⟨fd_makes, F_makes, m_makes, kp_makes, bd_makes⟩ := at_mk (st := s_makes) (ps := ["row"]) X G a_makes l_makes c_makes k_makes (fun _ _ _ _ _ _ us hl => match us, hl with | [_], _ => rfl)
  obtain ⟨fd_group_of, F_group_of, m_group_of, kp_group_of, bd_group_of⟩ := at_mk (st := s_group_of) (ps := ["row"]) X G a_group_of l_group_of c_group_of k_group_of (fun _ _ _ _ _ _ us hl => match us, hl with | [_], _ => rfl)
  obtain ⟨fd_made, F_made, m_made, kp_made, bd_made⟩ := at_mk (st := s_made) (ps := ["program", "frame"]) X G a_made l_made c_made k_made (fun _ _ _ _ _ _ us hl => match us, hl with | [_, _], _ => rfl)
  obtain ⟨fd__law_alike, F__law_alike, m__law_alike, kp__law_alike, bd__law_alike⟩ := at_mk (st := s__law_alike) (ps := ["_law_found", "_law_due"]) X G a__law_alike l__law_alike c__law_alike k__law_alike (fun _ _ _ _ _ _ us hl => match us, hl with | [_, _], _ => rfl)
  obtain ⟨fd__law_groups, F__law_groups, m__law_groups, kp__law_groups, bd__law_groups⟩ := at_mk (st := s__law_groups) (ps := ["_law_program_here"]) X G a__law_groups l__law_groups c__law_groups k__law_groups (fun _ _ _ _ _ _ us hl => match us, hl with | [_], _ => rfl)
  obtain ⟨fd_is_place, F_is_place, m_is_place, kp_is_place, bd_is_place⟩ := at_mk (st := s_is_place) (ps := ["place", "frame"]) X G a_is_place l_is_place c_is_place k_is_place (fun _ _ _ _ _ _ us hl => match us, hl with | [_, _], _ => rfl)
  obtain ⟨fd_is_move, F_is_move, m_is_move, kp_is_move, bd_is_move⟩ := at_mk (st := s_is_move) (ps := ["move", "frame"]) X G a_is_move l_is_move c_is_move k_is_move (fun _ _ _ _ _ _ us hl => match us, hl with | [_, _], _ => rfl)
  obtain ⟨fd_are_moves, F_are_moves, m_are_moves, kp_are_moves, bd_are_moves⟩ := at_mk (st := s_are_moves) (ps := ["moves", "frame"]) X G a_are_moves l_are_moves c_are_moves k_are_moves (fun _ _ _ _ _ _ us hl => match us, hl with | [_, _], _ => rfl)
  obtain ⟨fd_is_group, F_is_group, m_is_group, kp_is_group, bd_is_group⟩ := at_mk (st := s_is_group) (ps := ["group", "row", "frame"]) X G a_is_group l_is_group c_is_group k_is_group (fun _ _ _ _ _ _ us hl => match us, hl with | [_, _, _], _ => rfl)
  obtain ⟨fd_need_choice, F_need_choice, m_need_choice, kp_need_choice, bd_need_choice⟩ := at_mk (st := s_need_choice) (ps := ["program", "frame", "choice"]) X G a_need_choice l_need_choice c_need_choice k_need_choice (fun _ _ _ _ _ _ us hl => match us, hl with | [_, _, _], _ => rfl)
  obtain ⟨fd_index_of, F_index_of, m_index_of, kp_index_of, bd_index_of⟩ := at_mk (st := s_index_of) (ps := ["place", "frame"]) X G a_index_of l_index_of c_index_of k_index_of (fun _ _ _ _ _ _ us hl => match us, hl with | [_, _], _ => rfl)
  obtain ⟨fd_first_held, F_first_held, m_first_held, kp_first_held, bd_first_held⟩ := at_mk (st := s_first_held) (ps := ["program", "frame", "choice"]) X G a_first_held l_first_held c_first_held k_first_held (fun _ _ _ _ _ _ us hl => match us, hl with | [_, _, _], _ => rfl)
  obtain ⟨fd_moved, F_moved, m_moved, kp_moved, bd_moved⟩ := at_mk (st := s_moved) (ps := ["held", "moves", "frame"]) X G a_moved l_moved c_moved k_moved (fun _ _ _ _ _ _ us hl => match us, hl with | [_, _, _], _ => rfl)
  obtain ⟨fd_is_handed, F_is_handed, m_is_handed, kp_is_handed, bd_is_handed⟩ := at_mk (st := s_is_handed) (ps := ["row", "group", "held", "frame"]) X G a_is_handed l_is_handed c_is_handed k_is_handed (fun _ _ _ _ _ _ us hl => match us, hl with | [_, _, _, _], _ => rfl)
  obtain ⟨fd_renamed, F_renamed, m_renamed, kp_renamed, bd_renamed⟩ := at_mk (st := s_renamed) (ps := ["some", "goal", "source"]) X G a_renamed l_renamed c_renamed k_renamed (fun _ _ _ _ _ _ us hl => match us, hl with | [_, _, _], _ => rfl)
  obtain ⟨fd_held_behind, F_held_behind, m_held_behind, kp_held_behind, bd_held_behind⟩ := at_mk (st := s_held_behind) (ps := ["row", "group", "held", "frame"]) X G a_held_behind l_held_behind c_held_behind k_held_behind (fun _ _ _ _ _ _ us hl => match us, hl with | [_, _, _, _], _ => rfl)
  obtain ⟨fd_behind_row, F_behind_row, m_behind_row, kp_behind_row, bd_behind_row⟩ := at_mk (st := s_behind_row) (ps := ["program", "number", "later"]) X G a_behind_row l_behind_row c_behind_row k_behind_row (fun _ _ _ _ _ _ us hl => match us, hl with | [_, _, _], _ => rfl)
  obtain ⟨fd_checked_by, F_checked_by, m_checked_by, kp_checked_by, bd_checked_by⟩ := at_mk (st := s_checked_by) (ps := ["program", "frame", "choice"]) X G a_checked_by l_checked_by c_checked_by k_checked_by (fun _ _ _ _ _ _ us hl => match us, hl with | [_, _, _], _ => rfl)
  obtain ⟨fd_checked, F_checked, m_checked, kp_checked, bd_checked⟩ := at_mk (st := s_checked) (ps := ["program", "frame", "choice"]) X G a_checked l_checked c_checked k_checked (fun _ _ _ _ _ _ us hl => match us, hl with | [_, _, _], _ => rfl)
  obtain ⟨fd_need_given, F_need_given, m_need_given, kp_need_given, bd_need_given⟩ := at_mk (st := s_need_given) (ps := ["program", "given"]) X G a_need_given l_need_given c_need_given k_need_given (fun _ _ _ _ _ _ us hl => match us, hl with | [_, _], _ => rfl)
  obtain ⟨fd_need_fuel, F_need_fuel, m_need_fuel, kp_need_fuel, bd_need_fuel⟩ := at_mk (st := s_need_fuel) (ps := ["fuel"]) X G a_need_fuel l_need_fuel c_need_fuel k_need_fuel (fun _ _ _ _ _ _ us hl => match us, hl with | [_], _ => rfl)
  obtain ⟨fd_Run___init__, F_Run___init__, m_Run___init__, bd_Run___init__⟩ := atM_mk (st := s_Run___init__) (ps := ["self", "rows"]) a_Run___init__ i_Run___init__ l_Run___init__ c_Run___init__ k_Run___init__ (fun _ _ _ _ _ _ us hl => match us, hl with | [_, _], _ => rfl)
  obtain ⟨fd_Run_is_over, F_Run_is_over, m_Run_is_over, bd_Run_is_over⟩ := atM_mk (st := s_Run_is_over) (ps := ["self"]) a_Run_is_over i_Run_is_over l_Run_is_over c_Run_is_over k_Run_is_over (fun _ _ _ _ _ _ us hl => match us, hl with | [_], _ => rfl)
  obtain ⟨fd_called, F_called, m_called, kp_called, bd_called⟩ := at_mk (st := s_called) (ps := ["number"]) X G a_called l_called c_called k_called (fun _ _ _ _ _ _ us hl => match us, hl with | [_], _ => rfl)
  obtain ⟨fd_reckoned, F_reckoned, m_reckoned, kp_reckoned, bd_reckoned⟩ := at_mk (st := s_reckoned) (ps := ["word", "one", "other"]) X G a_reckoned l_reckoned c_reckoned k_reckoned (fun _ _ _ _ _ _ us hl => match us, hl with | [_, _, _], _ => rfl)
  obtain ⟨fd_told_by, F_told_by, m_told_by, kp_told_by, bd_told_by⟩ := at_mk (st := s_told_by) (ps := ["row", "some"]) X G a_told_by l_told_by c_told_by k_told_by (fun _ _ _ _ _ _ us hl => match us, hl with | [_, _], _ => rfl)
  obtain ⟨fd_Run_go, F_Run_go, m_Run_go, bd_Run_go⟩ := atM_mk (st := s_Run_go) (ps := ["self", "some"]) a_Run_go i_Run_go l_Run_go c_Run_go k_Run_go (fun _ _ _ _ _ _ us hl => match us, hl with | [_, _], _ => rfl)
  obtain ⟨fd_Run_told, F_Run_told, m_Run_told, bd_Run_told⟩ := atM_mk (st := s_Run_told) (ps := ["self"]) a_Run_told i_Run_told l_Run_told c_Run_told k_Run_told (fun _ _ _ _ _ _ us hl => match us, hl with | [_], _ => rfl)
  obtain ⟨fd_run, F_run, m_run, kp_run, bd_run⟩ := at_mk (st := s_run) (ps := ["program", "given", "fuel"]) X G a_run l_run c_run k_run (fun _ _ _ _ _ _ us hl => match us, hl with | [_, _, _], _ => rfl)
  obtain ⟨fd_Junk___init__, F_Junk___init__, m_Junk___init__, bd_Junk___init__⟩ := atM_mk (st := s_Junk___init__) (ps := ["self", "numbers"]) a_Junk___init__ i_Junk___init__ l_Junk___init__ c_Junk___init__ k_Junk___init__ (fun _ _ _ _ _ _ us hl => match us, hl with | [_, _], _ => rfl)
  obtain ⟨fd_Junk_next_one, F_Junk_next_one, m_Junk_next_one, bd_Junk_next_one⟩ := atM_mk (st := s_Junk_next_one) (ps := ["self"]) a_Junk_next_one i_Junk_next_one l_Junk_next_one c_Junk_next_one k_Junk_next_one (fun _ _ _ _ _ _ us hl => match us, hl with | [_], _ => rfl)
  obtain ⟨fd_run_boxes, F_run_boxes, m_run_boxes, kp_run_boxes, bd_run_boxes⟩ := at_mk (st := s_run_boxes) (ps := ["program", "frame", "choice", "given", "fuel", "junk"]) X G a_run_boxes l_run_boxes c_run_boxes k_run_boxes (fun _ _ _ _ _ _ us hl => match us, hl with | [_, _, _, _, _, _], _ => rfl)
  refine ⟨PySem.W.fnOf "law" "law" (defArgs s_law) (defBody s_law) (defScope s_law) .none kV_law dc_law pm_law an_law cd_law ct_law, fun s v => .of_eq rfl, fun base _ _ => ?_⟩
  have C__law_begun : Cal nm l.prog w K mg base 1 "_law_begun" ["_law_script"] f__law_begun := ⟨_, fd__law_begun, d__law_begun T F__law_begun, m__law_begun, kp__law_begun, bd__law_begun⟩
  have C__law_take : Cal nm l.prog w K mg base 1 "_law_take" ["_law_box", "_law_many"] f__law_take := ⟨_, fd__law_take, d__law_take T F__law_take, m__law_take, kp__law_take, bd__law_take⟩
  have C__law_row : Cal nm l.prog w K mg base 2 "_law_row" ["_law_box", "_law_names", "_law_many", "_law_at"] f__law_row := ⟨_, fd__law_row, d__law_row T C__law_take F__law_row, m__law_row, kp__law_row, bd__law_row⟩
  have C__law_program : Cal nm l.prog w K mg base 3 "_law_program" ["_law_box", "_law_most"] f__law_program_v2 := ⟨_, fd__law_program, d__law_program T C__law_take C__law_row F__law_program, m__law_program, kp__law_program, bd__law_program⟩
  have C__law_frame : Cal nm l.prog w K mg base 2 "_law_frame" ["_law_box"] f__law_frame := ⟨_, fd__law_frame, d__law_frame T C__law_take F__law_frame, m__law_frame, kp__law_frame, bd__law_frame⟩
  have C_is_number : Cal nm l.prog w K mg base 1 "is_number" ["part", "low", "high"] f_is_number := ⟨_, fd_is_number, d_is_number T F_is_number, m_is_number, kp_is_number, bd_is_number⟩
  have C_is_row : Cal nm l.prog w K mg base 2 "is_row" ["row", "names", "many"] f_is_row := ⟨_, fd_is_row, d_is_row T C_is_number F_is_row, m_is_row, kp_is_row, bd_is_row⟩
  have C_need_program : Cal nm l.prog w K mg base 3 "need_program" ["program"] f_need_program := ⟨_, fd_need_program, d_need_program T C_is_number C_is_row F_need_program, m_need_program, kp_need_program, bd_need_program⟩
  have C_need_frame : Cal nm l.prog w K mg base 2 "need_frame" ["frame"] f_need_frame := ⟨_, fd_need_frame, d_need_frame T C_is_number F_need_frame, m_need_frame, kp_need_frame, bd_need_frame⟩
  have C_names_of : Cal nm l.prog w K mg base 1 "names_of" ["row"] f_names_of := ⟨_, fd_names_of, d_names_of T F_names_of, m_names_of, kp_names_of, bd_names_of⟩
  have C_makes : Cal nm l.prog w K mg base 1 "makes" ["row"] f_makes := ⟨_, fd_makes, d_makes T F_makes, m_makes, kp_makes, bd_makes⟩
  have C_group_of : Cal nm l.prog w K mg base 2 "group_of" ["row"] f_group_of := ⟨_, fd_group_of, d_group_of T C_names_of C_makes F_group_of, m_group_of, kp_group_of, bd_group_of⟩
  have C_made : Cal nm l.prog w K mg base 4 "made" ["program", "frame"] f_made := ⟨_, fd_made, d_made T C_need_program C_need_frame C_group_of F_made, m_made, kp_made, bd_made⟩
  have C__law_alike : ∀ j, Cal nm l.prog w K mg base (1 + j) "_law_alike" ["_law_found", "_law_due"] (f__law_alike j) := fun j => by
    induction j with
    | zero => exact ⟨_, fd__law_alike, fn_bad, m__law_alike, kp__law_alike, bd__law_alike⟩
    | succ j ih =>
      have z := d__law_alike (k := j) T ih F__law_alike
      exact ⟨_, fd__law_alike, (by omega : 2 + j = 1 + (j + 1)) ▸ z, m__law_alike, kp__law_alike, bd__law_alike⟩
  have C__law_alike := C__law_alike 12
  have C__law_groups : Cal nm l.prog w K mg base 1 "_law_groups" ["_law_program_here"] f__law_groups := ⟨_, fd__law_groups, d__law_groups T F__law_groups, m__law_groups, kp__law_groups, bd__law_groups⟩
  have C_is_place : Cal nm l.prog w K mg base 2 "is_place" ["place", "frame"] f_is_place := ⟨_, fd_is_place, d_is_place T C_is_number F_is_place, m_is_place, kp_is_place, bd_is_place⟩
  have C_is_move : Cal nm l.prog w K mg base 2 "is_move" ["move", "frame"] f_is_move := ⟨_, fd_is_move, d_is_move T C_is_number F_is_move, m_is_move, kp_is_move, bd_is_move⟩
  have C_are_moves : Cal nm l.prog w K mg base 3 "are_moves" ["moves", "frame"] f_are_moves := ⟨_, fd_are_moves, d_are_moves T C_is_move F_are_moves, m_are_moves, kp_are_moves, bd_are_moves⟩
  have C_is_group : Cal nm l.prog w K mg base 4 "is_group" ["group", "row", "frame"] f_is_group := ⟨_, fd_is_group, d_is_group T C_are_moves C_names_of C_is_number F_is_group, m_is_group, kp_is_group, bd_is_group⟩
  have C_need_choice : Cal nm l.prog w K mg base 5 "need_choice" ["program", "frame", "choice"] f_need_choice := ⟨_, fd_need_choice, d_need_choice T C_is_place C_is_group F_need_choice, m_need_choice, kp_need_choice, bd_need_choice⟩
  have C_index_of : Cal nm l.prog w K mg base 1 "index_of" ["place", "frame"] f_index_of := ⟨_, fd_index_of, d_index_of T F_index_of, m_index_of, kp_index_of, bd_index_of⟩
  have C_first_held : Cal nm l.prog w K mg base 2 "first_held" ["program", "frame", "choice"] f_first_held := ⟨_, fd_first_held, d_first_held T C_index_of F_first_held, m_first_held, kp_first_held, bd_first_held⟩
  have C_moved : Cal nm l.prog w K mg base 1 "moved" ["held", "moves", "frame"] f_moved := ⟨_, fd_moved, d_moved T F_moved, m_moved, kp_moved, bd_moved⟩
  have C_is_handed : Cal nm l.prog w K mg base 2 "is_handed" ["row", "group", "held", "frame"] f_is_handed := ⟨_, fd_is_handed, d_is_handed T C_moved C_makes F_is_handed, m_is_handed, kp_is_handed, bd_is_handed⟩
  have C_renamed : Cal nm l.prog w K mg base 1 "renamed" ["some", "goal", "source"] f_renamed := ⟨_, fd_renamed, d_renamed T F_renamed, m_renamed, kp_renamed, bd_renamed⟩
  have C_held_behind : Cal nm l.prog w K mg base 3 "held_behind" ["row", "group", "held", "frame"] f_held_behind := ⟨_, fd_held_behind, d_held_behind T C_is_handed C_moved C_renamed C_makes F_held_behind, m_held_behind, kp_held_behind, bd_held_behind⟩
  have C_behind_row : Cal nm l.prog w K mg base 1 "behind_row" ["program", "number", "later"] f_behind_row := ⟨_, fd_behind_row, d_behind_row T F_behind_row, m_behind_row, kp_behind_row, bd_behind_row⟩
  have C_checked_by : Cal nm l.prog w K mg base 4 "checked_by" ["program", "frame", "choice"] f_checked_by := ⟨_, fd_checked_by, d_checked_by T C_first_held C_is_handed C_held_behind C_behind_row F_checked_by, m_checked_by, kp_checked_by, bd_checked_by⟩
  have C_checked : Cal nm l.prog w K mg base 6 "checked" ["program", "frame", "choice"] f_checked := ⟨_, fd_checked, d_checked T C_need_program C_need_frame C_need_choice C_checked_by F_checked, m_checked, kp_checked, bd_checked⟩
  have C_need_given : Cal nm l.prog w K mg base 2 "need_given" ["program", "given"] f_need_given := ⟨_, fd_need_given, d_need_given T C_is_number F_need_given, m_need_given, kp_need_given, bd_need_given⟩
  have C_need_fuel : Cal nm l.prog w K mg base 2 "need_fuel" ["fuel"] f_need_fuel := ⟨_, fd_need_fuel, d_need_fuel T C_is_number F_need_fuel, m_need_fuel, kp_need_fuel, bd_need_fuel⟩
  have C_Run___init__ : CalI nm l.prog w K mg base 1 C_Run ["self", "rows"] f_Run___init__ := ⟨_, fd_Run___init__, d_Run___init__ T F_Run___init__, ⟨mk_Run, m_Run___init__.1, m_Run___init__.2, kc_Run⟩, bd_Run___init__⟩
  have C_Run_is_over : CalM nm l.prog w K mg base 1 C_Run "is_over" ["self"] f_Run_is_over := ⟨_, fd_Run_is_over, d_Run_is_over T F_Run_is_over, m_Run_is_over, bd_Run_is_over⟩
  have C_called : Cal nm l.prog w K mg base 1 "called" ["number"] f_called := ⟨_, fd_called, d_called T F_called, m_called, kp_called, bd_called⟩
  have C_reckoned : Cal nm l.prog w K mg base 1 "reckoned" ["word", "one", "other"] f_reckoned := ⟨_, fd_reckoned, d_reckoned T F_reckoned, m_reckoned, kp_reckoned, bd_reckoned⟩
  have C_told_by : Cal nm l.prog w K mg base 2 "told_by" ["row", "some"] f_told_by := ⟨_, fd_told_by, d_told_by T C_called C_reckoned F_told_by, m_told_by, kp_told_by, bd_told_by⟩
  have C_Run_go : CalM nm l.prog w K mg base 1 C_Run "go" ["self", "some"] f_Run_go := ⟨_, fd_Run_go, d_Run_go T F_Run_go, m_Run_go, bd_Run_go⟩
  have C_Run_told : CalM nm l.prog w K mg base 2 C_Run "told" ["self"] f_Run_told := ⟨_, fd_Run_told, d_Run_told T C_Run_is_over F_Run_told, m_Run_told, bd_Run_told⟩
  have C_run : Cal nm l.prog w K mg base 4 "run" ["program", "given", "fuel"] f_run := ⟨_, fd_run, d_run T C_need_program C_need_given C_need_fuel C_Run___init__ C_Run_is_over C_makes C_told_by C_Run_go C_Run_told F_run, m_run, kp_run, bd_run⟩
  have C_Junk___init__ : CalI nm l.prog w K mg base 1 C_Junk ["self", "numbers"] f_Junk___init__ := ⟨_, fd_Junk___init__, d_Junk___init__ T F_Junk___init__, ⟨mk_Junk, m_Junk___init__.1, m_Junk___init__.2, kc_Junk⟩, bd_Junk___init__⟩
  have C_Junk_next_one : CalM nm l.prog w K mg base 1 C_Junk "next_one" ["self"] f_Junk_next_one := ⟨_, fd_Junk_next_one, d_Junk_next_one T F_Junk_next_one, m_Junk_next_one, bd_Junk_next_one⟩
  have C_run_boxes : Cal nm l.prog w K mg base 6 "run_boxes" ["program", "frame", "choice", "given", "fuel", "junk"] f_run_boxes := ⟨_, fd_run_boxes, d_run_boxes T C_need_program C_need_frame C_need_choice C_need_given C_need_fuel C_is_number C_Junk___init__ C_Junk_next_one C_index_of C_Run___init__ C_Run_is_over C_moved C_makes C_told_by C_Run_go C_Run_told F_run_boxes, m_run_boxes, kp_run_boxes, bd_run_boxes⟩
  exact d_law T C__law_begun C__law_program C__law_take C__law_frame C_made C__law_alike C__law_groups C_checked C_run C_run_boxes (fun_mk (st := s_law) l_law c_law k_law)
end Gk14
open PySem PySem.W PyProof.Rows
set_option maxRecDepth 100003 in
set_option maxHeartbeats 0 in
theorem PySem.Challenge.cw_boxwitness_k14_whole_made_is_let_by_holds : PySem.Challenge.rw_boxwitness_k14_whole_made_is_let_by.Holds := by
  w_on; o_law; k_head; (case hw => w_witness2)
  k_fill
  refine PF.walk_pf (l := PySem.Challenge.rw_boxwitness_k14_whole_made_is_let_by) (k := 14) (nm := Gk14.nm) (f := PG.f_law_v9) (x := "_law_script") (n := 63) rfl (by decide) rfl ⟨rfl, by decide, by decide⟩ (fun w h Y => PySem.W.kIn_of Y) (fun w => by kernel_rfl) ?F Gk14.law_holds
  case F =>
    intro w mg fa h KX G hmg
    refine' Gk14.all_mk KX G hmg ?a_Run ?pg_Run ?hd_Run ?po_Run ?sa_Run ?mk_Run ?kc_Run ?n0_Run ?n1_Run ?n2_Run ?n3_Run ?n4_Run ?n5_Run ?n6_Run ?n7_Run ?n8_Run ?a_Junk ?pg_Junk ?hd_Junk ?po_Junk ?sa_Junk ?mk_Junk ?kc_Junk ?n0_Junk ?n1_Junk ?n2_Junk ?n3_Junk ?n4_Junk ?n5_Junk ?n6_Junk ?n7_Junk ?n8_Junk ?b_bool ?b_enumerate ?b_int ?b_isinstance ?b_len ?b_list ?b_min ?b_range ?b_set ?b_sorted ?b_str ?b_tuple ?b_zip ?c_BOX ?c_CALL ?c_COPY ?c_END ?c_GO ?c_GOAL ?c_IF ?c_LONG ?l_LONG ?z_LONG ?s_LONG ?c_MOST_BOXES ?c_MOST_FUEL ?c_MOST_MOVES ?c_MOST_NAMES ?c_MOST_ROWS ?c_MOST_SLOTS ?c_MOVES ?l_MOVES ?lo_MOVES ?kl_MOVES ?te_MOVES ?c_OVER ?l_OVER ?z_OVER ?s_OVER ?c_PUT ?c_RING ?c_SAY ?c_SHAPES ?l_SHAPES ?lo_SHAPES ?kl_SHAPES ?te_SHAPES ?c_SLOT ?a__law_begun ?l__law_begun ?c__law_begun ?k__law_begun ?a__law_take ?l__law_take ?c__law_take ?k__law_take ?a__law_row ?l__law_row ?c__law_row ?k__law_row ?a__law_program ?l__law_program ?c__law_program ?k__law_program ?a__law_frame ?l__law_frame ?c__law_frame ?k__law_frame ?a_is_number ?l_is_number ?c_is_number ?k_is_number ?a_is_row ?l_is_row ?c_is_row ?k_is_row ?a_need_program ?l_need_program ?c_need_program ?k_need_program ?a_need_frame ?l_need_frame ?c_need_frame ?k_need_frame ?a_names_of ?l_names_of ?c_names_of ?k_names_of ?a_makes ?l_makes ?c_makes ?k_makes ?a_group_of ?l_group_of ?c_group_of ?k_group_of ?a_made ?l_made ?c_made ?k_made ?a__law_alike ?l__law_alike ?c__law_alike ?k__law_alike ?a__law_groups ?l__law_groups ?c__law_groups ?k__law_groups ?a_is_place ?l_is_place ?c_is_place ?k_is_place ?a_is_move ?l_is_move ?c_is_move ?k_is_move ?a_are_moves ?l_are_moves ?c_are_moves ?k_are_moves ?a_is_group ?l_is_group ?c_is_group ?k_is_group ?a_need_choice ?l_need_choice ?c_need_choice ?k_need_choice ?a_index_of ?l_index_of ?c_index_of ?k_index_of ?a_first_held ?l_first_held ?c_first_held ?k_first_held ?a_moved ?l_moved ?c_moved ?k_moved ?a_is_handed ?l_is_handed ?c_is_handed ?k_is_handed ?a_renamed ?l_renamed ?c_renamed ?k_renamed ?a_held_behind ?l_held_behind ?c_held_behind ?k_held_behind ?a_behind_row ?l_behind_row ?c_behind_row ?k_behind_row ?a_checked_by ?l_checked_by ?c_checked_by ?k_checked_by ?a_checked ?l_checked ?c_checked ?k_checked ?a_need_given ?l_need_given ?c_need_given ?k_need_given ?a_need_fuel ?l_need_fuel ?c_need_fuel ?k_need_fuel ?a_Run___init__ ?i_Run___init__ ?l_Run___init__ ?c_Run___init__ ?k_Run___init__ ?a_Run_is_over ?i_Run_is_over ?l_Run_is_over ?c_Run_is_over ?k_Run_is_over ?a_called ?l_called ?c_called ?k_called ?a_reckoned ?l_reckoned ?c_reckoned ?k_reckoned ?a_told_by ?l_told_by ?c_told_by ?k_told_by ?a_Run_go ?i_Run_go ?l_Run_go ?c_Run_go ?k_Run_go ?a_Run_told ?i_Run_told ?l_Run_told ?c_Run_told ?k_Run_told ?a_run ?l_run ?c_run ?k_run ?a_Junk___init__ ?i_Junk___init__ ?l_Junk___init__ ?c_Junk___init__ ?k_Junk___init__ ?a_Junk_next_one ?i_Junk_next_one ?l_Junk_next_one ?c_Junk_next_one ?k_Junk_next_one ?a_run_boxes ?l_run_boxes ?c_run_boxes ?k_run_boxes ?a_law ?l_law ?c_law ?k_law
    (case a_Run => k_is)
    (case pg_Run => k_is)
    (case hd_Run => k_is)
    (case po_Run => k_is)
    (case sa_Run => k_is)
    (case mk_Run => k_is)
    (case kc_Run => k_is)
    (case n0_Run => k_is)
    (case n1_Run => k_is)
    (case n2_Run => k_is)
    (case n3_Run => k_is)
    (case n4_Run => k_is)
    (case n5_Run => k_is)
    (case n6_Run => k_is)
    (case n7_Run => k_is)
    (case n8_Run => k_is)
    (case a_Junk => k_is)
    (case pg_Junk => k_is)
    (case hd_Junk => k_is)
    (case po_Junk => k_is)
    (case sa_Junk => k_is)
    (case mk_Junk => k_is)
    (case kc_Junk => k_is)
    (case n0_Junk => k_is)
    (case n1_Junk => k_is)
    (case n2_Junk => k_is)
    (case n3_Junk => k_is)
    (case n4_Junk => k_is)
    (case n5_Junk => k_is)
    (case n6_Junk => k_is)
    (case n7_Junk => k_is)
    (case n8_Junk => k_is)
    (case b_bool => k_is)
    (case b_enumerate => k_is)
    (case b_int => k_is)
    (case b_isinstance => k_is)
    (case b_len => k_is)
    (case b_list => k_is)
    (case b_min => k_is)
    (case b_range => k_is)
    (case b_set => k_is)
    (case b_sorted => k_is)
    (case b_str => k_is)
    (case b_tuple => k_is)
    (case b_zip => k_is)
    (case c_BOX => k_is)
    (case c_CALL => k_is)
    (case c_COPY => k_is)
    (case c_END => k_is)
    (case c_GO => k_is)
    (case c_GOAL => k_is)
    (case c_IF => k_is)
    (case c_LONG => k_is)
    (case l_LONG => k_is)
    (case z_LONG => decide)
    (case s_LONG => repeat (first | rfl | refine ⟨_, _, rfl, ?_⟩))
    (case c_MOST_BOXES => k_is)
    (case c_MOST_FUEL => k_is)
    (case c_MOST_MOVES => k_is)
    (case c_MOST_NAMES => k_is)
    (case c_MOST_ROWS => k_is)
    (case c_MOST_SLOTS => k_is)
    (case c_MOVES => k_is)
    (case l_MOVES => k_is)
    (case lo_MOVES => rfl)
    (case kl_MOVES => repeat (first | exact trivial | refine ⟨⟨_, _, rfl, rfl⟩, ?_⟩))
    (case te_MOVES => repeat (first | rfl | refine ⟨_, _, _, _, _, _, rfl, rfl, rfl, rfl, ?_⟩))
    (case c_OVER => k_is)
    (case l_OVER => k_is)
    (case z_OVER => decide)
    (case s_OVER => repeat (first | rfl | refine ⟨_, _, rfl, ?_⟩))
    (case c_PUT => k_is)
    (case c_RING => k_is)
    (case c_SAY => k_is)
    (case c_SHAPES => k_is)
    (case l_SHAPES => k_is)
    (case lo_SHAPES => rfl)
    (case kl_SHAPES => repeat (first | exact trivial | refine ⟨⟨_, _, rfl, rfl⟩, ?_⟩))
    (case te_SHAPES => repeat (first | rfl | refine ⟨_, _, _, _, _, _, rfl, rfl, rfl, rfl, ?_⟩))
    (case c_SLOT => k_is)
    (case a__law_begun => k_is)
    (case l__law_begun => k_is)
    (case c__law_begun => k_is)
    (case k__law_begun => k_is)
    (case a__law_take => k_is)
    (case l__law_take => k_is)
    (case c__law_take => k_is)
    (case k__law_take => k_is)
    (case a__law_row => k_is)
    (case l__law_row => k_is)
    (case c__law_row => k_is)
    (case k__law_row => k_is)
    (case a__law_program => k_is)
    (case l__law_program => k_is)
    (case c__law_program => k_is)
    (case k__law_program => k_is)
    (case a__law_frame => k_is)
    (case l__law_frame => k_is)
    (case c__law_frame => k_is)
    (case k__law_frame => k_is)
    (case a_is_number => k_is)
    (case l_is_number => k_is)
    (case c_is_number => k_is)
    (case k_is_number => k_is)
    (case a_is_row => k_is)
    (case l_is_row => k_is)
    (case c_is_row => k_is)
    (case k_is_row => k_is)
    (case a_need_program => k_is)
    (case l_need_program => k_is)
    (case c_need_program => k_is)
    (case k_need_program => k_is)
    (case a_need_frame => k_is)
    (case l_need_frame => k_is)
    (case c_need_frame => k_is)
    (case k_need_frame => k_is)
    (case a_names_of => k_is)
    (case l_names_of => k_is)
    (case c_names_of => k_is)
    (case k_names_of => k_is)
    (case a_makes => k_is)
    (case l_makes => k_is)
    (case c_makes => k_is)
    (case k_makes => k_is)
    (case a_group_of => k_is)
    (case l_group_of => k_is)
    (case c_group_of => k_is)
    (case k_group_of => k_is)
    (case a_made => k_is)
    (case l_made => k_is)
    (case c_made => k_is)
    (case k_made => k_is)
    (case a__law_alike => k_is)
    (case l__law_alike => k_is)
    (case c__law_alike => k_is)
    (case k__law_alike => k_is)
    (case a__law_groups => k_is)
    (case l__law_groups => k_is)
    (case c__law_groups => k_is)
    (case k__law_groups => k_is)
    (case a_is_place => k_is)
    (case l_is_place => k_is)
    (case c_is_place => k_is)
    (case k_is_place => k_is)
    (case a_is_move => k_is)
    (case l_is_move => k_is)
    (case c_is_move => k_is)
    (case k_is_move => k_is)
    (case a_are_moves => k_is)
    (case l_are_moves => k_is)
    (case c_are_moves => k_is)
    (case k_are_moves => k_is)
    (case a_is_group => k_is)
    (case l_is_group => k_is)
    (case c_is_group => k_is)
    (case k_is_group => k_is)
    (case a_need_choice => k_is)
    (case l_need_choice => k_is)
    (case c_need_choice => k_is)
    (case k_need_choice => k_is)
    (case a_index_of => k_is)
    (case l_index_of => k_is)
    (case c_index_of => k_is)
    (case k_index_of => k_is)
    (case a_first_held => k_is)
    (case l_first_held => k_is)
    (case c_first_held => k_is)
    (case k_first_held => k_is)
    (case a_moved => k_is)
    (case l_moved => k_is)
    (case c_moved => k_is)
    (case k_moved => k_is)
    (case a_is_handed => k_is)
    (case l_is_handed => k_is)
    (case c_is_handed => k_is)
    (case k_is_handed => k_is)
    (case a_renamed => k_is)
    (case l_renamed => k_is)
    (case c_renamed => k_is)
    (case k_renamed => k_is)
    (case a_held_behind => k_is)
    (case l_held_behind => k_is)
    (case c_held_behind => k_is)
    (case k_held_behind => k_is)
    (case a_behind_row => k_is)
    (case l_behind_row => k_is)
    (case c_behind_row => k_is)
    (case k_behind_row => k_is)
    (case a_checked_by => k_is)
    (case l_checked_by => k_is)
    (case c_checked_by => k_is)
    (case k_checked_by => k_is)
    (case a_checked => k_is)
    (case l_checked => k_is)
    (case c_checked => k_is)
    (case k_checked => k_is)
    (case a_need_given => k_is)
    (case l_need_given => k_is)
    (case c_need_given => k_is)
    (case k_need_given => k_is)
    (case a_need_fuel => k_is)
    (case l_need_fuel => k_is)
    (case c_need_fuel => k_is)
    (case k_need_fuel => k_is)
    (case a_Run___init__ => k_is)
    (case i_Run___init__ => k_is)
    (case l_Run___init__ => k_is)
    (case c_Run___init__ => k_is)
    (case k_Run___init__ => k_is)
    (case a_Run_is_over => k_is)
    (case i_Run_is_over => k_is)
    (case l_Run_is_over => k_is)
    (case c_Run_is_over => k_is)
    (case k_Run_is_over => k_is)
    (case a_called => k_is)
    (case l_called => k_is)
    (case c_called => k_is)
    (case k_called => k_is)
    (case a_reckoned => k_is)
    (case l_reckoned => k_is)
    (case c_reckoned => k_is)
    (case k_reckoned => k_is)
    (case a_told_by => k_is)
    (case l_told_by => k_is)
    (case c_told_by => k_is)
    (case k_told_by => k_is)
    (case a_Run_go => k_is)
    (case i_Run_go => k_is)
    (case l_Run_go => k_is)
    (case c_Run_go => k_is)
    (case k_Run_go => k_is)
    (case a_Run_told => k_is)
    (case i_Run_told => k_is)
    (case l_Run_told => k_is)
    (case c_Run_told => k_is)
    (case k_Run_told => k_is)
    (case a_run => k_is)
    (case l_run => k_is)
    (case c_run => k_is)
    (case k_run => k_is)
    (case a_Junk___init__ => k_is)
    (case i_Junk___init__ => k_is)
    (case l_Junk___init__ => k_is)
    (case c_Junk___init__ => k_is)
    (case k_Junk___init__ => k_is)
    (case a_Junk_next_one => k_is)
    (case i_Junk_next_one => k_is)
    (case l_Junk_next_one => k_is)
    (case c_Junk_next_one => k_is)
    (case k_Junk_next_one => k_is)
    (case a_run_boxes => k_is)
    (case l_run_boxes => k_is)
    (case c_run_boxes => k_is)
    (case k_run_boxes => k_is)
    (case a_law => k_is)
    (case l_law => k_is)
    (case c_law => k_is)
    (case k_law => k_is)
end
