import PyProof.Rows.All
import Wide.All
import OpenK.AllK
import Wide.FinOn
import KE.KStateDown
import HandS.ForMost
import HandS.Exc
import HandS.WordsExc
import HandS.Defaults
import HandS.HeadHook2
import HandS.Lambda
import KE.KDictKeyed
import KE.KDictCopyH
import HandS.TupAny
import HandS.IsInst
import HandS.Style
import KE.LtSeq
import HandS.AnyAll
import HandS.Star
import HandS.Iter
import KE.KDictWalk
import HandS.Zip
import HandS.Rev
import KE.GoesEnum
import HandS.ExcOwn
import HandS.TryMany
import HandS.Comp
import HandS.SortRule
import KE.SortKeyed
import HandS.TupLen
import HandS.ReCall
import HandS.DictComp
import KE.KSortKeySt
import KE.KSortKey
import HandS.SortKw
import KE.KDictSum
import HandS.Keys
import HandS.Codes
import HandS.HeadHook4
import HandS.Ends
import HandS.HeadEnd
import HandS.EndTab
import Lean
import HandS.Base
import HandS.Call
import HandS.More
import HandS.Words
import HandS.Head0
import HandS.Head1
import HandS.Head2
import HandS.HeadHook1
import PySem.Challenge.RW_certainrows_k02_blocks_and_doubts
set_option Elab.async false
set_option linter.all false
set_option maxRecDepth 100000
set_option maxHeartbeats 200000
/-! Core: a small interpreter in plain Lean, for the part of Python that the program and the laws are written in.
Data are pure trees; a list, a dict that may still change is owned by value by the one slot that holds it. -/
namespace Mp
open PySem

/-- data that no one changes any more: the library's -/
abbrev D := PyData
/-- values: data, a list, a dict of one's own, a def, an exception -/
inductive X where
  | d (v : D) | lst (xs : List X) | dic (kvs : List (D × X)) | fn (f : Nat) | exn (c : Nat) (l : List D)

def lim : Nat := 16777216

@[simp] theorem eqv_int (a b : Int) : PyData.eqv (.int a) (.int b) = (a == b) := by rw [PyData.eqv]
@[simp] theorem eqv_str (a b : Str) : PyData.eqv (.str a) (.str b) = (a == b) := by rw [PyData.eqv]
@[simp] theorem eqv_int_str (a : Int) (b : Str) : PyData.eqv (.int a) (.str b) = false := by rw [PyData.eqv]
@[simp] theorem eqv_str_int (a : Str) (b : Int) : PyData.eqv (.str a) (.int b) = false := by rw [PyData.eqv]
@[simp] theorem eqv_tup (a b : List D) : PyData.eqv (.tuple a) (.tuple b) = PyData.eqvAll a b := by rw [PyData.eqv]
@[simp] theorem eqv_lst (a b : List D) : PyData.eqv (.list a) (.list b) = PyData.eqvAll a b := by rw [PyData.eqv]
@[simp] theorem eqvs_nil : PyData.eqvAll [] [] = true := by rw [PyData.eqvAll]
@[simp] theorem eqvs_nc (x : D) (l : List D) : PyData.eqvAll [] (x :: l) = false := by rw [PyData.eqvAll]
@[simp] theorem eqvs_cn (x : D) (l : List D) : PyData.eqvAll (x :: l) [] = false := by rw [PyData.eqvAll]
@[simp] theorem eqvs_cc (x y : D) (l m : List D) : PyData.eqvAll (x :: l) (y :: m) = (PyData.eqv x y && PyData.eqvAll l m) := by rw [PyData.eqvAll]
mutual
/-- <, where Python tells it -/
def ltD : D → D → Option Bool
  | .int i, .int j => some (decide (i < j))
  | .str x, .str y => some (decide (x.cps.toList < y.cps.toList))
  | .tuple a, .tuple b => ltDs a b
  | .list a, .list b => ltDs a b
  | _, _ => none
def ltDs : List D → List D → Option Bool
  | [], [] => some false
  | [], _ :: _ => some true
  | _ :: _, [] => some false
  | x :: xs, y :: ys => if PyData.eqv x y then ltDs xs ys else ltD x y
end
mutual
/-- a value as data -/
@[simp] def dat? : X → Option D
  | .d v => some v
  | .lst xs => (dats? xs).map .list
  | _ => none
@[simp] def dats? : List X → Option (List D)
  | [] => some []
  | x :: r => (dat? x).bind fun v => (dats? r).map (v :: ·)
end
@[simp] theorem dats_d (l : List D) : dats? (l.map X.d) = some l := by
  induction l with
  | nil => rfl
  | cons a r ih => simp [ih]
@[simp] theorem dats_map {α : Type} (f : α → D) (l : List α) : dats? (l.map fun a => X.d (f a)) = some (l.map f) := by
  induction l with
  | nil => rfl
  | cons a r ih => simp [ih]
@[simp] theorem dats_comp {α : Type} (f : α → D) (l : List α) : dats? (l.map (X.d ∘ f)) = some (l.map f) := dats_map f l

/-- an exception: the class (its number), its fields -/
structure Ex where
  cls : Nat
  args : List D

inductive R (σ α : Type) where
  | ok (a : α) (s : σ) | exc (e : Ex) (s : σ) | stuck
def R.bind {σ α β : Type} (r : R σ α) (k : α → σ → R σ β) : R σ β := match r with
  | .ok a s => k a s
  | .exc e s => .exc e s
  | .stuck => .stuck

/-- the slots -/
abbrev S := List (Option X)
/-- what a call hands back: the value, and what is in the arguments that it may change -/
inductive Out where
  | ok (x : X) (ms : List X) | exc (e : Ex) (ms : List X) | stuck
abbrev Calls := Nat → List X → Out
inductive Fl where
  | nx (s : S) | rt (x : X) (s : S) | bk (s : S) | ct (s : S) | exc (e : Ex) (s : S) | stuck

/-! ### the written form -/
inductive U where
  | not_ | neg | len | tuple | list | all_ | any_ | abs | int | repr | sorted | isInt | isBool | isStr | isTup | isList | isDict | isNone | notNone | str | dictOf | values | items | sum | min_ | max_ | keys | set_ | rev
  deriving DecidableEq
inductive B where
  | add | sub | mul | mod | fdiv | pow | eq | ne | lt | le | gt | ge | in_ | notin | ix | zip | min2 | max2 | index | join | split | get1 | is_ | isnot
  deriving DecidableEq
/-- targets -/
inductive Tg where
  | n (i : Nat) | t (l : List Tg)
inductive E where
  | k (v : D)
  /-- a def as a value -/
  | fnv (f : Nat)
  /-- a module's constant, by its number -/
  | gl (i : Nat)
  /-- a slot as a value (what it holds is frozen), a slot looked at, a slot handed on -/
  | v (i : Nat) | p (i : Nat) | mv (i : Nat)
  /-- an item of the list in a slot, looked at -/
  | pp (i : Nat) (c : Int)
  | u (o : U) (a : E)
  | b (o : B) (a c : E)
  | chain (o1 o2 : B) (a b c : E)
  | slice (a : E) (lo hi : Option E)
  | getd (a k e : E)
  /-- a field of an exception in a slot -/
  | exf (i n : Nat)
  | setd (i : Nat) (k e : E)
  /-- a value that is never changed any more -/
  | frz (e : E)
  | popl (i : Nat)
  | and_ (a b : E) | or_ (a b : E)
  /-- a value as a test -/
  | tr (e : E)
  | ite (c a b : E)
  | tup (es : List E) | lst (es : List E) | star (e : E)
  | dict0
  | call (f : Nat) (es : List E)
  /-- a slot that the callee may change -/
  | mu (i : Nat)
  | callv (i : Nat) (es : List E)
  | enum (a : E)
  | range (a : E)
  | srtk (a : E) (j : Nat) (e : E)
  | srtf (a : E) (f : Nat)
  | lc (own : List Nat) (e : E) (tg : Tg) (it : E) (ifs : List E)
  | lc2 (own own2 : List Nat) (e : E) (tg : Tg) (it : E) (ifs : List E) (tg2 : Tg) (it2 : E) (ifs2 : List E)
  | dc (own : List Nat) (k e : E) (tg : Tg) (it : E) (ifs : List E)
  | dc2 (own own2 : List Nat) (k e : E) (tg : Tg) (it : E) (ifs : List E) (tg2 : Tg) (it2 : E) (ifs2 : List E)

mutual
inductive St where
  | set (tg : Tg) (e : E)
  | par (tgs : List Nat) (es : List E)
  | aug (i : Nat) (o : B) (e : E)
  | setix (i : Nat) (k e : E)
  | augix (i : Nat) (k : E) (o : B) (e : E)
  | app (i : Nat) (e : E) | ext (i : Nat) (e : E) | ins (i : Nat) (k e : E) | upd (i : Nat) (e : E)
  | setdapp (i : Nat) (k e : E)
  | appix (i : Nat) (k e : E) | extix (i : Nat) (k e : E)
  | ex (e : E)
  | if_ (c : E) (a b : List St)
  | for_ (kill : List Nat) (tg : Tg) (it : E) (body : List St)
  | while_ (kill : List Nat) (c : E) (body : List St)
  | ret (e : E) | retN
  | raise (cls : Nat) (es : List E)
  | try_ (body : List St) (hs : List Hn)
  | brk | cont | pass
/-- an except clause: the classes, its name's slot, its suite -/
inductive Hn where
  | mk (cs : List Nat) (as : Option Nat) (body : List St)
end

structure Fd where
  /-- how many parameters, slots; the parameters that may be changed; the body -/
  ps : Nat
  ns : Nat
  mu : List Nat
  body : List St

/-! ### what the operations give -/
def ixOf (n : Nat) (i : Int) : Option Nat := if 0 ≤ i then (if i < n then some i.toNat else none) else if -(n : Int) ≤ i then some (i + n).toNat else none
def sIx (n d : Nat) (i : Option Int) : Nat := match i with
  | none => d
  | some i => if i < 0 then (i + n).toNat else min i.toNat n
def cut {α : Type} (xs : List α) (lo hi : Option Int) : List α := (xs.drop (sIx xs.length 0 lo)).take (sIx xs.length xs.length hi - sIx xs.length 0 lo)

@[simp] def truth : X → Option Bool
  | .d (.bool b) => some b
  | .d .none => some false
  | .d (.int i) => some (i != 0)
  | .d (.str s) => some (s.cps.size != 0)
  | .d (.tuple l) => some (!l.isEmpty)
  | .d (.list l) => some (!l.isEmpty)
  | .lst l => some (!l.isEmpty)
  | _ => none
/-- what a loop goes through (frozen); a dict's keys -/
@[simp] def itemsD : X → Option (List D)
  | .d (.tuple l) => some l
  | .d (.list l) => some l
  | .d (.str s) => some (s.cps.toList.map fun c => .str ⟨#[c]⟩)
  | .lst xs => dats? xs
  | .dic l => some (l.map fun p => p.1)
  | _ => none
/-- the data of a list, of a tuple -/
@[simp] def seqD : X → Option (List D)
  | .d (.tuple l) => some l
  | .d (.list l) => some l
  | .lst xs => dats? xs
  | _ => none
@[simp] def items (x : X) : Option (List X) := (itemsD x).map fun l => l.map X.d
/-- the data of a list, where all are data -/
@[simp] def datas : List X → Option (List D)
  | [] => some []
  | .d v :: r => (datas r).map (v :: ·)
  | _ :: _ => none
@[simp] theorem datas_d (l : List D) : datas (l.map X.d) = some l := by
  induction l with
  | nil => rfl
  | cons a r ih => simp only [List.map_cons, datas, ih, Option.map_some]
@[simp] theorem datas_map {α : Type} (f : α → D) (l : List α) : datas (l.map fun a => X.d (f a)) = some (l.map f) := by
  induction l with
  | nil => rfl
  | cons a r ih => simp only [List.map_cons, datas, ih, Option.map_some]
def lookD {β : Type} (k : D) : List (D × β) → Option β
  | [] => none
  | (j, x) :: r => if PyData.eqv j k then some x else lookD k r
def putD {β : Type} (k : D) (x : β) : List (D × β) → List (D × β)
  | [] => [(k, x)]
  | (j, y) :: r => if PyData.eqv j k then (j, x) :: r else (j, y) :: putD k x r
def hasD (k : D) (l : List D) : Bool := l.any fun j => PyData.eqv j k

mutual
def okLeaves : List D → Bool
  | [] => true
  | x :: r => okLeaf x && okLeaves r
def okLeaf : D → Bool
  | .int _ => true
  | .str _ => true
  | .none => true
  | .tuple l => okLeaves l
  | _ => false
end
/-- the kind of a key: a leaf, a tuple -/
def kindK : D → Option Bool
  | .tuple l => if okLeaves l = true ∧ PyData.depth (.tuple l) ≤ 8 then some false else none
  | _ => none
/-- k may be a key beside these -/
def okIn {β : Type} (k : D) : List (D × β) → Bool
  | [] => (kindK k).isSome
  | (j, _) :: _ => (kindK k).isSome && (kindK k == kindK j)

def pairs2 : List D → List D → List D
  | x :: xs, y :: ys => .tuple [x, y] :: pairs2 xs ys
  | _, _ => []
def numbered : Nat → List D → List D
  | _, [] => []
  | n, x :: r => .tuple [.int n, x] :: numbered (n + 1) r
def deep (a b : D) : Bool := decide (min (PyData.depth a) (PyData.depth b) ≤ 64)
def deepL (x : D) (l : List D) : Bool := decide (min (PyData.depthAll l) (PyData.depth x) ≤ 64)
/-- the place of the first one that is equal -/
def indexD (x : D) : List D → Option Nat
  | [] => none
  | y :: r => if PyData.eqv y x then some 0 else (indexD x r).map (· + 1)
/-- insertion from the right, each before its equals -/
def ins {α : Type} (lt : α → α → Bool) (x : α) : List α → List α
  | [] => [x]
  | y :: r => if lt y x then y :: ins lt x r else x :: y :: r
def isort {α : Type} (lt : α → α → Bool) : List α → List α
  | [] => []
  | x :: r => ins lt x (isort lt r)
/-- < of two data -/
def ltB (a b : D) : Bool := (ltD a b).getD false
def rk : D → Nat
  | .int _ => 1 | .str _ => 2 | .tuple _ => 3 | .list _ => 4 | _ => 0
mutual
/-- numbers, texts, None, tuples and lists of these -/
def plain : D → Bool
  | .int _ => true
  | .str _ => true
  | .none => true
  | .tuple l => plains l
  | .list l => plains l
  | _ => false
def plains : List D → Bool
  | [] => true
  | x :: r => plain x && plains r
end
/-- the keys that can be sorted here -/
structure SrtOk (ks : List D) : Prop where
  pl : ∀ a, a ∈ ks → plain a = true
  dp : ∀ a, a ∈ ks → a.depth ≤ 60
  cm : ∀ a, a ∈ ks → ∀ b, b ∈ ks → (ltD a b).isSome = true
  kd : (∀ a, a ∈ ks → rk a = 1) ∨ (∀ a, a ∈ ks → rk a = 2) ∨ (∀ a, a ∈ ks → ∃ x r, a = .tuple (x :: r)) ∨ (∀ a, a ∈ ks → rk a = 4)
def sortKeyed (ks : List (D × D)) : List D := (isort (fun p q => ltB p.1 q.1) ks).map (·.2)
open Classical in
/-- the items by their keys; one alone is not compared -/
noncomputable def sortedK (l : List (D × D)) : Option X := if l.length < 2 ∨ SrtOk (l.map (·.1)) then some (.lst ((sortKeyed l).map X.d)) else none
/-- what sorted takes up -/
@[simp] def srtIn : X → Option (List D)
  | .d (.tuple l) => some l
  | .d (.list l) => some l
  | .lst xs => datas xs
  | .dic l => some (l.map (·.1))
  | _ => none
def pairsOf : List D → Option (List (D × D))
  | [] => some []
  | .tuple [a, b] :: r => (pairsOf r).map ((a, b) :: ·)
  | _ => none
/-- the pairs put in, where each key may be put -/
def putAllOk {β : Type} : List (D × β) → List (D × β) → Option (List (D × β))
  | acc, [] => some acc
  | acc, (k, x) :: r => if okIn k acc then putAllOk (putD k x acc) r else none
def putAll {β : Type} : List (D × β) → List (D × β) → List (D × β)
  | acc, [] => acc
  | acc, (k, x) :: r => putAll (putD k x acc) r

/-- what repr shows -/
noncomputable def shown (p : D) : Option Str := if p.showable = true ∧ p.shown.length ≤ lim ∧ p.depth ≤ 63 ∧ PyData.strOk p.shown = true then some p.shown else none
@[simp] def uNot (x : X) : Option X := (truth x).map fun b => .d (.bool !b)
@[simp] def uNeg : X → Option X
  | .d (.int i) => some (.d (.int (-i)))
  | _ => none
@[simp] def uLen : X → Option X
  | .d (.tuple l) => some (.d (.int l.length))
  | .d (.list l) => some (.d (.int l.length))
  | .d (.str z) => some (.d (.int z.cps.size))
  | .lst l => some (.d (.int l.length))
  | .dic l => some (.d (.int l.length))
  | _ => none
@[simp] def uTuple : X → Option X
  | .d (.tuple l) => some (.d (.tuple l))
  | .d (.list l) => some (.d (.tuple l))
  | .lst l => (datas l).map fun vs => .d (.tuple vs)
  | _ => none
@[simp] def uList : X → Option X
  | .d (.tuple l) => some (.lst (l.map X.d))
  | .d (.list l) => some (.lst (l.map X.d))
  | .lst l => (datas l).map fun l => .lst (l.map X.d)
  | _ => none
@[simp] def boolX : X → Option Bool
  | .d (.bool b) => some b
  | _ => none
@[simp] def truths : List X → Option (List Bool)
  | [] => some []
  | x :: r => (boolX x).bind fun b => (truths r).map (b :: ·)
@[simp] theorem truths_map {α : Type} (f : α → Bool) (l : List α) : truths (l.map fun a => X.d (.bool (f a))) = some (l.map f) := by
  induction l with
  | nil => rfl
  | cons a r ih => simp [ih]
/-- a list's items -/
@[simp] def lsX : X → Option (List X)
  | .d (.list l) => some (l.map X.d)
  | .lst xs => some xs
  | _ => none
@[simp] def uAll (x : X) : Option X := (lsX x).bind fun l => (truths l).map fun bs => .d (.bool (bs.all id))
@[simp] def uAny (x : X) : Option X := (lsX x).bind fun l => (truths l).map fun bs => .d (.bool (bs.any id))
@[simp] def uAbs : X → Option X
  | .d (.int i) => some (.d (.int (if i < 0 then -i else i)))
  | _ => none
@[simp] def uInt : X → Option X
  | .d (.int i) => some (.d (.int i))
  | .d (.bool b) => some (.d (.int (if b then 1 else 0)))
  | _ => none
noncomputable def uSorted (x : X) : Option X := (srtIn x).bind fun ds => sortedK (ds.map fun a => (a, a))
/-- the kind of a value: what isinstance tells of it -/
inductive Ki where
  | non | bl | int | str | tup | lst | dic
  deriving DecidableEq
@[simp] def kindD : D → Ki
  | .none => .non | .bool _ => .bl | .int _ => .int | .str _ => .str | .tuple _ => .tup | .list _ => .lst | .dict _ => .dic
@[simp] def kind : X → Option Ki
  | .d v => some (kindD v)
  | .lst _ => some .lst
  | _ => none
@[simp] def isKInt : Ki → Bool
  | .int => true
  | .bl => true
  | _ => false
@[simp] def isKBool : Ki → Bool
  | .bl => true
  | _ => false
@[simp] def isKStr : Ki → Bool
  | .str => true
  | _ => false
@[simp] def isKTup : Ki → Bool
  | .tup => true
  | _ => false
@[simp] def isKLst : Ki → Bool
  | .lst => true
  | _ => false
@[simp] def isKDic : Ki → Bool
  | .dic => true
  | _ => false
@[simp] def uIs (p : Ki → Bool) (x : X) : Option X := (kind x).map fun k => .d (.bool (p k))
@[simp] def isNonX : X → Bool
  | .d .none => true
  | _ => false
@[simp] def uValues : X → Option X
  | .dic l => (dats? (l.map (·.2))).map fun ds => .lst (ds.map X.d)
  | _ => none
@[simp] def uItems : X → Option X
  | .dic l => (dats? (l.map (·.2))).map fun ds => .lst ((pairs2 (l.map (·.1)) ds).map X.d)
  | _ => none
@[simp] def uKeys : X → Option X
  | .dic l => some (.lst (l.map fun p => X.d p.1))
  | _ => none
@[simp] def uDict : X → Option X
  | x => (items x).bind fun l => (datas l).bind fun ds => (pairsOf ds).bind fun ps => (putAllOk [] (ps.map fun p => (p.1, X.d p.2))).map X.dic
@[simp] def uRev : X → Option X
  | .d (.tuple l) => some (.d (.tuple l.reverse))
  | .d (.list l) => some (.lst (l.reverse.map X.d))
  | .lst l => (datas l).map fun l => .lst (l.reverse.map X.d)
  | _ => none
def intsD : List D → Option (List Int)
  | [] => some []
  | .int i :: r => (intsD r).map (i :: ·)
  | _ => none
@[simp] def uSum (x : X) : Option X := (items x).bind fun l => (datas l).bind fun ds => (intsD ds).map fun is => .d (.int is.sum)
noncomputable def uRepr (x : X) : Option X := ((dat? x).bind shown).map fun z => .d (.str z)
/-- one operand -/
@[simp] noncomputable def uop (o : U) (x : X) : Option X := match o with
  | .not_ => uNot x
  | .neg => uNeg x
  | .len => uLen x
  | .tuple => uTuple x
  | .list => uList x
  | .all_ => uAll x
  | .any_ => uAny x
  | .abs => uAbs x
  | .int => uInt x
  | .sorted => uSorted x
  | .isInt => uIs isKInt x
  | .isBool => uIs isKBool x
  | .isStr => uIs isKStr x
  | .isTup => uIs isKTup x
  | .isList => uIs isKLst x
  | .isDict => uIs isKDic x
  | .isNone => some (.d (.bool (isNonX x)))
  | .notNone => some (.d (.bool (!isNonX x)))
  | .values => uValues x
  | .items => uItems x
  | .keys => uKeys x
  | .dictOf => uDict x
  | .rev => uRev x
  | .sum => uSum x
  | .repr => uRepr x
  | _ => none
def mulOk (i j : Int) : Bool := decide (i.natAbs < 2 ^ 64) || decide (j.natAbs < 2 ^ 64)
/-- the data of a list -/
@[simp] def isl : X → Option (List D)
  | .d (.list l) => some l
  | .lst l => datas l
  | _ => none
@[simp] def bAdd : X → X → Option X
  | .d (.int i), .d (.int j) => some (.d (.int (i + j)))
  | .d (.str a), .d (.str b) => if a.length + b.length ≤ lim then some (.d (.str (a ++ b))) else none
  | .d (.tuple a), .d (.tuple b) => if a.length + b.length ≤ lim then some (.d (.tuple (a ++ b))) else none
  | x, y => (isl x).bind fun a => (isl y).bind fun b => if a.length + b.length ≤ lim then some (.lst ((a ++ b).map X.d)) else none
@[simp] def bSub : X → X → Option X
  | .d (.int i), .d (.int j) => some (.d (.int (i - j)))
  | _, _ => none
@[simp] def bMul : X → X → Option X
  | .d (.int i), .d (.int j) => if mulOk i j then some (.d (.int (i * j))) else none
  | _, _ => none
@[simp] def bMod : X → X → Option X
  | .d (.int i), .d (.int j) => if 0 < j then some (.d (.int (i % j))) else none
  | _, _ => none
@[simp] def bDiv : X → X → Option X
  | .d (.int i), .d (.int j) => if 0 < j ∧ j < 1073741824 then some (.d (.int (i / j))) else none
  | _, _ => none
@[simp] def bPow : X → X → Option X
  | .d (.int i), .d (.int j) => if 0 ≤ j ∧ j ≤ 1000000 ∧ i.natAbs < 2 ^ 64 then some (.d (.int (i ^ j.toNat))) else none
  | _, _ => none
@[simp] def bEq (x y : X) : Option Bool := (dat? x).bind fun a => (dat? y).bind fun b => if deep a b then some (PyData.eqv a b) else none
@[simp] def bLt (x y : X) : Option Bool := (dat? x).bind fun a => (dat? y).bind fun b => if deep a b then ltD a b else none
@[simp] def bGt : X → X → Option Bool
  | .d (.int i), .d (.int j) => some (decide (j < i))
  | .d (.str a), .d (.str b) => some (decide (b.cps.toList < a.cps.toList))
  | _, _ => none
@[simp] def bLe : X → X → Option Bool
  | .d (.int i), .d (.int j) => some (decide (i ≤ j))
  | _, _ => none
@[simp] def inSeq (x : D) (l : List D) : Option Bool := if deepL x l then some (hasD x l) else none
@[simp] def inDic (l : List (D × X)) (k : D) : Option Bool := if okIn k l then some (lookD k l).isSome else none
@[simp] def inStr (z : Str) : X → Option Bool
  | .d (.str c) => if c.cps.size = 1 then some (z.cps.toList.contains (c.cps.getD 0 0)) else none
  | _ => none
@[simp] def bIn (x : X) : X → Option Bool
  | .d (.tuple l) => (dat? x).bind fun v => inSeq v l
  | .d (.list l) => (dat? x).bind fun v => inSeq v l
  | .lst l => (dats? l).bind fun l => (dat? x).bind fun v => inSeq v l
  | .dic l => (dat? x).bind (inDic l)
  | .d (.str z) => inStr z x
  | _ => none
@[simp] def dataX : X → Option X
  | .d v => some (.d v)
  | _ => none
@[simp] def bIx : X → X → Option X
  | .d (.tuple l), .d (.int i) => (ixOf l.length i).bind fun j => l[j]?.map X.d
  | .d (.list l), .d (.int i) => (ixOf l.length i).bind fun j => l[j]?.map X.d
  | .lst l, .d (.int i) => (ixOf l.length i).bind fun j => l[j]?.bind dataX
  | .d (.str z), .d (.int i) => (ixOf z.cps.size i).bind fun j => z.cps.toList[j]?.map fun c => .d (.str ⟨#[c]⟩)
  | .dic l, .d k => if okIn k l then (lookD k l).bind dataX else none
  | _, _ => none
/-- the data of a list (frozen) -/
@[simp] def lsD : X → Option (List D)
  | .d (.list l) => some l
  | .lst xs => dats? xs
  | _ => none
@[simp] def tupD : X → Option (List D)
  | .d (.tuple l) => some l
  | _ => none
@[simp] def zip2 (a b : List D) : X := .lst ((pairs2 a b).map X.d)
/-- two lists, or two tuples -/
@[simp] def bZip (x y : X) : Option X := match tupD x, tupD y with
  | some a, some b => some (zip2 a b)
  | _, _ => (lsD x).bind fun a => (lsD y).map (zip2 a)
@[simp] def bIndex : X → X → Option X
  | x, .d v => (isl x).bind fun l => if deepL v l then (indexD v l).map fun n => .d (.int n) else none
  | _, _ => none
@[simp] def bMin2 : X → X → Option X
  | .d (.int i), .d (.int j) => some (.d (.int (if j < i then j else i)))
  | _, _ => none
@[simp] def bMax2 : X → X → Option X
  | .d (.int i), .d (.int j) => some (.d (.int (if j > i then j else i)))
  | _, _ => none
@[simp] def asBl (o : Option Bool) : Option X := o.map fun b => .d (.bool b)
/-- two operands -/
@[simp] def bop (o : B) (x y : X) : Option X := match o with
  | .add => bAdd x y
  | .sub => bSub x y
  | .mul => bMul x y
  | .mod => bMod x y
  | .fdiv => bDiv x y
  | .pow => bPow x y
  | .eq => asBl (bEq x y)
  | .ne => asBl ((bEq x y).map not)
  | .lt => asBl (bLt x y)
  | .le => asBl (bLe x y)
  | .gt => asBl (bGt x y)
  | .ge => asBl (bLe y x)
  | .in_ => asBl (bIn x y)
  | .notin => asBl ((bIn x y).map not)
  | .ix => bIx x y
  | .zip => bZip x y
  | .index => bIndex x y
  | .min2 => bMin2 x y
  | .max2 => bMax2 x y
  | _ => none

@[simp] def sliceOf (lo hi : Option Int) : X → Option X
  | .d (.tuple l) => some (.d (.tuple (cut l lo hi)))
  | .d (.list l) => some (.lst ((cut l lo hi).map X.d))
  | .lst l => (datas l).map fun l => .lst ((cut l lo hi).map X.d)
  | .d (.str z) => some (.d (.str ⟨(cut z.cps.toList lo hi).toArray⟩))
  | _ => none

/-! ### the run -/
def ofO {α : Type} (o : Option α) (s : S) : R S α := match o with
  | some a => .ok a s
  | none => .stuck
@[simp] def peek (i : Nat) (s : S) : R S X := match s[i]? with
  | some (some x) => .ok x s
  | _ => .stuck
@[simp] def peekAt (i : Nat) (c : Int) (s : S) : R S X := match s[i]? with
  | some (some (.lst l)) => ofO ((ixOf l.length c).bind fun j => l[j]?) s
  | _ => .stuck
@[simp] def frzAt (i : Nat) (s : S) : Option D → R S X
  | some v => .ok (.d v) (s.set i (some (.d v)))
  | none => .stuck
@[simp] def vread (i : Nat) (s : S) : R S X := match s[i]? with
  | some (some (.d v)) => .ok (.d v) s
  | some (some (.fn v)) => .ok (.fn v) s
  | some (some (.exn v l)) => .ok (.exn v l) s
  | some (some x) => frzAt i s (dat? x)
  | _ => .stuck
@[simp] def take (i : Nat) (s : S) : R S X := match s[i]? with
  | some (some x) => .ok x (s.set i none)
  | _ => .stuck
@[simp] def kills : List Nat → S → S
  | [], s => s
  | i :: r, s => kills r (s.set i none)
/-- the slots of own as they were in s -/
@[simp] def back (own : List Nat) (s t : S) : S := own.foldl (fun t i => t.set i (s[i]?.getD none)) t
mutual
@[simp] def asg : Tg → X → S → Option S
  | .n i, x, s => some (s.set i (some x))
  | .t l, .d (.tuple vs), s => asgs l vs s
  | _, _, _ => none
@[simp] def asgs : List Tg → List D → S → Option S
  | [], [], s => some s
  | t :: ts, v :: vs, s => (asg t (.d v) s).bind (asgs ts vs)
  | _, _, _ => none
end
@[simp] def pk? : E → Option Nat
  | .p i => some i
  | _ => none
@[simp] def pp? : E → Option (Nat × Int)
  | .pp i c => some (i, c)
  | _ => none
@[simp] def muSlots : List E → List Nat
  | [] => []
  | .mu i :: r => i :: muSlots r
  | _ :: r => muSlots r
@[simp] def putBack : List Nat → List X → S → S
  | i :: is, x :: xs, s => putBack is xs (s.set i (some x))
  | _, _, s => s
/-- the arguments at the call -/
@[simp] def argsAt : List (X ⊕ Nat) → S → Option (List X)
  | [], _ => some []
  | .inl x :: r, s => (argsAt r s).map (x :: ·)
  | .inr i :: r, s => (match s[i]? with
    | some (some x) => (argsAt r s).map (x :: ·)
    | _ => none)
@[simp] def getPut (own : Bool) (e : X) : Option X → Option X
  | some (.d v) => some (.d v)
  | some x => if own then (dat? x).map X.d else none
  | none => some e
/-- d.get(k, e); own: the dict is no one else's -/
@[simp] def getOr (own : Bool) (x k e : X) : Option X := match x, k with
  | .dic l, .d kd => if okIn kd l then getPut own e (lookD kd l) else none
  | _, _ => none
@[simp] def isDicX : X → Bool
  | .dic _ => true
  | _ => false
@[simp] def asInt : X → Option Int
  | .d (.int i) => some i
  | _ => none

def doCall (C : Calls) (f : Nat) (mus : List Nat) (as : List (X ⊕ Nat)) (s : S) : R S X := match argsAt as s with
  | none => .stuck
  | some xs => match C f xs with
    | .ok x ms => if ms.length = mus.length then .ok x (putBack mus ms s) else .stuck
    | .exc e ms => if ms.length = mus.length then .exc e (putBack mus ms s) else .stuck
    | .stuck => .stuck

/-- no exception leaves a comprehension (here) -/
def R.calm {σ α : Type} (r : R σ α) : R σ α := match r with
  | .exc _ _ => .stuck
  | r => r
@[simp] theorem calm_ok {σ α : Type} (a : α) (s : σ) : (R.ok a s).calm = .ok a s := rfl
@[simp] theorem calm_exc {σ α : Type} (e : Ex) (s : σ) : (R.exc e s : R σ α).calm = .stuck := rfl
@[simp] theorem calm_stuck {σ α : Type} : (R.stuck : R σ α).calm = .stuck := rfl
/-- a comprehension's turns: own slots within, what is made -/
def lcL (turn : X → S → R S (Option X)) : List X → List X → S → R S (List X)
  | [], acc, s => .ok acc s
  | x :: r, acc, s => (turn x s).calm.bind fun y s' => match y with
    | none => lcL turn r acc s'
    | some y => if acc.length < lim then lcL turn r (acc ++ [y]) s' else .stuck
def lcL2 (turn : X → List X → S → R S (List X)) : List X → List X → S → R S (List X)
  | [], acc, s => .ok acc s
  | x :: r, acc, s => (turn x acc s).calm.bind fun acc' s' => lcL2 turn r acc' s'
def dcL (turn : X → S → R S (Option (D × X))) : List X → List (D × X) → S → R S (List (D × X))
  | [], acc, s => .ok acc s
  | x :: r, acc, s => (turn x s).calm.bind fun y s' => match y with
    | none => dcL turn r acc s'
    | some (k, y) => if okIn k acc ∧ acc.length < lim then dcL turn r (putD k y acc) s' else .stuck
def dcL2 (turn : X → List (D × X) → S → R S (List (D × X))) : List X → List (D × X) → S → R S (List (D × X))
  | [], acc, s => .ok acc s
  | x :: r, acc, s => (turn x acc s).calm.bind fun acc' s' => dcL2 turn r acc' s'
def keyG (turn : D → R S X) : List D → Option (List (D × D))
  | [] => some []
  | d :: r => match turn d with
    | .ok y _ => (dat? y).bind fun k => (keyG turn r).map ((k, d) :: ·)
    | _ => none
def keyC (C : Calls) (f : Nat) : List D → Option (List (D × D))
  | [] => some []
  | x :: r => match C f [.d x] with
    | .ok y _ => (dat? y).bind fun k => (keyC C f r).map ((k, x) :: ·)
    | _ => none

@[simp] def setdPut (i : Nat) (kd v : D) (l : List (D × X)) (s : S) : Option X → R S X
  | some (.d w) => .ok (.d w) s
  | some _ => .stuck
  | none => if l.length < lim then .ok (.d v) (s.set i (some (.dic (putD kd (.d v) l)))) else .stuck
@[simp] def setdOp (i : Nat) : Option (Option X) → X → X → S → R S X
  | some (some (.dic l)), .d kd, .d v, s => if okIn kd l then setdPut i kd v l s (lookD kd l) else .stuck
  | _, _, _, _ => .stuck
@[simp] def popOp (i : Nat) : Option (Option X) → S → R S X
  | some (some (.lst l)), s => (match l.getLast? with
      | some x => .ok x (s.set i (some (.lst l.dropLast)))
      | none => .stuck)
  | _, _ => .stuck
@[simp] def rangeOp : X → S → R S X
  | .d (.int n), s => if -lim ≤ n ∧ n ≤ lim then .ok (.lst ((List.range n.toNat).map fun (i : Nat) => X.d (.int (i : Int)))) s else .stuck
  | _, _ => .stuck
@[simp] def pairOp : X → X → S → R S (Option (D × X))
  | .d kd, y, t => .ok (some (kd, y)) t
  | _, _, _ => .stuck
@[simp] def raiseOp (c : Nat) (s : S) : Option (List D) → Fl
  | some vs => .exc ⟨c, vs⟩ s
  | none => .stuck
@[simp] def asgFl : Option S → Fl
  | some s => .nx s
  | none => .stuck
/-- a number, a text -/
@[simp] def scalX : X → Option X
  | .d (.int i) => some (.d (.int i))
  | .d (.str z) => some (.d (.str z))
  | _ => none
@[simp] def augPut (i : Nat) (s : S) : Option X → Fl
  | some v => .nx (s.set i (some v))
  | _ => .stuck
@[simp] def setPut (i : Nat) (l : List X) (y : X) (s : S) : Option Nat → Fl
  | some j => .nx (s.set i (some (.lst (l.set j y))))
  | none => .stuck
@[simp] def setOp (i : Nat) (y : X) : Option (Option X) → X → S → Fl
  | some (some (.lst l)), .d (.int c), s => setPut i l y s (ixOf l.length c)
  | _, _, _ => .stuck
/-- the item at k, where it is data -/
@[simp] def itemAt : Option (Option X) → X → Option X
  | some (some (.lst l)), .d (.int c) => (ixOf l.length c).bind fun j => l[j]?.bind dataX
  | _, _ => none
@[simp] def isLstAt : Option (Option X) → Bool
  | some (some (.lst _)) => true
  | _ => false
@[simp] def appOp (i : Nat) (y : X) : Option (Option X) → S → Fl
  | some (some (.lst l)), s => if l.length < lim then .nx (s.set i (some (.lst (l ++ [y])))) else .stuck
  | _, _ => .stuck
@[simp] def extOp (i : Nat) : Option (Option X) → Option (List D) → S → Fl
  | some (some (.lst l)), some r, s => if l.length + r.length ≤ lim then .nx (s.set i (some (.lst (l ++ r.map X.d)))) else .stuck
  | _, _, _ => .stuck
@[simp] def insOp (i : Nat) (y : X) : Option (Option X) → X → S → Fl
  | some (some (.lst l)), .d (.int c), s => if l.length < lim ∧ 0 ≤ c ∧ c ≤ l.length then .nx (s.set i (some (.lst (l.take c.toNat ++ y :: l.drop c.toNat)))) else .stuck
  | _, _, _ => .stuck
@[simp] def updOp (i : Nat) : Option (Option X) → X → S → Fl
  | some (some (.dic l)), .dic m, s => if l.length + m.length ≤ lim then .nx (s.set i (some (.dic (putAll l m)))) else .stuck
  | _, _, _ => .stuck
@[simp] def appixPut (i : Nat) (kd : D) (l : List (D × X)) (y : X) (s : S) : Option X → Fl
  | some (.lst r) => if r.length < lim then .nx (s.set i (some (.dic (putD kd (.lst (r ++ [y])) l)))) else .stuck
  | _ => .stuck
@[simp] def appixOp (i : Nat) (y : X) : Option (Option X) → X → S → Fl
  | some (some (.dic l)), .d kd, s => if okIn kd l then appixPut i kd l y s (lookD kd l) else .stuck
  | _, _, _ => .stuck
@[simp] def extixPut (i : Nat) (kd : D) (l : List (D × X)) (z : List X) (s : S) : Option X → Fl
  | some (.lst r) => if r.length + z.length ≤ lim then .nx (s.set i (some (.dic (putD kd (.lst (r ++ z)) l)))) else .stuck
  | _ => .stuck
@[simp] def extixOp (i : Nat) : Option (Option X) → X → Option (List X) → S → Fl
  | some (some (.dic l)), .d kd, some z, s => if okIn kd l then extixPut i kd l z s (lookD kd l) else .stuck
  | _, _, _, _ => .stuck
@[simp] def fnAt : Option (Option X) → Option Nat
  | some (some (.fn f)) => some f
  | _ => none
@[simp] def isDicAt : Option (Option X) → Bool
  | some (some (.dic _)) => true
  | _ => false
/-- the list that setdefault(k, []) gives -/
@[simp] def sdaGet (kd : D) (l : List (D × X)) : Option X → Option (D × List (D × X) × List X)
  | none => some (kd, l, [])
  | some (.lst r) => some (kd, l, r)
  | _ => none
@[simp] def sdaAt : Option (Option X) → X → Option (D × List (D × X) × List X)
  | some (some (.dic l)), .d kd => if okIn kd l ∧ l.length < lim then sdaGet kd l (lookD kd l) else none
  | _, _ => none
section
variable (C : Calls) (G : List D)
mutual
noncomputable def ev : E → S → R S X
  | .k v, s => .ok (.d v) s
  | .fnv f, s => .ok (.fn f) s
  | .gl i, s => ofO (G[i]?.map X.d) s
  | .v i, s => vread i s
  | .p i, s => peek i s
  | .mv i, s => take i s
  | .pp i c, s => peekAt i c s
  | .u o a, s => (ev a s).bind fun x s => ofO (uop o x) s
  | .b o a c, s => match pk? a with
    | some i => (peek i s).bind fun _ s => (ev c s).bind fun y s => (peek i s).bind fun x s => ofO (bop o x y) s
    | none => (ev a s).bind fun x s => (ev c s).bind fun y s => ofO (bop o x y) s
  | .chain o1 o2 a b c, s => (ev a s).bind fun x s => (ev b s).bind fun y s => (ofO (bop o1 x y) s).bind fun z s => match z with
    | .d (.bool true) => (ev c s).bind fun w s => ofO (bop o2 y w) s
    | .d (.bool false) => .ok (.d (.bool false)) s
    | _ => .stuck
  | .slice a lo hi, s => match pk? a, pp? a with
    | some i, _ => (peek i s).bind fun _ s => (evo lo s).bind fun l s => (evo hi s).bind fun h s => (peek i s).bind fun x s => ofO (sliceOf l h x) s
    | _, some (i, c) => (peekAt i c s).bind fun _ s => (evo lo s).bind fun l s => (evo hi s).bind fun h s => (peekAt i c s).bind fun x s => ofO (sliceOf l h x) s
    | none, none => (ev a s).bind fun x s => (evo lo s).bind fun l s => (evo hi s).bind fun h s => ofO (sliceOf l h x) s
  | .getd a k e, s => match pk? a with
    | some i => (peek i s).bind fun x s => if isDicX x then (ev k s).bind fun kx s => (ev e s).bind fun ex s => (peek i s).bind fun x s => ofO (getOr false x kx ex) s else .stuck
    | none => (ev a s).bind fun x s => if isDicX x then (ev k s).bind fun kx s => (ev e s).bind fun ex s => ofO (getOr true x kx ex) s else .stuck
  | .setd i k e, s => (ev k s).bind fun kx s => (ev e s).bind fun ex s => setdOp i s[i]? kx ex s
  | .popl i, s => popOp i s[i]? s
  | .frz e, s => (ev e s).bind fun x s => ofO ((dat? x).map X.d) s
  | .and_ a b, s => (ev a s).bind fun x s => match x with
    | .d (.bool true) => ev b s
    | .d (.bool false) => .ok (.d (.bool false)) s
    | _ => .stuck
  | .or_ a b, s => (ev a s).bind fun x s => match x with
    | .d (.bool true) => .ok (.d (.bool true)) s
    | .d (.bool false) => ev b s
    | _ => .stuck
  | .ite c a b, s => (tst c s).bind fun t s => if t then ev a s else ev b s
  | .tup es, s => (evs es s).bind fun xs s => if xs.length ≤ lim then ofO ((dats? xs).map fun vs => .d (.tuple vs)) s else .stuck
  | .lst es, s => (evs es s).bind fun xs s => if xs.length ≤ lim then .ok (.lst xs) s else .stuck
  | .star _, _ => .stuck
  | .mu _, _ => .stuck
  | .tr _, _ => .stuck
  | .dict0, s => .ok (.dic []) s
  | .call f es, s => (eva es s).bind fun as s => doCall C f (muSlots es) as s
  | .callv i es, s => match fnAt s[i]? with
    | some f => (eva es s).bind fun as s => doCall C f [] as s
    | none => .stuck
  | .enum a, s => (ev a s).bind fun x s => ofO ((seqD x).map fun ds => X.lst ((numbered 0 ds).map X.d)) s
  | .range a, s => (ev a s).bind rangeOp
  | .srtk a j e, s => (ev a s).bind fun x s => (ofO (srtIn x) s).bind fun ds s =>
      ofO ((keyG (fun d => ev e [some (.d d)]) ds).bind sortedK) s
  | .srtf a f, s => (ev a s).bind fun x s => (ofO (srtIn x) s).bind fun ds s => ofO ((keyC C f ds).bind sortedK) s
  | .lc own e tg it ifs, s => (ev it s).bind fun x s => (ofO (items x) s).bind fun l s =>
      (lcL (fun x t => match asg tg x t with
        | none => .stuck
        | some t => (tsts ifs t).bind fun b t => if b then (ev e t).bind fun y t => .ok (some y) (kills own t) else .ok none (kills own t)) l [] (kills own s)).bind fun ys t => .ok (.lst ys) (back own s t)
  | .lc2 own own2 e tg it ifs tg2 it2 ifs2, s => (ev it s).bind fun x s => (ofO (items x) s).bind fun l s =>
      (lcL2 (fun x acc t => match asg tg x t with
        | none => .stuck
        | some t => (tsts ifs t).bind fun b t => if b then (ev it2 t).bind fun x2 t => (ofO (items x2) t).bind fun l2 t =>
            (lcL (fun x t => match asg tg2 x t with
              | none => .stuck
              | some t => (tsts ifs2 t).bind fun b t => if b then (ev e t).bind fun y t => .ok (some y) (kills own2 t) else .ok none (kills own2 t)) l2 acc (kills own2 t)).bind fun ys t => .ok ys (kills own t)
          else .ok acc (kills own t)) l [] (kills own s)).bind fun ys t => .ok (.lst ys) (back own s t)
  | .exf i n, s => match s[i]? with
    | some (some (.exn _ l)) => ofO (l[n]?.map X.d) s
    | _ => .stuck
  | .dc own k e tg it ifs, s => (ev it s).bind fun x s => (ofO (items x) s).bind fun l s =>
      (dcL (fun x t => match asg tg x t with
        | none => .stuck
        | some t => (tsts ifs t).bind fun b t => if b then (ev k t).bind fun kx t => (ev e t).bind fun y t => pairOp kx y (kills own t) else .ok none (kills own t)) l [] (kills own s)).bind fun ys t => .ok (.dic ys) (back own s t)
  | .dc2 own own2 k e tg it ifs tg2 it2 ifs2, s => (ev it s).bind fun x s => (ofO (items x) s).bind fun l s =>
      (dcL2 (fun x acc t => match asg tg x t with
        | none => .stuck
        | some t => (tsts ifs t).bind fun b t => if b then (ev it2 t).bind fun x2 t => (ofO (items x2) t).bind fun l2 t =>
            (dcL (fun x t => match asg tg2 x t with
              | none => .stuck
              | some t => (tsts ifs2 t).bind fun b t => if b then (ev k t).bind fun kx t => (ev e t).bind fun y t => pairOp kx y (kills own2 t) else .ok none (kills own2 t)) l2 acc (kills own2 t)).bind fun ys t => .ok ys (kills own t)
          else .ok acc (kills own t)) l [] (kills own s)).bind fun ys t => .ok (.dic ys) (back own s t)
noncomputable def evo : Option E → S → R S (Option Int)
  | none, s => .ok none s
  | some e, s => (ev e s).bind fun x s => ofO ((asInt x).map some) s
/-- a test -/
noncomputable def tst : E → S → R S Bool
  | .and_ a b, s => (tst a s).bind fun t s => if t then tst b s else .ok false s
  | .or_ a b, s => (tst a s).bind fun t s => if t then .ok true s else tst b s
  | .u .not_ a, s => (tst a s).bind fun t s => .ok (!t) s
  | .tr e, s => (ev e s).bind fun x s => ofO (truth x) s
  | _, _ => .stuck
noncomputable def tsts : List E → S → R S Bool
  | [], s => .ok true s
  | e :: r, s => (tst e s).bind fun t s => if t then tsts r s else .ok false s
/-- a written row of items, from the left -/
noncomputable def evs : List E → S → R S (List X)
  | [], s => .ok [] s
  | .star e :: r, s => (ev e s).bind fun x s => (ofO ((items x).bind datas) s).bind fun l s => (evs r s).bind fun ys s => .ok (l.map X.d ++ ys) s
  | e :: r, s => (ev e s).bind fun x s => (evs r s).bind fun ys s => .ok (x :: ys) s
/-- arguments -/
noncomputable def eva : List E → S → R S (List (X ⊕ Nat))
  | [], s => .ok [] s
  | .mu i :: r, s => (peek i s).bind fun _ s => (eva r s).bind fun ys s => .ok (.inr i :: ys) s
  | .star e :: r, s => (ev e s).bind fun x s => (ofO ((items x).bind datas) s).bind fun l s => (eva r s).bind fun ys s => .ok (l.map (fun v => .inl (X.d v)) ++ ys) s
  | e :: r, s => (ev e s).bind fun x s => (eva r s).bind fun ys s => .ok (.inl x :: ys) s
end
end
/-- the turns of a for -/
def forL (body : X → S → Fl) : List X → S → Fl
  | [], s => .nx s
  | x :: r, s => match body x s with
    | .nx s' => forL body r s'
    | .ct s' => forL body r s'
    | .bk s' => .nx s'
    | o => o
def whileL (c : S → R S Bool) (body : S → Fl) : Nat → S → Fl
  | 0, _ => .stuck
  | n + 1, s => match c s with
    | .ok true s' => (match body s' with
      | .nx s2 => whileL c body n s2
      | .ct s2 => whileL c body n s2
      | .bk s2 => .nx s2
      | o => o)
    | .ok false s' => .nx s'
    | .exc e s' => .exc e s'
    | .stuck => .stuck
def fuelW : Nat := 2 ^ 62
def R.fl {α : Type} (r : R S α) (k : α → S → Fl) : Fl := match r with
  | .ok a s => k a s
  | .exc e s => .exc e s
  | .stuck => .stuck
/-- the state behind a turn, the loop's own slots forgotten -/
def Fl.kill (own : List Nat) : Fl → Fl
  | .nx s => .nx (kills own s)
  | .ct s => .ct (kills own s)
  | .bk s => .bk (kills own s)
  | o => o
section
variable (C : Calls) (G : List D)
mutual
noncomputable def ex1 : St → S → Fl
  | .set tg e, s => (ev C G e s).fl fun x s => asgFl (asg tg x s)
  | .par is es, s => (evs C G es s).fl fun xs s => if xs.length = is.length then .nx (putBack is xs s) else .stuck
  | .aug i o e, s => (peek i s).fl fun _ s => (ev C G e s).fl fun y s => (peek i s).fl fun x s => augPut i s ((bop o x y).bind scalX)
  | .setix i k e, s => (ev C G e s).fl fun y s => (peek i s).fl fun _ s => (ev C G k s).fl fun kx s => setOp i y s[i]? kx s
  | .augix i k o e, s => (ev C G k s).fl fun kx s => (ofO (itemAt s[i]? kx) s).fl fun x s => (ev C G e s).fl fun y s => (ofO ((bop o x y).bind scalX) s).fl fun z s => setOp i z s[i]? kx s
  | .app i e, s => if isLstAt s[i]? then (ev C G e s).fl fun y s => appOp i y s[i]? s else .stuck
  | .ext i e, s => if isLstAt s[i]? then (ev C G e s).fl fun y s => extOp i s[i]? (seqD y) s else .stuck
  | .ins i k e, s => if isLstAt s[i]? then (ev C G k s).fl fun kx s => (ev C G e s).fl fun y s => insOp i y s[i]? kx s else .stuck
  | .upd i e, s => (ev C G e s).fl fun y s => updOp i s[i]? y s
  | .setdapp i k e, s => if isDicAt s[i]? then (ev C G k s).fl fun kx s => match sdaAt s[i]? kx with
    | some (kd, l, r) => (ev C G e (s.set i none)).fl fun y s => if r.length < lim then .nx (s.set i (some (.dic (putD kd (.lst (r ++ [y])) l)))) else .stuck
    | none => .stuck
    else .stuck
  | .appix i k e, s => (ev C G k s).fl fun kx s => (ev C G e s).fl fun y s => appixOp i y s[i]? kx s
  | .extix i k e, s => (ev C G k s).fl fun kx s => (ev C G e s).fl fun y s => extixOp i s[i]? kx (items y) s
  | .ex e, s => (ev C G e s).fl fun _ s => .nx s
  | .if_ c a b, s => (tst C G c s).fl fun t s => if t then exs a s else exs b s
  | .for_ kill tg it body, s => (ev C G it s).fl fun x s => match items x with
    | none => .stuck
    | some l => forL (fun x s => match asg tg x s with
      | none => .stuck
      | some s => (exs body s).kill kill) l (kills kill s)
  | .while_ kill c body, s => whileL (fun s => tst C G c s) (fun s => (exs body s).kill kill) fuelW (kills kill s)
  | .ret e, s => (ev C G e s).fl fun x s => .rt x s
  | .retN, s => .rt (.d .none) s
  | .raise c es, s => (evs C G es s).fl fun xs s => raiseOp c s (dats? xs)
  | .try_ body hs, s => match exs body s with
    | .exc e s => exh hs e s
    | o => o
  | .brk, s => .bk s
  | .cont, s => .ct s
  | .pass, s => .nx s
noncomputable def exs : List St → S → Fl
  | [], s => .nx s
  | st :: r, s => match ex1 st s with
    | .nx s => exs r s
    | o => o
noncomputable def exh : List Hn → Ex → S → Fl
  | [], e, s => .exc e s
  | .mk cs as body :: r, e, s => if cs.contains e.cls then (match as with
      | none => exs body s
      | some i => (exs body (s.set i (some (.exn e.cls e.args)))).kill [i]) else exh r e s
end
end
/-- what the parameters that may be changed hold -/
def muOut (mu : List Nat) (s : S) : Option (List X) := mu.mapM fun i => s[i]?.bind id
/-- a def's run, n deep -/
noncomputable def call (F : Nat → Option Fd) (G : List D) : Nat → Calls
  | 0, _, _ => .stuck
  | n + 1, f, xs => match F f with
    | none => .stuck
    | some fd => if xs.length = fd.ps then (match exs (call F G n) G fd.body (xs.map some ++ List.replicate (fd.ns - fd.ps) none) with
      | .rt x s => (match muOut fd.mu s with | some ms => .ok x ms | none => .stuck)
      | .nx s => (match muOut fd.mu s with | some ms => .ok (.d .none) ms | none => .stuck)
      | .exc e s => (match muOut fd.mu s with | some ms => .exc e ms | none => .stuck)
      | _ => .stuck) else .stuck
/-! ### the equations, continuations by name -/
section
variable (C : Calls) (G : List D)
@[simp] def kFrz (x : X) (s : S) : R S X := ofO ((dat? x).map X.d) s
@[simp] noncomputable def kU (o : U) (x : X) (s : S) : R S X := ofO (uop o x) s
@[simp] noncomputable def kB2 (o : B) (x : X) (y : X) (s : S) : R S X := ofO (bop o x y) s
@[simp] noncomputable def kB1 (o : B) (c : E) (x : X) (s : S) : R S X := (ev C G c s).bind (kB2 o x)
@[simp] noncomputable def kB4 (o : B) (y : X) (x : X) (s : S) : R S X := ofO (bop o x y) s
@[simp] noncomputable def kB3 (o : B) (i : Nat) (y : X) (s : S) : R S X := (peek i s).bind (kB4 o y)
@[simp] noncomputable def kB0 (o : B) (i : Nat) (c : E) (_x : X) (s : S) : R S X := (ev C G c s).bind (kB3 o i)
@[simp] noncomputable def kC4 (o2 : B) (y : X) (w : X) (s : S) : R S X := ofO (bop o2 y w) s
noncomputable def kC3 (o2 : B) (y : X) (c : E) (z : X) (s : S) : R S X := match z with
    | .d (.bool true) => (ev C G c s).bind (kC4 o2 y)
    | .d (.bool false) => .ok (.d (.bool false)) s
    | _ => .stuck
@[simp] noncomputable def kC2 (o1 o2 : B) (x : X) (c : E) (y : X) (s : S) : R S X := (ofO (bop o1 x y) s).bind (kC3 C G o2 y c)
@[simp] noncomputable def kC1 (o1 o2 : B) (b c : E) (x : X) (s : S) : R S X := (ev C G b s).bind (kC2 C G o1 o2 x c)
@[simp] noncomputable def kS3 (l h : Option Int) (x : X) (s : S) : R S X := ofO (sliceOf l h x) s
@[simp] noncomputable def kSp2 (i : Nat) (l : Option Int) (h : Option Int) (s : S) : R S X := (peek i s).bind (kS3 l h)
@[simp] noncomputable def kSp1 (i : Nat) (hi : Option E) (l : Option Int) (s : S) : R S X := (evo C G hi s).bind (kSp2 i l)
@[simp] noncomputable def kSq2 (i : Nat) (c : Int) (l : Option Int) (h : Option Int) (s : S) : R S X := (peekAt i c s).bind (kS3 l h)
@[simp] noncomputable def kSq1 (i : Nat) (c : Int) (hi : Option E) (l : Option Int) (s : S) : R S X := (evo C G hi s).bind (kSq2 i c l)
@[simp] noncomputable def kSp0 (i : Nat) (lo hi : Option E) (_x : X) (s : S) : R S X := (evo C G lo s).bind (kSp1 C G i hi)
@[simp] noncomputable def kSq0 (i : Nat) (c : Int) (lo hi : Option E) (_x : X) (s : S) : R S X := (evo C G lo s).bind (kSq1 C G i c hi)
@[simp] noncomputable def kSr2 (x : X) (l : Option Int) (h : Option Int) (s : S) : R S X := ofO (sliceOf l h x) s
@[simp] noncomputable def kSr1 (x : X) (hi : Option E) (l : Option Int) (s : S) : R S X := (evo C G hi s).bind (kSr2 x l)
@[simp] noncomputable def kSr0 (lo hi : Option E) (x : X) (s : S) : R S X := (evo C G lo s).bind (kSr1 C G x hi)
@[simp] noncomputable def kG3 (kx ex : X) (x : X) (s : S) : R S X := ofO (getOr false x kx ex) s
@[simp] noncomputable def kG2 (i : Nat) (kx : X) (ex : X) (s : S) : R S X := (peek i s).bind (kG3 kx ex)
@[simp] noncomputable def kG1 (i : Nat) (e : E) (kx : X) (s : S) : R S X := (ev C G e s).bind (kG2 i kx)
@[simp] noncomputable def kG0 (i : Nat) (k e : E) (x : X) (s : S) : R S X := if isDicX x then (ev C G k s).bind (kG1 C G i e) else .stuck
@[simp] noncomputable def kH3 (x kx : X) (ex : X) (s : S) : R S X := ofO (getOr true x kx ex) s
@[simp] noncomputable def kH2 (x : X) (e : E) (kx : X) (s : S) : R S X := (ev C G e s).bind (kH3 x kx)
@[simp] noncomputable def kH1 (k e : E) (x : X) (s : S) : R S X := if isDicX x then (ev C G k s).bind (kH2 C G x e) else .stuck
@[simp] noncomputable def kD2 (i : Nat) (kx : X) (ex : X) (s : S) : R S X := setdOp i s[i]? kx ex s
@[simp] noncomputable def kD1 (i : Nat) (e : E) (kx : X) (s : S) : R S X := (ev C G e s).bind (kD2 i kx)
noncomputable def kAnd (b : E) (x : X) (s : S) : R S X := match x with
    | .d (.bool true) => ev C G b s
    | .d (.bool false) => .ok (.d (.bool false)) s
    | _ => .stuck
noncomputable def kOr (b : E) (x : X) (s : S) : R S X := match x with
    | .d (.bool true) => .ok (.d (.bool true)) s
    | .d (.bool false) => ev C G b s
    | _ => .stuck
@[simp] noncomputable def kIte (a b : E) (t : Bool) (s : S) : R S X := if t then ev C G a s else ev C G b s
@[simp] def kTup (xs : List X) (s : S) : R S X := if xs.length ≤ lim then ofO ((dats? xs).map fun vs => .d (.tuple vs)) s else .stuck
@[simp] def kLst (xs : List X) (s : S) : R S X := if xs.length ≤ lim then .ok (.lst xs) s else .stuck
@[simp] def kCall (f : Nat) (mus : List Nat) (as : List (X ⊕ Nat)) (s : S) : R S X := doCall C f mus as s
@[simp] noncomputable def callvOp (es : List E) (s : S) : Option Nat → R S X
  | some f => (eva C G es s).bind (kCall C f [])
  | none => .stuck
@[simp] noncomputable def kEnum (x : X) (s : S) : R S X := ofO ((seqD x).map fun ds => X.lst ((numbered 0 ds).map X.d)) s
@[simp] def kKj (j : Nat) (y : X) (t : S) : R S X := .ok y (t.set j none)
noncomputable def keyT (j : Nat) (e : E) (x : X) (t : S) : R S X := (ev C G e (t.set j (some x))).bind (kKj j)
@[simp] noncomputable def kK2 (e : E) (ds : List D) (s : S) : R S X := ofO ((keyG (fun d => ev C G e [some (.d d)]) ds).bind sortedK) s
@[simp] noncomputable def kK1 (j : Nat) (e : E) (x : X) (s : S) : R S X := (ofO (srtIn x) s).bind (kK2 C G e)
@[simp] noncomputable def kF2 (f : Nat) (ds : List D) (s : S) : R S X := ofO ((keyC C f ds).bind sortedK) s
@[simp] noncomputable def kF1 (f : Nat) (x : X) (s : S) : R S X := (ofO (srtIn x) s).bind (kF2 C f)
@[simp] def kSome (own : List Nat) (y : X) (t : S) : R S (Option X) := .ok (some y) (kills own t)
@[simp] noncomputable def kElt (own : List Nat) (e : E) (b : Bool) (t : S) : R S (Option X) := if b then (ev C G e t).bind (kSome own) else .ok none (kills own t)
noncomputable def lcT0 (own : List Nat) (e : E) (ifs : List E) : Option S → R S (Option X)
  | none => .stuck
  | some t => (tsts C G ifs t).bind (kElt C G own e)
/-- a turn of a list comprehension -/
noncomputable def lcT (own : List Nat) (e : E) (tg : Tg) (ifs : List E) (x : X) (t : S) : R S (Option X) := lcT0 C G own e ifs (asg tg x t)
@[simp] def kLc3 (own : List Nat) (s : S) (ys : List X) (t : S) : R S X := .ok (.lst ys) (back own s t)
@[simp] noncomputable def kLc2 (own : List Nat) (e : E) (tg : Tg) (ifs : List E) (l : List X) (s : S) : R S X := (lcL (lcT C G own e tg ifs) l [] (kills own s)).bind (kLc3 own s)
@[simp] noncomputable def kLc1 (own : List Nat) (e : E) (tg : Tg) (ifs : List E) (x : X) (s : S) : R S X := (ofO (items x) s).bind (kLc2 C G own e tg ifs)
@[simp] def kInE {α : Type} (own : List Nat) (ys : α) (t : S) : R S α := .ok ys (kills own t)
@[simp] noncomputable def kIn2 (own own2 : List Nat) (e : E) (tg : Tg) (ifs : List E) (acc : List X) (l2 : List X) (t : S) : R S (List X) := (lcL (lcT C G own2 e tg ifs) l2 acc (kills own2 t)).bind (kInE own)
@[simp] noncomputable def kIn1 (own own2 : List Nat) (e : E) (tg : Tg) (ifs : List E) (acc : List X) (x2 : X) (t : S) : R S (List X) := (ofO (items x2) t).bind (kIn2 C G own own2 e tg ifs acc)
@[simp] noncomputable def kIn (own own2 : List Nat) (e : E) (tg2 : Tg) (it2 : E) (ifs2 : List E) (acc : List X) (b : Bool) (t : S) : R S (List X) := if b then (ev C G it2 t).bind (kIn1 C G own own2 e tg2 ifs2 acc) else .ok acc (kills own t)
noncomputable def lc2T0 (own own2 : List Nat) (e : E) (ifs : List E) (tg2 : Tg) (it2 : E) (ifs2 : List E) (acc : List X) : Option S → R S (List X)
  | none => .stuck
  | some t => (tsts C G ifs t).bind (kIn C G own own2 e tg2 it2 ifs2 acc)
noncomputable def lc2T (own own2 : List Nat) (e : E) (tg : Tg) (ifs : List E) (tg2 : Tg) (it2 : E) (ifs2 : List E) (x : X) (acc : List X) (t : S) : R S (List X) := lc2T0 C G own own2 e ifs tg2 it2 ifs2 acc (asg tg x t)
@[simp] def kM3 (own : List Nat) (s : S) (ys : List X) (t : S) : R S X := .ok (.lst ys) (back own s t)
@[simp] noncomputable def kM2 (own own2 : List Nat) (e : E) (tg : Tg) (ifs : List E) (tg2 : Tg) (it2 : E) (ifs2 : List E) (l : List X) (s : S) : R S X := (lcL2 (lc2T C G own own2 e tg ifs tg2 it2 ifs2) l [] (kills own s)).bind (kM3 own s)
@[simp] noncomputable def kM1 (own own2 : List Nat) (e : E) (tg : Tg) (ifs : List E) (tg2 : Tg) (it2 : E) (ifs2 : List E) (x : X) (s : S) : R S X := (ofO (items x) s).bind (kM2 C G own own2 e tg ifs tg2 it2 ifs2)
@[simp] def kV2 (own : List Nat) (kx : X) (y : X) (t : S) : R S (Option (D × X)) := pairOp kx y (kills own t)
@[simp] noncomputable def kV1 (own : List Nat) (e : E) (kx : X) (t : S) : R S (Option (D × X)) := (ev C G e t).bind (kV2 own kx)
@[simp] noncomputable def kKV (own : List Nat) (k e : E) (b : Bool) (t : S) : R S (Option (D × X)) := if b then (ev C G k t).bind (kV1 C G own e) else .ok none (kills own t)
noncomputable def dcT0 (own : List Nat) (k e : E) (ifs : List E) : Option S → R S (Option (D × X))
  | none => .stuck
  | some t => (tsts C G ifs t).bind (kKV C G own k e)
noncomputable def dcT (own : List Nat) (k e : E) (tg : Tg) (ifs : List E) (x : X) (t : S) : R S (Option (D × X)) := dcT0 C G own k e ifs (asg tg x t)
@[simp] def kDc3 (own : List Nat) (s : S) (ys : List (D × X)) (t : S) : R S X := .ok (.dic ys) (back own s t)
@[simp] noncomputable def kDc2 (own : List Nat) (k e : E) (tg : Tg) (ifs : List E) (l : List X) (s : S) : R S X := (dcL (dcT C G own k e tg ifs) l [] (kills own s)).bind (kDc3 own s)
@[simp] noncomputable def kDc1 (own : List Nat) (k e : E) (tg : Tg) (ifs : List E) (x : X) (s : S) : R S X := (ofO (items x) s).bind (kDc2 C G own k e tg ifs)
@[simp] noncomputable def kDn2 (own own2 : List Nat) (k e : E) (tg : Tg) (ifs : List E) (acc : List (D × X)) (l2 : List X) (t : S) : R S (List (D × X)) := (dcL (dcT C G own2 k e tg ifs) l2 acc (kills own2 t)).bind (kInE own)
@[simp] noncomputable def kDn1 (own own2 : List Nat) (k e : E) (tg : Tg) (ifs : List E) (acc : List (D × X)) (x2 : X) (t : S) : R S (List (D × X)) := (ofO (items x2) t).bind (kDn2 C G own own2 k e tg ifs acc)
@[simp] noncomputable def kDn (own own2 : List Nat) (k e : E) (tg2 : Tg) (it2 : E) (ifs2 : List E) (acc : List (D × X)) (b : Bool) (t : S) : R S (List (D × X)) := if b then (ev C G it2 t).bind (kDn1 C G own own2 k e tg2 ifs2 acc) else .ok acc (kills own t)
noncomputable def dc2T0 (own own2 : List Nat) (k e : E) (ifs : List E) (tg2 : Tg) (it2 : E) (ifs2 : List E) (acc : List (D × X)) : Option S → R S (List (D × X))
  | none => .stuck
  | some t => (tsts C G ifs t).bind (kDn C G own own2 k e tg2 it2 ifs2 acc)
noncomputable def dc2T (own own2 : List Nat) (k e : E) (tg : Tg) (ifs : List E) (tg2 : Tg) (it2 : E) (ifs2 : List E) (x : X) (acc : List (D × X)) (t : S) : R S (List (D × X)) := dc2T0 C G own own2 k e ifs tg2 it2 ifs2 acc (asg tg x t)
@[simp] def kDm3 (own own2 : List Nat) (s : S) (ys : List (D × X)) (t : S) : R S X := .ok (.dic ys) (back own s t)
@[simp] noncomputable def kDm2 (own own2 : List Nat) (k e : E) (tg : Tg) (ifs : List E) (tg2 : Tg) (it2 : E) (ifs2 : List E) (l : List X) (s : S) : R S X := (dcL2 (dc2T C G own own2 k e tg ifs tg2 it2 ifs2) l [] (kills own s)).bind (kDm3 own own2 s)
@[simp] noncomputable def kDm1 (own own2 : List Nat) (k e : E) (tg : Tg) (ifs : List E) (tg2 : Tg) (it2 : E) (ifs2 : List E) (x : X) (s : S) : R S X := (ofO (items x) s).bind (kDm2 C G own own2 k e tg ifs tg2 it2 ifs2)
@[simp] noncomputable def kO (x : X) (s : S) : R S (Option Int) := ofO ((asInt x).map some) s
@[simp] noncomputable def kTr (x : X) (s : S) : R S Bool := ofO (truth x) s
@[simp] noncomputable def kTA (b : E) (t : Bool) (s : S) : R S Bool := if t then tst C G b s else .ok false s
@[simp] noncomputable def kTO (b : E) (t : Bool) (s : S) : R S Bool := if t then .ok true s else tst C G b s
@[simp] def kTN (t : Bool) (s : S) : R S Bool := .ok (!t) s
@[simp] noncomputable def kTs (r : List E) (t : Bool) (s : S) : R S Bool := if t then tsts C G r s else .ok false s
@[simp] def kCons (x : X) (ys : List X) (s : S) : R S (List X) := .ok (x :: ys) s
@[simp] noncomputable def kEs (r : List E) (x : X) (s : S) : R S (List X) := (evs C G r s).bind (kCons x)
@[simp] def kApp (l : List D) (ys : List X) (s : S) : R S (List X) := .ok (l.map X.d ++ ys) s
@[simp] noncomputable def kSt2 (r : List E) (l : List D) (s : S) : R S (List X) := (evs C G r s).bind (kApp l)
@[simp] noncomputable def kSt1 (r : List E) (x : X) (s : S) : R S (List X) := (ofO ((items x).bind datas) s).bind (kSt2 C G r)
@[simp] def kAc (x : X ⊕ Nat) (ys : List (X ⊕ Nat)) (s : S) : R S (List (X ⊕ Nat)) := .ok (x :: ys) s
@[simp] noncomputable def kAm (i : Nat) (r : List E) (_x : X) (s : S) : R S (List (X ⊕ Nat)) := (eva C G r s).bind (kAc (.inr i))
@[simp] noncomputable def kAs (r : List E) (x : X) (s : S) : R S (List (X ⊕ Nat)) := (eva C G r s).bind (kAc (.inl x))
@[simp] def kAa (l : List D) (ys : List (X ⊕ Nat)) (s : S) : R S (List (X ⊕ Nat)) := .ok (l.map (fun v => .inl (X.d v)) ++ ys) s
@[simp] noncomputable def kAt2 (r : List E) (l : List D) (s : S) : R S (List (X ⊕ Nat)) := (eva C G r s).bind (kAa l)
@[simp] noncomputable def kAt1 (r : List E) (x : X) (s : S) : R S (List (X ⊕ Nat)) := (ofO ((items x).bind datas) s).bind (kAt2 C G r)

variable (s : S) (i j f : Nat) (a b c e k it it2 : E) (tg tg2 : Tg) (own own2 : List Nat) (r es ifs ifs2 : List E) (lo hi : Option E)
@[simp] theorem ev_k (v : D) : ev C G (.k v) s = .ok (.d v) s := rfl
@[simp] theorem ev_fnv : ev C G (.fnv f) s = .ok (.fn f) s := rfl
@[simp] theorem ev_gl : ev C G (.gl i) s = ofO (G[i]?.map X.d) s := rfl
@[simp] theorem ev_v : ev C G (.v i) s = vread i s := rfl
@[simp] theorem ev_p : ev C G (.p i) s = peek i s := rfl
@[simp] theorem ev_mv : ev C G (.mv i) s = take i s := rfl
@[simp] theorem ev_pp (z : Int) : ev C G (.pp i z) s = peekAt i z s := rfl
@[simp] theorem ev_u (o : U) : ev C G (.u o a) s = (ev C G a s).bind (kU o) := rfl
@[simp] theorem ev_b (o : B) : ev C G (.b o a c) s = (match pk? a with | some i => (peek i s).bind (kB0 C G o i c) | none => (ev C G a s).bind (kB1 C G o c)) := rfl
@[simp] theorem ev_chain (o1 o2 : B) : ev C G (.chain o1 o2 a b c) s = (ev C G a s).bind (kC1 C G o1 o2 b c) := rfl
@[simp] theorem ev_slice : ev C G (.slice a lo hi) s = (match pk? a, pp? a with
    | some i, _ => (peek i s).bind (kSp0 C G i lo hi)
    | _, some (i, c) => (peekAt i c s).bind (kSq0 C G i c lo hi)
    | none, none => (ev C G a s).bind (kSr0 C G lo hi)) := rfl
@[simp] theorem ev_getd : ev C G (.getd a k e) s = (match pk? a with
    | some i => (peek i s).bind (kG0 C G i k e)
    | none => (ev C G a s).bind (kH1 C G k e)) := rfl
@[simp] theorem ev_setd : ev C G (.setd i k e) s = (ev C G k s).bind (kD1 C G i e) := rfl
@[simp] theorem ev_frz : ev C G (.frz e) s = (ev C G e s).bind kFrz := rfl
@[simp] theorem ev_popl : ev C G (.popl i) s = popOp i s[i]? s := rfl
@[simp] theorem ev_and : ev C G (.and_ a b) s = (ev C G a s).bind (kAnd C G b) := rfl
@[simp] theorem ev_or : ev C G (.or_ a b) s = (ev C G a s).bind (kOr C G b) := rfl
@[simp] theorem ev_ite : ev C G (.ite c a b) s = (tst C G c s).bind (kIte C G a b) := rfl
@[simp] theorem ev_tup : ev C G (.tup es) s = (evs C G es s).bind kTup := rfl
@[simp] theorem ev_lst : ev C G (.lst es) s = (evs C G es s).bind kLst := rfl
@[simp] theorem ev_dict0 : ev C G .dict0 s = .ok (.dic []) s := rfl
@[simp] theorem ev_call : ev C G (.call f es) s = (eva C G es s).bind (kCall C f (muSlots es)) := rfl
@[simp] theorem ev_callv : ev C G (.callv i es) s = callvOp C G es s (fnAt s[i]?) := rfl
@[simp] theorem ev_enum : ev C G (.enum a) s = (ev C G a s).bind kEnum := rfl
@[simp] theorem ev_range : ev C G (.range a) s = (ev C G a s).bind rangeOp := rfl
@[simp] theorem ev_srtk : ev C G (.srtk a j e) s = (ev C G a s).bind (kK1 C G j e) := rfl
@[simp] theorem ev_srtf : ev C G (.srtf a f) s = (ev C G a s).bind (kF1 C f) := rfl
@[simp] theorem ev_lc : ev C G (.lc own e tg it ifs) s = (ev C G it s).bind (kLc1 C G own e tg ifs) := rfl
@[simp] theorem ev_lc2 : ev C G (.lc2 own own2 e tg it ifs tg2 it2 ifs2) s = (ev C G it s).bind (kM1 C G own own2 e tg ifs tg2 it2 ifs2) := rfl
@[simp] theorem ev_dc2 : ev C G (.dc2 own own2 k e tg it ifs tg2 it2 ifs2) s = (ev C G it s).bind (kDm1 C G own own2 k e tg ifs tg2 it2 ifs2) := rfl
@[simp] theorem ev_dc : ev C G (.dc own k e tg it ifs) s = (ev C G it s).bind (kDc1 C G own k e tg ifs) := rfl
@[simp] theorem evo_none : evo C G none s = .ok none s := rfl
@[simp] theorem evo_some : evo C G (some e) s = (ev C G e s).bind kO := rfl
@[simp] theorem tst_and : tst C G (.and_ a b) s = (tst C G a s).bind (kTA C G b) := rfl
@[simp] theorem tst_or : tst C G (.or_ a b) s = (tst C G a s).bind (kTO C G b) := rfl
@[simp] theorem tst_not : tst C G (.u .not_ a) s = (tst C G a s).bind kTN := rfl
@[simp] theorem tst_tr : tst C G (.tr e) s = (ev C G e s).bind kTr := rfl
@[simp] theorem tsts_nil : tsts C G [] s = .ok true s := rfl
@[simp] theorem tsts_cons : tsts C G (e :: r) s = (tst C G e s).bind (kTs C G r) := rfl
@[simp] theorem evs_nil : evs C G [] s = .ok [] s := rfl
@[simp] theorem evs_star : evs C G (.star e :: r) s = (ev C G e s).bind (kSt1 C G r) := rfl
def isStar : E → Bool
  | .star _ => true
  | .mu _ => true
  | _ => false
@[simp] theorem isStar_k {x0} : isStar (E.k x0) = false := rfl
@[simp] theorem isStar_fnv {x0} : isStar (E.fnv x0) = false := rfl
@[simp] theorem isStar_gl {x0} : isStar (E.gl x0) = false := rfl
@[simp] theorem isStar_v {x0} : isStar (E.v x0) = false := rfl
@[simp] theorem isStar_p {x0} : isStar (E.p x0) = false := rfl
@[simp] theorem isStar_mv {x0} : isStar (E.mv x0) = false := rfl
@[simp] theorem isStar_pp {x0} {x1} : isStar (E.pp x0 x1) = false := rfl
@[simp] theorem isStar_u {x0} {x1} : isStar (E.u x0 x1) = false := rfl
@[simp] theorem isStar_b {x0} {x1} {x2} : isStar (E.b x0 x1 x2) = false := rfl
@[simp] theorem isStar_chain {x0} {x1} {x2} {x3} {x4} : isStar (E.chain x0 x1 x2 x3 x4) = false := rfl
@[simp] theorem isStar_slice {x0} {x1} {x2} : isStar (E.slice x0 x1 x2) = false := rfl
@[simp] theorem isStar_getd {x0} {x1} {x2} : isStar (E.getd x0 x1 x2) = false := rfl
@[simp] theorem isStar_exf {x0} {x1} : isStar (E.exf x0 x1) = false := rfl
@[simp] theorem isStar_setd {x0} {x1} {x2} : isStar (E.setd x0 x1 x2) = false := rfl
@[simp] theorem isStar_frz {x0} : isStar (E.frz x0) = false := rfl
@[simp] theorem isStar_popl {x0} : isStar (E.popl x0) = false := rfl
@[simp] theorem isStar_and_ {x0} {x1} : isStar (E.and_ x0 x1) = false := rfl
@[simp] theorem isStar_or_ {x0} {x1} : isStar (E.or_ x0 x1) = false := rfl
@[simp] theorem isStar_tr {x0} : isStar (E.tr x0) = false := rfl
@[simp] theorem isStar_ite {x0} {x1} {x2} : isStar (E.ite x0 x1 x2) = false := rfl
@[simp] theorem isStar_tup {x0} : isStar (E.tup x0) = false := rfl
@[simp] theorem isStar_lst {x0} : isStar (E.lst x0) = false := rfl
@[simp] theorem isStar_dict0 : isStar (E.dict0) = false := rfl
@[simp] theorem isStar_call {x0} {x1} : isStar (E.call x0 x1) = false := rfl
@[simp] theorem isStar_callv {x0} {x1} : isStar (E.callv x0 x1) = false := rfl
@[simp] theorem isStar_enum {x0} : isStar (E.enum x0) = false := rfl
@[simp] theorem isStar_range {x0} : isStar (E.range x0) = false := rfl
@[simp] theorem isStar_srtk {x0} {x1} {x2} : isStar (E.srtk x0 x1 x2) = false := rfl
@[simp] theorem isStar_srtf {x0} {x1} : isStar (E.srtf x0 x1) = false := rfl
@[simp] theorem isStar_lc {x0} {x1} {x2} {x3} {x4} : isStar (E.lc x0 x1 x2 x3 x4) = false := rfl
@[simp] theorem isStar_lc2 {x0} {x1} {x2} {x3} {x4} {x5} {x6} {x7} {x8} : isStar (E.lc2 x0 x1 x2 x3 x4 x5 x6 x7 x8) = false := rfl
@[simp] theorem isStar_dc {x0} {x1} {x2} {x3} {x4} {x5} : isStar (E.dc x0 x1 x2 x3 x4 x5) = false := rfl
@[simp] theorem isStar_dc2 {x0} {x1} {x2} {x3} {x4} {x5} {x6} {x7} {x8} {x9} : isStar (E.dc2 x0 x1 x2 x3 x4 x5 x6 x7 x8 x9) = false := rfl
theorem evs_cons (h : isStar e = false) : evs C G (e :: r) s = (ev C G e s).bind (kEs C G r) := by
  unfold evs
  cases e <;> first | rfl | cases h
@[simp] theorem eva_nil : eva C G [] s = .ok [] s := rfl
@[simp] theorem eva_mu : eva C G (.mu i :: r) s = (peek i s).bind (kAm C G i r) := rfl
@[simp] theorem eva_star : eva C G (.star e :: r) s = (ev C G e s).bind (kAt1 C G r) := rfl
theorem eva_cons (h : isStar e = false) : eva C G (e :: r) s = (ev C G e s).bind (kAs C G r) := by
  unfold eva
  cases e <;> first | rfl | cases h
end
section
variable (C : Calls) (G : List D) (s : S) (r : List E)
@[simp] theorem evs_c_k {x0} : evs C G ((E.k x0) :: r) s = (ev C G (E.k x0) s).bind (kEs C G r) := rfl
@[simp] theorem eva_c_k {x0} : eva C G ((E.k x0) :: r) s = (ev C G (E.k x0) s).bind (kAs C G r) := rfl
@[simp] theorem evs_c_fnv {x0} : evs C G ((E.fnv x0) :: r) s = (ev C G (E.fnv x0) s).bind (kEs C G r) := rfl
@[simp] theorem eva_c_fnv {x0} : eva C G ((E.fnv x0) :: r) s = (ev C G (E.fnv x0) s).bind (kAs C G r) := rfl
@[simp] theorem evs_c_gl {x0} : evs C G ((E.gl x0) :: r) s = (ev C G (E.gl x0) s).bind (kEs C G r) := rfl
@[simp] theorem eva_c_gl {x0} : eva C G ((E.gl x0) :: r) s = (ev C G (E.gl x0) s).bind (kAs C G r) := rfl
@[simp] theorem evs_c_v {x0} : evs C G ((E.v x0) :: r) s = (ev C G (E.v x0) s).bind (kEs C G r) := rfl
@[simp] theorem eva_c_v {x0} : eva C G ((E.v x0) :: r) s = (ev C G (E.v x0) s).bind (kAs C G r) := rfl
@[simp] theorem evs_c_p {x0} : evs C G ((E.p x0) :: r) s = (ev C G (E.p x0) s).bind (kEs C G r) := rfl
@[simp] theorem eva_c_p {x0} : eva C G ((E.p x0) :: r) s = (ev C G (E.p x0) s).bind (kAs C G r) := rfl
@[simp] theorem evs_c_mv {x0} : evs C G ((E.mv x0) :: r) s = (ev C G (E.mv x0) s).bind (kEs C G r) := rfl
@[simp] theorem eva_c_mv {x0} : eva C G ((E.mv x0) :: r) s = (ev C G (E.mv x0) s).bind (kAs C G r) := rfl
@[simp] theorem evs_c_pp {x0} {x1} : evs C G ((E.pp x0 x1) :: r) s = (ev C G (E.pp x0 x1) s).bind (kEs C G r) := rfl
@[simp] theorem eva_c_pp {x0} {x1} : eva C G ((E.pp x0 x1) :: r) s = (ev C G (E.pp x0 x1) s).bind (kAs C G r) := rfl
@[simp] theorem evs_c_u {x0} {x1} : evs C G ((E.u x0 x1) :: r) s = (ev C G (E.u x0 x1) s).bind (kEs C G r) := rfl
@[simp] theorem eva_c_u {x0} {x1} : eva C G ((E.u x0 x1) :: r) s = (ev C G (E.u x0 x1) s).bind (kAs C G r) := rfl
@[simp] theorem evs_c_b {x0} {x1} {x2} : evs C G ((E.b x0 x1 x2) :: r) s = (ev C G (E.b x0 x1 x2) s).bind (kEs C G r) := rfl
@[simp] theorem eva_c_b {x0} {x1} {x2} : eva C G ((E.b x0 x1 x2) :: r) s = (ev C G (E.b x0 x1 x2) s).bind (kAs C G r) := rfl
@[simp] theorem evs_c_chain {x0} {x1} {x2} {x3} {x4} : evs C G ((E.chain x0 x1 x2 x3 x4) :: r) s = (ev C G (E.chain x0 x1 x2 x3 x4) s).bind (kEs C G r) := rfl
@[simp] theorem eva_c_chain {x0} {x1} {x2} {x3} {x4} : eva C G ((E.chain x0 x1 x2 x3 x4) :: r) s = (ev C G (E.chain x0 x1 x2 x3 x4) s).bind (kAs C G r) := rfl
@[simp] theorem evs_c_slice {x0} {x1} {x2} : evs C G ((E.slice x0 x1 x2) :: r) s = (ev C G (E.slice x0 x1 x2) s).bind (kEs C G r) := rfl
@[simp] theorem eva_c_slice {x0} {x1} {x2} : eva C G ((E.slice x0 x1 x2) :: r) s = (ev C G (E.slice x0 x1 x2) s).bind (kAs C G r) := rfl
@[simp] theorem evs_c_getd {x0} {x1} {x2} : evs C G ((E.getd x0 x1 x2) :: r) s = (ev C G (E.getd x0 x1 x2) s).bind (kEs C G r) := rfl
@[simp] theorem eva_c_getd {x0} {x1} {x2} : eva C G ((E.getd x0 x1 x2) :: r) s = (ev C G (E.getd x0 x1 x2) s).bind (kAs C G r) := rfl
@[simp] theorem evs_c_exf {x0} {x1} : evs C G ((E.exf x0 x1) :: r) s = (ev C G (E.exf x0 x1) s).bind (kEs C G r) := rfl
@[simp] theorem eva_c_exf {x0} {x1} : eva C G ((E.exf x0 x1) :: r) s = (ev C G (E.exf x0 x1) s).bind (kAs C G r) := rfl
@[simp] theorem evs_c_setd {x0} {x1} {x2} : evs C G ((E.setd x0 x1 x2) :: r) s = (ev C G (E.setd x0 x1 x2) s).bind (kEs C G r) := rfl
@[simp] theorem eva_c_setd {x0} {x1} {x2} : eva C G ((E.setd x0 x1 x2) :: r) s = (ev C G (E.setd x0 x1 x2) s).bind (kAs C G r) := rfl
@[simp] theorem evs_c_frz {x0} : evs C G ((E.frz x0) :: r) s = (ev C G (E.frz x0) s).bind (kEs C G r) := rfl
@[simp] theorem eva_c_frz {x0} : eva C G ((E.frz x0) :: r) s = (ev C G (E.frz x0) s).bind (kAs C G r) := rfl
@[simp] theorem evs_c_popl {x0} : evs C G ((E.popl x0) :: r) s = (ev C G (E.popl x0) s).bind (kEs C G r) := rfl
@[simp] theorem eva_c_popl {x0} : eva C G ((E.popl x0) :: r) s = (ev C G (E.popl x0) s).bind (kAs C G r) := rfl
@[simp] theorem evs_c_and_ {x0} {x1} : evs C G ((E.and_ x0 x1) :: r) s = (ev C G (E.and_ x0 x1) s).bind (kEs C G r) := rfl
@[simp] theorem eva_c_and_ {x0} {x1} : eva C G ((E.and_ x0 x1) :: r) s = (ev C G (E.and_ x0 x1) s).bind (kAs C G r) := rfl
@[simp] theorem evs_c_or_ {x0} {x1} : evs C G ((E.or_ x0 x1) :: r) s = (ev C G (E.or_ x0 x1) s).bind (kEs C G r) := rfl
@[simp] theorem eva_c_or_ {x0} {x1} : eva C G ((E.or_ x0 x1) :: r) s = (ev C G (E.or_ x0 x1) s).bind (kAs C G r) := rfl
@[simp] theorem evs_c_tr {x0} : evs C G ((E.tr x0) :: r) s = (ev C G (E.tr x0) s).bind (kEs C G r) := rfl
@[simp] theorem eva_c_tr {x0} : eva C G ((E.tr x0) :: r) s = (ev C G (E.tr x0) s).bind (kAs C G r) := rfl
@[simp] theorem evs_c_ite {x0} {x1} {x2} : evs C G ((E.ite x0 x1 x2) :: r) s = (ev C G (E.ite x0 x1 x2) s).bind (kEs C G r) := rfl
@[simp] theorem eva_c_ite {x0} {x1} {x2} : eva C G ((E.ite x0 x1 x2) :: r) s = (ev C G (E.ite x0 x1 x2) s).bind (kAs C G r) := rfl
@[simp] theorem evs_c_tup {x0} : evs C G ((E.tup x0) :: r) s = (ev C G (E.tup x0) s).bind (kEs C G r) := rfl
@[simp] theorem eva_c_tup {x0} : eva C G ((E.tup x0) :: r) s = (ev C G (E.tup x0) s).bind (kAs C G r) := rfl
@[simp] theorem evs_c_lst {x0} : evs C G ((E.lst x0) :: r) s = (ev C G (E.lst x0) s).bind (kEs C G r) := rfl
@[simp] theorem eva_c_lst {x0} : eva C G ((E.lst x0) :: r) s = (ev C G (E.lst x0) s).bind (kAs C G r) := rfl
@[simp] theorem evs_c_dict0 : evs C G ((E.dict0) :: r) s = (ev C G (E.dict0) s).bind (kEs C G r) := rfl
@[simp] theorem eva_c_dict0 : eva C G ((E.dict0) :: r) s = (ev C G (E.dict0) s).bind (kAs C G r) := rfl
@[simp] theorem evs_c_call {x0} {x1} : evs C G ((E.call x0 x1) :: r) s = (ev C G (E.call x0 x1) s).bind (kEs C G r) := rfl
@[simp] theorem eva_c_call {x0} {x1} : eva C G ((E.call x0 x1) :: r) s = (ev C G (E.call x0 x1) s).bind (kAs C G r) := rfl
@[simp] theorem evs_c_callv {x0} {x1} : evs C G ((E.callv x0 x1) :: r) s = (ev C G (E.callv x0 x1) s).bind (kEs C G r) := rfl
@[simp] theorem eva_c_callv {x0} {x1} : eva C G ((E.callv x0 x1) :: r) s = (ev C G (E.callv x0 x1) s).bind (kAs C G r) := rfl
@[simp] theorem evs_c_enum {x0} : evs C G ((E.enum x0) :: r) s = (ev C G (E.enum x0) s).bind (kEs C G r) := rfl
@[simp] theorem eva_c_enum {x0} : eva C G ((E.enum x0) :: r) s = (ev C G (E.enum x0) s).bind (kAs C G r) := rfl
@[simp] theorem evs_c_range {x0} : evs C G ((E.range x0) :: r) s = (ev C G (E.range x0) s).bind (kEs C G r) := rfl
@[simp] theorem eva_c_range {x0} : eva C G ((E.range x0) :: r) s = (ev C G (E.range x0) s).bind (kAs C G r) := rfl
@[simp] theorem evs_c_srtk {x0} {x1} {x2} : evs C G ((E.srtk x0 x1 x2) :: r) s = (ev C G (E.srtk x0 x1 x2) s).bind (kEs C G r) := rfl
@[simp] theorem eva_c_srtk {x0} {x1} {x2} : eva C G ((E.srtk x0 x1 x2) :: r) s = (ev C G (E.srtk x0 x1 x2) s).bind (kAs C G r) := rfl
@[simp] theorem evs_c_srtf {x0} {x1} : evs C G ((E.srtf x0 x1) :: r) s = (ev C G (E.srtf x0 x1) s).bind (kEs C G r) := rfl
@[simp] theorem eva_c_srtf {x0} {x1} : eva C G ((E.srtf x0 x1) :: r) s = (ev C G (E.srtf x0 x1) s).bind (kAs C G r) := rfl
@[simp] theorem evs_c_lc {x0} {x1} {x2} {x3} {x4} : evs C G ((E.lc x0 x1 x2 x3 x4) :: r) s = (ev C G (E.lc x0 x1 x2 x3 x4) s).bind (kEs C G r) := rfl
@[simp] theorem eva_c_lc {x0} {x1} {x2} {x3} {x4} : eva C G ((E.lc x0 x1 x2 x3 x4) :: r) s = (ev C G (E.lc x0 x1 x2 x3 x4) s).bind (kAs C G r) := rfl
@[simp] theorem evs_c_lc2 {x0} {x1} {x2} {x3} {x4} {x5} {x6} {x7} {x8} : evs C G ((E.lc2 x0 x1 x2 x3 x4 x5 x6 x7 x8) :: r) s = (ev C G (E.lc2 x0 x1 x2 x3 x4 x5 x6 x7 x8) s).bind (kEs C G r) := rfl
@[simp] theorem eva_c_lc2 {x0} {x1} {x2} {x3} {x4} {x5} {x6} {x7} {x8} : eva C G ((E.lc2 x0 x1 x2 x3 x4 x5 x6 x7 x8) :: r) s = (ev C G (E.lc2 x0 x1 x2 x3 x4 x5 x6 x7 x8) s).bind (kAs C G r) := rfl
@[simp] theorem evs_c_dc {x0} {x1} {x2} {x3} {x4} {x5} : evs C G ((E.dc x0 x1 x2 x3 x4 x5) :: r) s = (ev C G (E.dc x0 x1 x2 x3 x4 x5) s).bind (kEs C G r) := rfl
@[simp] theorem eva_c_dc {x0} {x1} {x2} {x3} {x4} {x5} : eva C G ((E.dc x0 x1 x2 x3 x4 x5) :: r) s = (ev C G (E.dc x0 x1 x2 x3 x4 x5) s).bind (kAs C G r) := rfl
@[simp] theorem evs_c_dc2 {x0} {x1} {x2} {x3} {x4} {x5} {x6} {x7} {x8} {x9} : evs C G ((E.dc2 x0 x1 x2 x3 x4 x5 x6 x7 x8 x9) :: r) s = (ev C G (E.dc2 x0 x1 x2 x3 x4 x5 x6 x7 x8 x9) s).bind (kEs C G r) := rfl
@[simp] theorem eva_c_dc2 {x0} {x1} {x2} {x3} {x4} {x5} {x6} {x7} {x8} {x9} : eva C G ((E.dc2 x0 x1 x2 x3 x4 x5 x6 x7 x8 x9) :: r) s = (ev C G (E.dc2 x0 x1 x2 x3 x4 x5 x6 x7 x8 x9) s).bind (kAs C G r) := rfl
end
section
variable {σ α β : Type} (x : α) (s : σ) (e : Ex) (k : α → σ → R σ β)
@[simp] theorem bind_ok : (R.ok x s).bind k = k x s := rfl
@[simp] theorem bind_exc : (R.exc e s : R σ α).bind k = .exc e s := rfl
@[simp] theorem bind_stuck : (R.stuck : R σ α).bind k = .stuck := rfl
@[simp] theorem ofO_some {α : Type} (x : α) (s : S) : ofO (some x) s = .ok x s := rfl
@[simp] theorem fl_ok {α : Type} (x : α) (s : S) (k : α → S → Fl) : (R.ok x s).fl k = k x s := rfl
@[simp] theorem fl_exc {α : Type} (e : Ex) (s : S) (k : α → S → Fl) : (R.exc e s : R S α).fl k = .exc e s := rfl
end

section
variable (C : Calls) (G : List D)
def Fl.andThen (o : Fl) (k : S → Fl) : Fl := match o with
  | .nx s => k s
  | o => o
@[simp] def kSet (tg : Tg) (x : X) (s : S) : Fl := asgFl (asg tg x s)
@[simp] def kPar (is : List Nat) (xs : List X) (s : S) : Fl := if xs.length = is.length then .nx (putBack is xs s) else .stuck
@[simp] def kAug2 (i : Nat) (o : B) (y : X) (x : X) (s : S) : Fl := augPut i s ((bop o x y).bind scalX)
@[simp] def kAug (i : Nat) (o : B) (y : X) (s : S) : Fl := (peek i s).fl (kAug2 i o y)
@[simp] noncomputable def kAug0 (i : Nat) (o : B) (e : E) (_x : X) (s : S) : Fl := (ev C G e s).fl (kAug i o)
@[simp] def kSi2 (i : Nat) (y : X) (kx : X) (s : S) : Fl := setOp i y s[i]? kx s
@[simp] noncomputable def kSi0 (i : Nat) (k : E) (y : X) (_x : X) (s : S) : Fl := (ev C G k s).fl (kSi2 i y)
@[simp] noncomputable def kSi1 (i : Nat) (k : E) (y : X) (s : S) : Fl := (peek i s).fl (kSi0 C G i k y)
@[simp] def kAi4 (i : Nat) (kx : X) (z : X) (s : S) : Fl := setOp i z s[i]? kx s
@[simp] def kAi3 (i : Nat) (o : B) (kx : X) (x : X) (y : X) (s : S) : Fl := (ofO ((bop o x y).bind scalX) s).fl (kAi4 i kx)
@[simp] noncomputable def kAi2 (i : Nat) (o : B) (e : E) (kx : X) (x : X) (s : S) : Fl := (ev C G e s).fl (kAi3 i o kx x)
@[simp] noncomputable def kAi1 (i : Nat) (o : B) (e : E) (kx : X) (s : S) : Fl := (ofO (itemAt s[i]? kx) s).fl (kAi2 C G i o e kx)
@[simp] def kAppS (i : Nat) (y : X) (s : S) : Fl := appOp i y s[i]? s
@[simp] def kExt (i : Nat) (y : X) (s : S) : Fl := extOp i s[i]? (seqD y) s
@[simp] def kIns2 (i : Nat) (kx : X) (y : X) (s : S) : Fl := insOp i y s[i]? kx s
@[simp] noncomputable def kIns1 (i : Nat) (e : E) (kx : X) (s : S) : Fl := (ev C G e s).fl (kIns2 i kx)
@[simp] def kUpd (i : Nat) (y : X) (s : S) : Fl := updOp i s[i]? y s
@[simp] def kAx2 (i : Nat) (kx : X) (y : X) (s : S) : Fl := appixOp i y s[i]? kx s
@[simp] noncomputable def kAx1 (i : Nat) (e : E) (kx : X) (s : S) : Fl := (ev C G e s).fl (kAx2 i kx)
@[simp] def kEx2 (i : Nat) (kx : X) (y : X) (s : S) : Fl := extixOp i s[i]? kx (items y) s
@[simp] noncomputable def kEx1 (i : Nat) (e : E) (kx : X) (s : S) : Fl := (ev C G e s).fl (kEx2 i kx)
@[simp] def kSda2 (i : Nat) (kd : D) (l : List (D × X)) (r : List X) (y : X) (s : S) : Fl := if r.length < lim then .nx (s.set i (some (.dic (putD kd (.lst (r ++ [y])) l)))) else .stuck
@[simp] noncomputable def sdaOp (i : Nat) (e : E) (s : S) : Option (D × List (D × X) × List X) → Fl
  | some (kd, l, r) => (ev C G e (s.set i none)).fl (kSda2 i kd l r)
  | none => .stuck
@[simp] noncomputable def kSda (i : Nat) (e : E) (kx : X) (s : S) : Fl := sdaOp C G i e s (sdaAt s[i]? kx)
@[simp] def kDrop (_x : X) (s : S) : Fl := .nx s
@[simp] noncomputable def kIf (a b : List St) (t : Bool) (s : S) : Fl := if t then exs C G a s else exs C G b s
noncomputable def forT0 (kill : List Nat) (body : List St) : Option S → Fl
  | none => .stuck
  | some s => (exs C G body s).kill kill
/-- a turn of a for -/
noncomputable def forT (kill : List Nat) (tg : Tg) (body : List St) (x : X) (s : S) : Fl := forT0 C G kill body (asg tg x s)
noncomputable def forI (kill : List Nat) (tg : Tg) (body : List St) (s : S) : Option (List X) → Fl
  | none => .stuck
  | some l => forL (forT C G kill tg body) l (kills kill s)
noncomputable def kFor (kill : List Nat) (tg : Tg) (body : List St) (x : X) (s : S) : Fl := forI C G kill tg body s (items x)
noncomputable def whC (c : E) (s : S) : R S Bool := tst C G c s
noncomputable def whB (kill : List Nat) (body : List St) (s : S) : Fl := (exs C G body s).kill kill
@[simp] def kRet (x : X) (s : S) : Fl := .rt x s
@[simp] def kRaise (c : Nat) (xs : List X) (s : S) : Fl := raiseOp c s (dats? xs)
noncomputable def Fl.catch (o : Fl) (hs : List Hn) : Fl := match o with
  | .exc e s => exh C G hs e s
  | o => o

variable (s : S) (i : Nat) (c e k it : E) (tg : Tg) (kill is : List Nat) (es : List E) (o : B) (a b body : List St)
@[simp] theorem ex_set : ex1 C G (.set tg e) s = (ev C G e s).fl (kSet tg) := rfl
@[simp] theorem ex_par : ex1 C G (.par is es) s = (evs C G es s).fl (kPar is) := rfl
@[simp] theorem ex_aug : ex1 C G (.aug i o e) s = (peek i s).fl (kAug0 C G i o e) := rfl
@[simp] theorem ex_setix : ex1 C G (.setix i k e) s = (ev C G e s).fl (kSi1 C G i k) := rfl
@[simp] theorem ex_augix : ex1 C G (.augix i k o e) s = (ev C G k s).fl (kAi1 C G i o e) := rfl
@[simp] theorem ex_app : ex1 C G (.app i e) s = if isLstAt s[i]? then (ev C G e s).fl (kAppS i) else .stuck := rfl
@[simp] theorem ex_ext : ex1 C G (.ext i e) s = if isLstAt s[i]? then (ev C G e s).fl (kExt i) else .stuck := rfl
@[simp] theorem ex_ins : ex1 C G (.ins i k e) s = if isLstAt s[i]? then (ev C G k s).fl (kIns1 C G i e) else .stuck := rfl
@[simp] theorem ex_upd : ex1 C G (.upd i e) s = (ev C G e s).fl (kUpd i) := rfl
@[simp] theorem ex_appix : ex1 C G (.appix i k e) s = (ev C G k s).fl (kAx1 C G i e) := rfl
@[simp] theorem ex_extix : ex1 C G (.extix i k e) s = (ev C G k s).fl (kEx1 C G i e) := rfl
@[simp] theorem ex_setdapp : ex1 C G (.setdapp i k e) s = if isDicAt s[i]? then (ev C G k s).fl (kSda C G i e) else .stuck := rfl
@[simp] theorem ex_ex : ex1 C G (.ex e) s = (ev C G e s).fl kDrop := rfl
@[simp] theorem ex_if : ex1 C G (.if_ c a b) s = (tst C G c s).fl (kIf C G a b) := rfl
@[simp] theorem ex_for : ex1 C G (.for_ kill tg it body) s = (ev C G it s).fl (kFor C G kill tg body) := rfl
@[simp] theorem ex_while : ex1 C G (.while_ kill c body) s = whileL (whC C G c) (whB C G kill body) fuelW (kills kill s) := rfl
@[simp] theorem ex_ret : ex1 C G (.ret e) s = (ev C G e s).fl kRet := rfl
@[simp] theorem ex_retN : ex1 C G .retN s = .rt (.d .none) s := rfl
@[simp] theorem ex_raise (c : Nat) : ex1 C G (.raise c es) s = (evs C G es s).fl (kRaise c) := rfl
@[simp] theorem ex_try (hs : List Hn) : ex1 C G (.try_ body hs) s = (exs C G body s).catch C G hs := by
  unfold ex1 Fl.catch
  cases exs C G body s <;> rfl
@[simp] theorem ex_brk : ex1 C G .brk s = .bk s := rfl
@[simp] theorem ex_cont : ex1 C G .cont s = .ct s := rfl
@[simp] theorem ex_pass : ex1 C G .pass s = .nx s := rfl
@[simp] theorem exs_nil : exs C G [] s = .nx s := rfl
@[simp] theorem exs_cons (st : St) : exs C G (st :: body) s = (ex1 C G st s).andThen (exs C G body) := by
  show (match ex1 C G st s with | .nx s => exs C G body s | o => o) = _
  cases ex1 C G st s <;> rfl
end
/-- what the end of a body hands back -/
@[simp] def outM (o : Option (List X)) (k : List X → Out) : Out := match o with
  | some ms => k ms
  | none => .stuck
def outOf (mu : List Nat) : Fl → Out
  | .rt x s => outM (muOut mu s) (Out.ok x)
  | .nx s => outM (muOut mu s) (Out.ok (.d .none))
  | .exc e s => outM (muOut mu s) (Out.exc e)
  | _ => .stuck
theorem call_eq {F : Nat → Option Fd} {G : List D} {f : Nat} {fd : Fd} (n : Nat) (xs : List X) (h : F f = some fd) (hl : xs.length = fd.ps) :
    call F G (n + 1) f xs = outOf fd.mu (exs (call F G n) G fd.body (xs.map some ++ List.replicate (fd.ns - fd.ps) none)) := by
  unfold call
  rw [h]
  show (if xs.length = fd.ps then _ else _) = _
  rw [if_pos hl]
  generalize exs (call F G n) G fd.body (xs.map some ++ List.replicate (fd.ns - fd.ps) none) = o
  cases o <;> first | rfl | (unfold outOf outM; dsimp only; split <;> rfl)
section
variable (C : Calls) (G : List D) (s : S) (x y : X) (b c : E) (t : Bool) (e : Ex) (mu : List Nat)
@[simp] theorem kAnd_bl : kAnd C G b (.d (.bool t)) s = if t then ev C G b s else .ok (.d (.bool false)) s := by cases t <;> rfl
@[simp] theorem kOr_bl : kOr C G b (.d (.bool t)) s = if t then .ok (.d (.bool true)) s else ev C G b s := by cases t <;> rfl
@[simp] theorem kC3_bl (o : B) : kC3 C G o y c (.d (.bool t)) s = if t then (ev C G c s).bind (kC4 o y) else .ok (.d (.bool false)) s := by cases t <;> rfl
@[simp] theorem outOf_rt : outOf mu (.rt x s) = outM (muOut mu s) (Out.ok x) := rfl
@[simp] theorem outOf_nx : outOf mu (.nx s) = outM (muOut mu s) (Out.ok (.d .none)) := rfl
@[simp] theorem outOf_exc : outOf mu (.exc e s) = outM (muOut mu s) (Out.exc e) := rfl
end
section
variable (s : S) (k : S → Fl) (x : X) (e : Ex)
@[simp] theorem and_nx : (Fl.nx s).andThen k = k s := rfl
@[simp] theorem and_rt : (Fl.rt x s).andThen k = .rt x s := rfl
@[simp] theorem and_bk : (Fl.bk s).andThen k = .bk s := rfl
@[simp] theorem and_ct : (Fl.ct s).andThen k = .ct s := rfl
@[simp] theorem and_exc : (Fl.exc e s).andThen k = .exc e s := rfl
@[simp] theorem kill_nx (own : List Nat) : (Fl.nx s).kill own = .nx (kills own s) := rfl
@[simp] theorem kill_rt (own : List Nat) : (Fl.rt x s).kill own = .rt x s := rfl
@[simp] theorem kill_bk (own : List Nat) : (Fl.bk s).kill own = .bk (kills own s) := rfl
@[simp] theorem kill_ct (own : List Nat) : (Fl.ct s).kill own = .ct (kills own s) := rfl
@[simp] theorem kill_exc (own : List Nat) : (Fl.exc e s).kill own = .exc e s := rfl
end
end Mp
set_option maxHeartbeats 200000
/-! Snd1: what an interpreter's value is in the machine's (abstract) heap. -/
namespace Mp
open PySem PySem.Spec PyProof.Rows L2

/-- what may be changed by its owner -/
def own : HO → Bool
  | .lst _ => true
  | .ext _ => true
  | _ => false
/-- the object at a is a dict of these entries -/
def IsDic (a : Addr) (es : List DictEntry) (h : Heap) : Prop := (a == sysModules) = false ∧ es.length ≤ sizeLine ∧ ∃ o ep, h.get? a = some o ∧ o.ExactDict ∧ o.data = .dict es.toArray ep
def dicO (a : Addr) (es : List DictEntry) : HO := .ext (IsDic a es)

/-- what a law's text fixes: where the defs stand, the world -/
structure Lay where
  /-- the tables of code objects that lambdas grow, and the lambdas' names -/
  tbs : List (Addr × Str) := []
  /-- the defs' addresses; the exception classes; the names of their own fields -/
  fa : Nat → Addr
  fn : Nat → Bool
  cls : Nat → Value
  fld : Nat → List Str
structure Cf where
  K : PySem.W.Frag
  w : World
  L : Lay
abbrev Ad := Addr → Prop

/-- a text that the machine may hold -/
def okS (x : Str) : Prop := PyData.strOk x = true ∧ x.length ≤ lim
theorem okS_sub {z x : Str} (h : okS z) (hl : x.length ≤ 1 ∨ x.length ≤ z.length) (hm : ∀ c ∈ x.cps.toList, c ∈ z.cps.toList) : okS x := by
  refine ⟨?_, ?_⟩
  · have h1 := h.1
    unfold PyData.strOk at *
    rw [← Array.all_toList] at *
    exact List.all_eq_true.mpr fun c hc => List.all_eq_true.mp h1 c (hm c hc)
  · have := h.2
    unfold lim at *
    omega
mutual
/-- a datum; Z: the lists that no one changes any more -/
inductive RD (c : Cf) (Z : Ad) (H : Hp) : D → V → Prop
  | none : RD c Z H .none .non
  | bool (b : Bool) : RD c Z H (.bool b) (.bl b)
  | int (i : Int) : RD c Z H (.int i) (.int i)
  | str (x : Str) (h : okS x) : RD c Z H (.str x) (.str x)
  | tup {a : Addr} {vs : List V} {l : List D} : SqT c.K H a vs → RDs c Z H l vs → RD c Z H (.tuple l) (.ref a)
  | lstZ {a : Addr} {vs : List V} {l : List D} : H a = some (.lst vs) → Z a → RDs c Z H l vs → RD c Z H (.list l) (.ref a)
  | lstK {a : Addr} {its : Array Value} {n : Nat} {vs : List V} {l : List D} : c.K.lookup a = some { cls := .type "list", data := .seq its n } → its.size ≤ sizeLine → Vals vs its.toList → RDs c Z H l vs → RD c Z H (.list l) (.ref a)
  | lstF {a : Addr} {o : Obj} {vs : List V} {l : List D} : H a = some (.frz o (.lst vs)) → RDs c Z H l vs → RD c Z H (.list l) (.ref a)
inductive RDs (c : Cf) (Z : Ad) (H : Hp) : List D → List V → Prop
  | nil : RDs c Z H [] []
  | cons {d : D} {v : V} {l : List D} {vs : List V} : RD c Z H d v → RDs c Z H l vs → RDs c Z H (d :: l) (v :: vs)
end
mutual
/-- what a dict's key is worth, by the kind of keys -/
def nk : D → NestedKey
  | .int i => .num i
  | .str x => .text x
  | .tuple l => .tup (nks l)
  | _ => .none
def nks : List D → List NestedKey
  | [] => []
  | d :: r => nk d :: nks r
end
/-- the keys of a dict: of one kind, unlike -/
structure DK (kvs : List (D × X)) : Prop where
  kd : ∀ p ∈ kvs, kindK p.1 = some false
  nd : (kvs.map fun p => nk p.1).Nodup
mutual
/-- a value; the addresses of what it owns -/
inductive RX (c : Cf) (Z : Ad) (H : Hp) : X → V → List Addr → Prop
  | d {x : D} {v : V} : RD c Z H x v → RX c Z H (.d x) v []
  | fn (f : Nat) (h : c.L.fn f = true) : RX c Z H (.fn f) (.ref (c.L.fa f)) []
  | lst {a : Addr} {vs : List V} {xs : List X} {F : List Addr} : H a = some (.lst vs) → RXs c Z H xs vs F → RX c Z H (.lst xs) (.ref a) (a :: F)
  | dic {a : Addr} {es : List DictEntry} {kvs : List (D × X)} {F : List Addr} : H a = some (dicO a es) → DK kvs → REs c Z H kvs es F → RX c Z H (.dic kvs) (.ref a) (a :: F)
inductive RXs (c : Cf) (Z : Ad) (H : Hp) : List X → List V → List Addr → Prop
  | nil : RXs c Z H [] [] []
  | cons {x : X} {v : V} {xs : List X} {vs : List V} {F F' : List Addr} : RX c Z H x v F → RXs c Z H xs vs F' → RXs c Z H (x :: xs) (v :: vs) (F ++ F')
/-- the entries of a dict -/
inductive REs (c : Cf) (Z : Ad) (H : Hp) : List (D × X) → List DictEntry → List Addr → Prop
  | nil : REs c Z H [] [] []
  | cons {k : D} {x : X} {kv v : V} {e : DictEntry} {r : List (D × X)} {es : List DictEntry} {F F' : List Addr} : RD c Z H k kv → RelV kv e.key → e.hash = (nk k).hash c.w → RX c Z H x v F → RelV v e.val → REs c Z H r es F' → REs c Z H ((k, x) :: r) (e :: es) (F ++ F')
end

/-- no table of code objects -/
def nt : HO → Bool
  | .tbl _ => false
  | _ => true
theorem own_nt {o : HO} (h : own o = true) : nt o = true := by cases o <;> first | rfl | cases h
/-- the table at P grows: what it tells are code objects of that name -/
def TabW (H : Hp) (P : Addr) (q : Str) : Prop := ∃ ps : Array Value, H P = some (.tbl ps) ∧ TriplesOk ps.toList ∧ ∀ (pos : Pos) (cv : Value), codeAmong pos ps.toList = some cv → ∃ c oc, cv = .ref c ∧ H c = some (.frz oc (LamX.CodeO c q))
def Tbs (T : List (Addr × Str)) (H : Hp) : Prop := ∀ p ∈ T, TabW H p.1 p.2
theorem TabW.mono {H H' : Hp} {P : Addr} {q : Str} (t : TabW H P q) (k : ∀ b o, H b = some o → own o = false → H' b = some o) : TabW H' P q := by
  obtain ⟨ps, h1, h2, h3⟩ := t
  refine ⟨ps, k _ _ h1 rfl, h2, fun pos cv hc => ?_⟩
  obtain ⟨c, oc, e1, e2⟩ := h3 pos cv hc
  exact ⟨c, oc, e1, k _ _ e2 rfl⟩
theorem Tbs.mono {T : List (Addr × Str)} {H H' : Hp} (t : Tbs T H) (k : ∀ b o, H b = some o → own o = false → H' b = some o) : Tbs T H' := fun p hp => (t p hp).mono k
/-- an owned object is written -/
theorem Tbs.upd {T : List (Addr × Str)} {H : Hp} {a : Addr} {o : HO} (t : Tbs T H) (h : ∀ u, H a = some u → own u = true) : Tbs T (L2.upd H a o) := t.mono fun b u e hu => by
  rw [upd_ne fun z => by
    subst z
    rw [h u e] at hu
    cases hu]
  exact e

/-- there stand tables -/
def Tb0 (T : List Addr) (H : Hp) : Prop := ∀ p ∈ T, ∃ ps, H p = some (.tbl ps)
theorem Tb0.mono {T : List Addr} {H H' : Hp} (t : Tb0 T H) (k : ∀ b o, H b = some o → own o = false → H' b = some o) : Tb0 T H' := fun p hp => let ⟨ps, e⟩ := t p hp; ⟨ps, k _ _ e rfl⟩
theorem Tb0.upd {T : List Addr} {H : Hp} {a : Addr} {o : HO} (t : Tb0 T H) (h : ∀ u, H a = some u → own u = true) : Tb0 T (L2.upd H a o) := t.mono fun b u e hu => by
  rw [upd_ne fun z => by
    subst z
    rw [h u e] at hu
    cases hu]
  exact e

/-- H' has all of H that may be leaned on: what is not owned, and the frozen -/
structure Kp (Z : Ad) (H : Hp) (Z' : Ad) (H' : Hp) : Prop where
  keep : ∀ b o, H b = some o → nt o = true → own o = false ∨ Z b → H' b = some o
  zz : ∀ b, Z b → Z' b
section
variable {c : Cf} {Z Z' : Ad} {H H' : Hp}
theorem Rd.kp {a : Addr} {u : HO} (k : Kp Z H Z' H') (r : Rd H a u) (hn : nt u = true) (h : own u = false ∨ Z a) : Rd H' a u := by
  rcases r with r | ⟨o, r⟩
  · exact .inl (k.keep a u r hn h)
  · exact .inr ⟨o, k.keep a _ r rfl (.inl rfl)⟩
theorem SqT.kp {a : Addr} {vs : List V} (k : Kp Z H Z' H') (r : SqT c.K H a vs) : SqT c.K H' a vs := by
  rcases r with r | r
  · exact .inl (Rd.kp k r rfl (.inl rfl))
  · exact .inr r

mutual
theorem RD.kp (k : Kp Z H Z' H') : ∀ {d : D} {v : V}, RD c Z H d v → RD c Z' H' d v
  | _, _, .none => .none
  | _, _, .bool b => .bool b
  | _, _, .int i => .int i
  | _, _, .str x h => .str x h
  | _, _, .tup h1 h2 => .tup (SqT.kp k h1) (RDs.kp k h2)
  | _, _, .lstZ h1 h2 h3 => .lstZ (k.keep _ _ h1 rfl (.inr h2)) (k.zz _ h2) (RDs.kp k h3)
  | _, _, .lstK h1 h2 h3 h4 => .lstK h1 h2 h3 (RDs.kp k h4)
  | _, _, .lstF h1 h3 => .lstF (k.keep _ _ h1 rfl (.inl rfl)) (RDs.kp k h3)
theorem RDs.kp (k : Kp Z H Z' H') : ∀ {l : List D} {vs : List V}, RDs c Z H l vs → RDs c Z' H' l vs
  | _, _, .nil => .nil
  | _, _, .cons h1 h2 => .cons (RD.kp k h1) (RDs.kp k h2)
end
mutual
theorem RX.kp (k : Kp Z H Z' H') : ∀ {x : X} {v : V} {F : List Addr}, RX c Z H x v F → (∀ b ∈ F, ∀ o, H b = some o → H' b = some o) → RX c Z' H' x v F
  | _, _, _, .d h, _ => .d (RD.kp k h)
  | _, _, _, .fn f h, _ => .fn f h
  | _, _, _, .lst h1 h2, hF => .lst (hF _ List.mem_cons_self _ h1) (RXs.kp k h2 fun b hb => hF b (List.mem_cons_of_mem _ hb))
  | _, _, _, .dic h1 h2 h3, hF => .dic (hF _ List.mem_cons_self _ h1) h2 (REs.kp k h3 fun b hb => hF b (List.mem_cons_of_mem _ hb))
theorem RXs.kp (k : Kp Z H Z' H') : ∀ {x : List X} {v : List V} {F : List Addr}, RXs c Z H x v F → (∀ b ∈ F, ∀ o, H b = some o → H' b = some o) → RXs c Z' H' x v F
  | _, _, _, .nil, _ => .nil
  | _, _, _, .cons h1 h2, hF => .cons (RX.kp k h1 fun b hb => hF b (List.mem_append_left _ hb)) (RXs.kp k h2 fun b hb => hF b (List.mem_append_right _ hb))
theorem REs.kp (k : Kp Z H Z' H') : ∀ {x : List (D × X)} {v : List DictEntry} {F : List Addr}, REs c Z H x v F → (∀ b ∈ F, ∀ o, H b = some o → H' b = some o) → REs c Z' H' x v F
  | _, _, _, .nil, _ => .nil
  | _, _, _, .cons h1 h2 h3 h4 h5 h6, hF => .cons (RD.kp k h1) h2 h3 (RX.kp k h4 fun b hb => hF b (List.mem_append_left _ hb)) h5 (REs.kp k h6 fun b hb => hF b (List.mem_append_right _ hb))
end
mutual
/-- frozen: what it owns is given to Z -/
theorem RX.frz (k : Kp Z H Z' H) : ∀ {x : X} {v : V} {F : List Addr} {d : D}, RX c Z H x v F → dat? x = some d → (∀ b ∈ F, Z' b) → RD c Z' H d v
  | _, _, _, _, .d h, e, _ => by
    cases e
    exact RD.kp k h
  | _, _, _, _, .fn _ _, e, _ => nomatch e
  | _, _, _, _, .dic _ _ _, e, _ => nomatch e
  | .lst xs, _, _, d, .lst h1 h2, e, hF => by
    have e' : (dats? xs).map PyData.list = some d := e
    cases q : dats? xs with
    | none => rw [q] at e'; cases e'
    | some l =>
      rw [q] at e'
      cases e'
      exact .lstZ h1 (hF _ List.mem_cons_self) (RXs.frz k h2 q fun b hb => hF b (List.mem_cons_of_mem _ hb))
theorem RXs.frz (k : Kp Z H Z' H) : ∀ {x : List X} {v : List V} {F : List Addr} {d : List D}, RXs c Z H x v F → dats? x = some d → (∀ b ∈ F, Z' b) → RDs c Z' H d v
  | _, _, _, _, .nil, e, _ => by
    cases e
    exact .nil
  | x :: xs, _, _, d, .cons h1 h2, e, hF => by
    have e' : ((dat? x).bind fun v => (dats? xs).map (v :: ·)) = some d := e
    cases q : dat? x with
    | none => rw [q] at e'; cases e'
    | some v =>
      rw [q] at e'
      cases q2 : dats? xs with
      | none => rw [q2] at e'; cases e'
      | some l =>
        rw [q2] at e'
        cases e'
        exact .cons (RX.frz k h1 q fun b hb => hF b (List.mem_append_left _ hb)) (RXs.frz k h2 q2 fun b hb => hF b (List.mem_append_right _ hb))
end
mutual
theorem RX.own : ∀ {x : X} {v : V} {F : List Addr}, RX c Z H x v F → ∀ b ∈ F, ∃ o, H b = some o ∧ own o = true
  | _, _, _, .d h, _, hb => nomatch hb
  | _, _, _, .fn _ _, _, hb => nomatch hb
  | _, _, _, .lst h1 h2, b, hb => by
    rcases List.mem_cons.mp hb with rfl | hb
    · exact ⟨_, h1, rfl⟩
    · exact RXs.own h2 b hb
  | _, _, _, .dic h1 h2 h3, b, hb => by
    rcases List.mem_cons.mp hb with rfl | hb
    · exact ⟨_, h1, rfl⟩
    · exact REs.own h3 b hb
theorem RXs.own : ∀ {x : List X} {v : List V} {F : List Addr}, RXs c Z H x v F → ∀ b ∈ F, ∃ o, H b = some o ∧ own o = true
  | _, _, _, .nil, _, hb => nomatch hb
  | _, _, _, .cons h1 h2, b, hb => by
    rcases List.mem_append.mp hb with hb | hb
    · exact RX.own h1 b hb
    · exact RXs.own h2 b hb
theorem REs.own : ∀ {x : List (D × X)} {v : List DictEntry} {F : List Addr}, REs c Z H x v F → ∀ b ∈ F, ∃ o, H b = some o ∧ own o = true
  | _, _, _, .nil, _, hb => nomatch hb
  | _, _, _, .cons _ _ _ h1 _ h2, b, hb => by
    rcases List.mem_append.mp hb with hb | hb
    · exact RX.own h1 b hb
    · exact REs.own h2 b hb
end
theorem RDs.length : ∀ {l : List D} {vs : List V}, RDs c Z H l vs → l.length = vs.length
  | _, _, .nil => rfl
  | _, _, .cons _ h => by simp [RDs.length h]
theorem RXs.length : ∀ {l : List X} {vs : List V} {F : List Addr}, RXs c Z H l vs F → l.length = vs.length
  | _, _, _, .nil => rfl
  | _, _, _, .cons _ h => by simp [RXs.length h]
theorem RDs.xs : ∀ {l : List D} {vs : List V}, RDs c Z H l vs → RXs c Z H (l.map X.d) vs []
  | _, _, .nil => .nil
  | _, _, .cons h1 h2 => .cons (F := []) (F' := []) (.d h1) (RDs.xs h2)
theorem RDs.get : ∀ {l : List D} {vs : List V} {i : Nat} {d : D}, RDs c Z H l vs → l[i]? = some d → ∃ v, vs[i]? = some v ∧ RD c Z H d v
  | _, _, _, _, .nil, e => by simp at e
  | _, _, 0, _, .cons h1 _, e => by simp at e; subst e; exact ⟨_, rfl, h1⟩
  | _, _, i + 1, d, .cons _ h2, e => by
    obtain ⟨v, e1, e2⟩ := RDs.get (i := i) (d := d) h2 (by simpa using e)
    exact ⟨v, by simpa using e1, e2⟩
/-- a list of data owns nothing -/
theorem RXs.datas : ∀ {xs : List X} {vs : List V} {F : List Addr} {l : List D}, RXs c Z H xs vs F → Mp.datas xs = some l → RDs c Z H l vs ∧ F = [] ∧ xs = l.map X.d
  | _, _, _, l, .nil, e => by
    simp [Mp.datas] at e; subst e; exact ⟨.nil, rfl, rfl⟩
  | y :: ys, _, _, l, .cons h1 h2, e => by
    cases y with
    | d x =>
      cases h1 with
      | d h =>
        have e' : (Mp.datas ys).map (x :: ·) = some l := e
        cases q : Mp.datas ys with
        | none => rw [q] at e'; cases e'
        | some l' =>
          rw [q] at e'
          cases e'
          obtain ⟨a, b, d⟩ := RXs.datas h2 q
          subst b
          exact ⟨.cons h a, rfl, by rw [d]; rfl⟩
    | lst a => cases e
    | dic a => cases e
    | fn a => cases e
    | exn a b => cases e
end

/-! ### the slots -/
abbrev Fp := Nat → List Addr
def fset (f : Fp) (i : Nat) (F : List Addr) : Fp := fun j => if j = i then F else f j
theorem fset_same {f : Fp} {i : Nat} {F : List Addr} : fset f i F i = F := if_pos rfl
theorem fset_ne {f : Fp} {i j : Nat} {F : List Addr} (h : j ≠ i) : fset f i F j = f j := if_neg h
def inF (f : Fp) (a : Addr) : Prop := ∃ i, a ∈ f i

structure Rel (c : Cf) (Z : Ad) (H : Hp) (s : S) (σ : L2.St) (f : Fp) : Prop where
  len : s.length = σ.length
  at_ : ∀ i x, s[i]? = some (some x) → ∃ v, σ[i]? = some (some v) ∧ RX c Z H x v (f i)
  nd : ∀ i, (f i).Nodup
  dj : ∀ i j, i ≠ j → ∀ a ∈ f i, a ∉ f j
  nz : ∀ i, ∀ a ∈ f i, ¬ Z a
  ow : ∀ i, ∀ a ∈ f i, ∃ o, H a = some o ∧ own o = true
  zo : ∀ a, Z a → H a ≠ none
  tb : Tbs c.L.tbs H

/-- from one state to a later one -/
structure Fr (Z : Ad) (H : Hp) (f : Fp) (Z' : Ad) (H' : Hp) (f' : Fp) : Prop where
  keep : ∀ b o, H b = some o → nt o = true → ¬ inF f b → H' b = some o
  zz : ∀ b, Z b → Z' b
  znew : ∀ b, Z' b → Z b ∨ inF f b ∨ H b = none
  fnew : ∀ b, inF f' b → inF f b ∨ H b = none
  live : ∀ b, H b ≠ none → H' b ≠ none
  tb : ∀ T, Tb0 T H → Tb0 T H'
/-- a value that has come and is not yet stored -/
structure Tmp (c : Cf) (Z : Ad) (H : Hp) (f : Fp) (x : X) (v : V) (F : List Addr) : Prop where
  rx : RX c Z H x v F
  nd : F.Nodup
  nz : ∀ a ∈ F, ¬ Z a
  nf : ∀ a ∈ F, ¬ inF f a
/-- .. it comes from what was there or is new -/
def From (H : Hp) (f : Fp) (F : List Addr) : Prop := ∀ a ∈ F, inF f a ∨ H a = none

section
variable {c : Cf} {Z Z' Z2 : Ad} {H H' H2 : Hp} {f f' f2 : Fp} {s : S} {σ : L2.St}
theorem Fr.refl : Fr Z H f Z H f := ⟨fun _ _ e _ _ => e, fun _ z => z, fun _ z => .inl z, fun _ z => .inl z, fun _ z => z, fun _ z => z⟩
theorem Fr.trans (a : Fr Z H f Z' H' f') (b : Fr Z' H' f' Z2 H2 f2) : Fr Z H f Z2 H2 f2 where
  keep := fun x o e ht n => b.keep x o (a.keep x o e ht n) ht fun z => by
    rcases a.fnew x z with z | z
    · exact n z
    · rw [z] at e; cases e
  zz := fun x z => b.zz x (a.zz x z)
  znew := fun x z => by
    rcases b.znew x z with z | z | z
    · exact a.znew x z
    · rcases a.fnew x z with z | z
      · exact .inr (.inl z)
      · exact .inr (.inr z)
    · refine .inr (.inr ?_)
      cases q : H x with
      | none => rfl
      | some o => exact absurd z (a.live x (by rw [q]; exact fun z => nomatch z))
  fnew := fun x z => by
    rcases b.fnew x z with z | z
    · exact a.fnew x z
    · refine .inr ?_
      cases q : H x with
      | none => rfl
      | some o => exact absurd z (a.live x (by rw [q]; exact fun z => nomatch z))
  live := fun x z => b.live x (a.live x z)
  tb := fun T z => b.tb T (a.tb T z)
theorem Fr.kp (r : Rel c Z H s σ f) (a : Fr Z H f Z' H' f') : Kp Z H Z' H' where
  keep := fun b o e ht h => a.keep b o e ht fun ⟨i, hi⟩ => by
    rcases h with h | h
    · obtain ⟨o', e', ho⟩ := r.ow i b hi
      rw [e] at e'; cases e'
      rw [h] at ho; cases ho
    · exact r.nz i b hi h
  zz := a.zz
theorem own_at {b : Addr} {o : HO} (h : ∃ o, H b = some o ∧ own o = true) (e : H b = some o) : nt o = true := by
  obtain ⟨o', e', ho⟩ := h
  rw [e] at e'; cases e'
  exact own_nt ho
/-- a value that waits stays -/
theorem Tmp.fr {x : X} {v : V} {F : List Addr} (r : Rel c Z H s σ f) (t : Tmp c Z H f x v F) (a : Fr Z H f Z' H' f') : Tmp c Z' H' f' x v F where
  rx := t.rx.kp (a.kp r) fun b hb o e => a.keep b o e (own_at (t.rx.own b hb) e) (t.nf b hb)
  nd := t.nd
  nz := fun b hb z => by
    obtain ⟨o, e, _⟩ := t.rx.own b hb
    rcases a.znew b z with z | z | z
    · exact t.nz b hb z
    · exact t.nf b hb z
    · rw [z] at e; cases e
  nf := fun b hb z => by
    obtain ⟨o, e, _⟩ := t.rx.own b hb
    rcases a.fnew b z with z | z
    · exact t.nf b hb z
    · rw [z] at e; cases e
theorem From.nil : From H f [] := fun _ h => nomatch h
theorem From.fr {F : List Addr} (a : Fr Z H f Z' H' f') (h : From H' f' F) : From H f F := fun b hb => by
  rcases h b hb with z | z
  · exact a.fnew b z
  · refine .inr ?_
    cases q : H b with
    | none => rfl
    | some o => exact absurd z (a.live b (by rw [q]; exact fun z => nomatch z))
theorem Tmp.d {x : D} {v : V} (h : RD c Z H x v) : Tmp c Z H f (.d x) v [] := ⟨.d h, List.nodup_nil, (fun _ h => nomatch h), (fun _ h => nomatch h)⟩

/-- a slot's value stored -/
theorem Rel.put {i : Nat} {x : X} {v : V} {F : List Addr} (r : Rel c Z H s σ f) (hi : i < s.length) (t : Tmp c Z H f x v F) : Rel c Z H (s.set i (some x)) (σ.set i (some v)) (fset f i F) where
  len := by simpa using r.len
  at_ := fun j y e => by
    by_cases hj : j = i
    · subst hj
      rw [List.getElem?_set_self hi] at e
      cases e
      exact ⟨v, by rw [List.getElem?_set_self (by rw [← r.len]; exact hi)], by rw [fset_same]; exact t.rx⟩
    · rw [List.getElem?_set_ne (Ne.symm hj)] at e
      obtain ⟨u, e1, e2⟩ := r.at_ j y e
      exact ⟨u, by rw [List.getElem?_set_ne (Ne.symm hj)]; exact e1, by rw [fset_ne hj]; exact e2⟩
  nd := fun j => by
    by_cases hj : j = i
    · subst hj; rw [fset_same]; exact t.nd
    · rw [fset_ne hj]; exact r.nd j
  dj := fun j k hjk a ha hb => by
    by_cases hj : j = i
    · subst hj
      rw [fset_same] at ha
      rw [fset_ne (Ne.symm hjk)] at hb
      exact t.nf a ha ⟨k, hb⟩
    · rw [fset_ne hj] at ha
      by_cases hk : k = i
      · subst hk
        rw [fset_same] at hb
        exact t.nf a hb ⟨j, ha⟩
      · rw [fset_ne hk] at hb
        exact r.dj j k hjk a ha hb
  nz := fun j a ha => by
    by_cases hj : j = i
    · subst hj; rw [fset_same] at ha; exact t.nz a ha
    · rw [fset_ne hj] at ha; exact r.nz j a ha
  ow := fun j a ha => by
    by_cases hj : j = i
    · subst hj; rw [fset_same] at ha; exact t.rx.own a ha
    · rw [fset_ne hj] at ha; exact r.ow j a ha
  zo := r.zo
  tb := r.tb
theorem Fr.put {i : Nat} {F : List Addr} (h : From H f F) : Fr Z H f Z H (fset f i F) := ⟨fun _ _ e _ _ => e, fun _ z => z, fun _ z => .inl z, fun b ⟨j, hj⟩ => by
    by_cases e : j = i
    · subst e; rw [fset_same] at hj; exact h b hj
    · rw [fset_ne e] at hj; exact .inl ⟨j, hj⟩, fun _ z => z, fun _ z => z⟩
/-- a slot forgotten (the machine's may hold whatever) -/
theorem Rel.drop {i : Nat} {u : Option V} (r : Rel c Z H s σ f) : Rel c Z H (s.set i none) (σ.set i u) (fset f i []) where
  len := by simpa using r.len
  at_ := fun j y e => by
    by_cases hj : j = i
    · subst hj
      by_cases hl : j < s.length
      · rw [List.getElem?_set_self hl] at e; cases e
      · rw [List.getElem?_eq_none (by simpa using hl)] at e; cases e
    · rw [List.getElem?_set_ne (Ne.symm hj)] at e
      obtain ⟨u, e1, e2⟩ := r.at_ j y e
      exact ⟨u, by rw [List.getElem?_set_ne (Ne.symm hj)]; exact e1, by rw [fset_ne hj]; exact e2⟩
  nd := fun j => by
    by_cases hj : j = i
    · subst hj; rw [fset_same]; exact List.nodup_nil
    · rw [fset_ne hj]; exact r.nd j
  dj := fun j k hjk a ha hb => by
    by_cases hj : j = i
    · subst hj; rw [fset_same] at ha; cases ha
    · rw [fset_ne hj] at ha
      by_cases hk : k = i
      · subst hk; rw [fset_same] at hb; cases hb
      · rw [fset_ne hk] at hb; exact r.dj j k hjk a ha hb
  nz := fun j a ha => by
    by_cases hj : j = i
    · subst hj; rw [fset_same] at ha; cases ha
    · rw [fset_ne hj] at ha; exact r.nz j a ha
  ow := fun j a ha => by
    by_cases hj : j = i
    · subst hj; rw [fset_same] at ha; cases ha
    · rw [fset_ne hj] at ha; exact r.ow j a ha
  zo := r.zo
  tb := r.tb
theorem Fr.drop {i : Nat} : Fr Z H f Z H (fset f i []) := Fr.put fun _ h => nomatch h
/-- .. its σ kept -/
theorem Rel.drop0 {i : Nat} (r : Rel c Z H s σ f) : Rel c Z H (s.set i none) σ (fset f i []) := by
  have q := r.drop (i := i) (u := (σ[i]?).getD none)
  by_cases h : i < σ.length
  · have e : σ.set i ((σ[i]?).getD none) = σ := by
      apply List.ext_getElem?
      intro j
      by_cases hj : j = i
      · subst hj
        rw [List.getElem?_set_self h, List.getElem?_eq_getElem h]; rfl
      · rw [List.getElem?_set_ne (Ne.symm hj)]
    rwa [e] at q
  · have e : σ.set i ((σ[i]?).getD none) = σ := List.set_eq_of_length_le (by omega)
    rwa [e] at q
/-- a slot's value, taken out of it -/
theorem Rel.take {i : Nat} {x : X} (r : Rel c Z H s σ f) (e : s[i]? = some (some x)) : ∃ v, σ[i]? = some (some v) ∧ Tmp c Z H (fset f i []) x v (f i) ∧ From H f (f i) := by
  obtain ⟨v, e1, e2⟩ := r.at_ i x e
  refine ⟨v, e1, ⟨e2, r.nd i, r.nz i, fun a ha ⟨j, hj⟩ => ?_⟩, fun a ha => .inl ⟨i, ha⟩⟩
  by_cases hji : j = i
  · subst hji; rw [fset_same] at hj; cases hj
  · rw [fset_ne hji] at hj; exact r.dj j i hji a hj ha
/-- what a slot holds is frozen -/
theorem Rel.freeze {i : Nat} {x : X} {d : D} (r : Rel c Z H s σ f) (e : s[i]? = some (some x)) (hd : dat? x = some d) :
    ∃ v, σ[i]? = some (some v) ∧ Rel c (fun b => Z b ∨ b ∈ f i) H (s.set i (some (.d d))) σ (fset f i []) ∧ RD c (fun b => Z b ∨ b ∈ f i) H d v ∧
      Fr Z H f (fun b => Z b ∨ b ∈ f i) H (fset f i []) := by
  obtain ⟨v, e1, e2⟩ := r.at_ i x e
  have kp : Kp Z H (fun b => Z b ∨ b ∈ f i) H := ⟨fun _ _ e _ _ => e, fun _ z => .inl z⟩
  have hfz : RD c (fun b => Z b ∨ b ∈ f i) H d v := e2.frz kp hd fun b hb => .inr hb
  have hi : i < s.length := (List.getElem?_eq_some_iff.mp e).1
  have r1 := r.drop0 (i := i)
  refine ⟨v, e1, ?_, hfz, ⟨fun _ _ e _ _ => e, fun _ z => .inl z, fun b z => z.elim .inl fun z => .inr (.inl ⟨i, z⟩), (Fr.drop (Z := Z) (H := H)).fnew, fun _ z => z, fun _ z => z⟩⟩
  refine ⟨by simpa using r.len, fun j y ej => ?_, r1.nd, r1.dj, fun j a ha z => ?_, r1.ow, fun a z => ?_, r.tb⟩
  · by_cases hj : j = i
    · subst hj
      rw [List.getElem?_set_self hi] at ej
      cases ej
      exact ⟨v, e1, by rw [fset_same]; exact .d hfz⟩
    · rw [List.getElem?_set_ne (Ne.symm hj)] at ej
      obtain ⟨u, e3, e4⟩ := r.at_ j y ej
      refine ⟨u, e3, ?_⟩
      rw [fset_ne hj]
      exact e4.kp kp fun _ _ _ e => e
  · rcases z with z | z
    · exact r1.nz j a ha z
    · by_cases hj : j = i
      · subst hj; rw [fset_same] at ha; cases ha
      · rw [fset_ne hj] at ha
        exact r.dj j i hj a ha z
  · rcases z with z | z
    · exact r.zo a z
    · obtain ⟨o, e, _⟩ := r.ow i a z
      rw [e]
      exact fun z => nomatch z
/-- a value that waits is frozen -/
theorem Tmp.freeze {x : X} {v : V} {F : List Addr} {d : D} (r : Rel c Z H s σ f) (t : Tmp c Z H f x v F) (hd : dat? x = some d) :
    Rel c (fun b => Z b ∨ b ∈ F) H s σ f ∧ RD c (fun b => Z b ∨ b ∈ F) H d v := by
  have kp : Kp Z H (fun b => Z b ∨ b ∈ F) H := ⟨fun _ _ e _ _ => e, fun _ z => .inl z⟩
  refine ⟨⟨r.len, fun j y ej => ?_, r.nd, r.dj, fun j a ha z => ?_, r.ow, fun a z => ?_, r.tb⟩, t.rx.frz kp hd fun b hb => .inr hb⟩
  · obtain ⟨u, e3, e4⟩ := r.at_ j y ej
    exact ⟨u, e3, e4.kp kp fun _ _ _ e => e⟩
  · rcases z with z | z
    · exact r.nz j a ha z
    · exact t.nf a z ⟨j, ha⟩
  · rcases z with z | z
    · exact r.zo a z
    · obtain ⟨o, e, _⟩ := t.rx.own a z
      rw [e]
      exact fun z => nomatch z
theorem Fr.freeze {F : List Addr} (h : From H f F) : Fr Z H f (fun b => Z b ∨ b ∈ F) H f :=
  ⟨fun _ _ e _ _ => e, fun _ z => .inl z, fun b z => z.elim .inl fun z => .inr (h b z), fun _ z => .inl z, fun _ z => z, fun _ z => z⟩
/-- a new object is laid -/
theorem Fr.laid {p : Addr} {o : HO} (hp : H p = none) : Fr Z H f Z (upd H p o) f :=
  ⟨fun b u e _ _ => by rw [upd_ne (fun z => by subst z; rw [hp] at e; cases e)]; exact e, fun _ z => z, fun _ z => .inl z, fun _ z => .inl z, fun b z => by
    by_cases h : b = p
    · subst h; rw [upd_same]; exact fun z => nomatch z
    · rw [upd_ne h]; exact z, fun T t => t.upd fun u e => by rw [hp] at e; cases e⟩
theorem Fr.ext (ext : ∀ b o, H b = some o → H' b = some o) : Fr Z H f Z H' f := ⟨fun b o e _ _ => ext b o e, fun _ z => z, fun _ z => .inl z, fun _ z => .inl z, fun b z => by
  cases q : H b with
  | none => exact absurd q z
  | some o => rw [ext b o q]; exact (fun z => nomatch z), fun T t => t.mono fun b o e _ => ext b o e⟩
theorem Rel.fr (r : Rel c Z H s σ f) (k : ∀ b o, H b = some o → H' b = some o) : Rel c Z H' s σ f :=
  have kp : Kp Z H Z H' := ⟨fun b o e _ _ => k b o e, fun _ z => z⟩
  ⟨r.len, fun i x e => let ⟨v, e1, e2⟩ := r.at_ i x e; ⟨v, e1, e2.kp kp fun b _ o e => k b o e⟩, r.nd, r.dj, r.nz, fun i a ha => let ⟨o, e, h⟩ := r.ow i a ha; ⟨o, k a o e, h⟩, fun a z => by
    cases q : H a with
    | none => exact absurd q (r.zo a z)
    | some o => rw [k a o q]; exact (fun z => nomatch z), r.tb.mono fun b o e _ => k b o e⟩
theorem Rel.laid {p : Addr} {o : HO} (r : Rel c Z H s σ f) (hp : H p = none) : Rel c Z (upd H p o) s σ f :=
  r.fr fun b u e => by rw [upd_ne (fun z => by subst z; rw [hp] at e; cases e)]; exact e
end
end Mp
set_option maxHeartbeats 1000000
/-! Snd2: the operations. -/
namespace Mp
open PySem PySem.Spec PyProof.Rows L2

abbrev cf (X : Cx) (fa : Lay) : Cf := ⟨X.K, X.w, fa⟩
/-- what an operation gives: the heap may have grown, what the result owns is new -/
def ResOk (c : Cf) (Z : Ad) (H : Hp) (r : X) (Q : VK) : Prop :=
  ∀ v H' F, (∀ b o, H b = some o → H' b = some o) → RX c Z H' r v F → F.Nodup → (∀ a ∈ F, H a = none) → Q v H'
section
variable {c : Cf} {Z : Ad} {H : Hp}
theorem ResOk.data {d : D} {Q : VK} (h : ResOk c Z H (.d d) Q) {v : V} (r : RD c Z H d v) : Q v H := h v H [] (fun _ _ e => e) (.d r) List.nodup_nil (fun _ h => nomatch h)
theorem ext_upd {p : Addr} {o : HO} (hp : H p = none) : ∀ b u, H b = some u → upd H p o b = some u := fun b u e => by
  rw [upd_ne (fun z => by subst z; rw [hp] at e; cases e)]; exact e
theorem kp_ext {H' : Hp} (k : ∀ b o, H b = some o → H' b = some o) : Kp Z H Z H' := ⟨fun b o e _ _ => k b o e, fun _ z => z⟩
theorem ResOk.tup {l : List D} {vs : List V} {Q : VK} (h : ResOk c Z H (.d (.tuple l)) Q) (r : RDs c Z H l vs) {p : Addr} (hp : H p = none) : Q (.ref p) (upd H p (.tup vs)) :=
  h (.ref p) _ [] (ext_upd hp) (.d (.tup (.inl (.inl upd_same)) (r.kp (kp_ext (ext_upd hp))))) List.nodup_nil (fun _ h => nomatch h)
theorem ResOk.lst {l : List D} {vs : List V} {Q : VK} (h : ResOk c Z H (.lst (l.map X.d)) Q) (r : RDs c Z H l vs) {p : Addr} (hp : H p = none) : Q (.ref p) (upd H p (.lst vs)) :=
  h (.ref p) _ [p] (ext_upd hp) (.lst upd_same (RDs.xs (r.kp (kp_ext (ext_upd hp))))) (by simp) (fun a ha => by rw [List.mem_singleton.mp ha]; exact hp)

/-- a list that is read: tracked, known to its object, or an object of the module -/
def RdL (K : PySem.W.Frag) (H : Hp) (a : Addr) (vs : List V) : Prop := Rd H a (.lst vs) ∨ ∃ (its : Array Value) (n : Nat), K.lookup a = some { cls := .type "list", data := .seq its n } ∧ its.size ≤ sizeLine ∧ Vals vs its.toList
theorem RdL.sq {K : PySem.W.Frag} {a : Addr} {vs : List V} (h : RdL K H a vs) : SqL K H a vs := h.imp id fun ⟨its, n, h1, h2, h3⟩ => ⟨_, its, n, h1, rfl, rfl, rfl, h2, h3⟩
theorem RdL.kp {K : PySem.W.Frag} {a : Addr} {vs : List V} {Z2 : Ad} {H2 : Hp} (h : RdL K H a vs) (k : Kp Z H Z2 H2) (hz : H a = some (.lst vs) → Z a) : RdL K H2 a vs := by
  rcases h with (h | ⟨o, h⟩) | h
  · exact .inl (.inl (k.keep _ _ h rfl (.inr (hz h))))
  · exact .inl (.inr ⟨o, k.keep _ _ h rfl (.inl rfl)⟩)
  · exact .inr h
mutual
theorem RD.dp : ∀ {d : D} {v : V}, RD c Z H d v → Dp c.K H v d ∧ d.canLay0 = true
  | _, _, .none => ⟨.non, rfl⟩
  | _, _, .bool b => ⟨.bl b, rfl⟩
  | _, _, .int i => ⟨.int i, rfl⟩
  | _, _, .str x h => ⟨.str x, h.1⟩
  | _, _, .tup h1 h2 => ⟨.tup h1 (RDs.dp h2).1, by have := (RDs.dp h2).2; simpa [PyData.canLay0] using this⟩
  | _, _, .lstZ h1 _ h2 => ⟨.lst (.inl (.inl h1)) (RDs.dp h2).1, by have := (RDs.dp h2).2; simpa [PyData.canLay0] using this⟩
  | _, _, .lstK h1 h2 h3 h4 => ⟨.lst (.inr ⟨_, _, _, h1, rfl, rfl, rfl, h2, h3⟩) (RDs.dp h4).1, by have := (RDs.dp h4).2; simpa [PyData.canLay0] using this⟩
  | _, _, .lstF h1 h2 => ⟨.lst (.inl (.inr ⟨_, h1⟩)) (RDs.dp h2).1, by have := (RDs.dp h2).2; simpa [PyData.canLay0] using this⟩
theorem RDs.dp : ∀ {l : List D} {vs : List V}, RDs c Z H l vs → DpAll c.K H vs l ∧ PyData.canLayAll0 l = true
  | _, _, .nil => ⟨.nil, rfl⟩
  | _, _, .cons h1 h2 => ⟨.cons (RD.dp h1).1 (RDs.dp h2).1, by simp [PyData.canLayAll0, (RD.dp h1).2, (RDs.dp h2).2]⟩
end
/-- what reads as data -/
theorem RX.rd {x : X} {v : V} {F : List Addr} {d : D} (h : RX c Z H x v F) (e : dat? x = some d) : RD c (fun b => Z b ∨ b ∈ F) H d v :=
  h.frz ⟨fun _ _ e _ _ => e, fun _ z => .inl z⟩ e fun _ hb => .inr hb
theorem RD.sq {l : List D} {v : V} (h : RD c Z H (.tuple l) v) : ∃ a vs, v = .ref a ∧ SqT c.K H a vs ∧ RDs c Z H l vs := by
  cases h with
  | tup h1 h2 => exact ⟨_, _, rfl, h1, h2⟩
theorem RD.sl {l : List D} {v : V} (h : RD c Z H (.list l) v) : ∃ a vs, v = .ref a ∧ SqL c.K H a vs ∧ RDs c Z H l vs := by
  cases h with
  | lstZ h1 _ h2 => exact ⟨_, _, rfl, .inl (.inl h1), h2⟩
  | lstK h1 h2 h3 h4 => exact ⟨_, _, rfl, .inr ⟨_, _, _, h1, rfl, rfl, rfl, h2, h3⟩, h4⟩
  | lstF h1 h2 => exact ⟨_, _, rfl, .inl (.inr ⟨_, h1⟩), h2⟩
end

/-! ### comparisons -/
section
variable {X : Cx} {fa : Lay}
def rCmpD (X : Cx) (fa : Lay) (g : D → D → Option Bool) : R2 := fun x y H Q => ∃ Z a b r, RD (cf X fa) Z H a x ∧ RD (cf X fa) Z H b y ∧ deep a b = true ∧ g a b = some r ∧ Q (.bl r) H
theorem cmp_eq (hu : X.A.units + 64 < cLine) : OpR X (compareOp .Eq) (rCmpD X fa fun a b => some (PyData.eqv a b)) := by
  intro pins s σ H x y v u Q I rx ry h
  obtain ⟨Z, a, b, r, ha, hb, hd, e, q⟩ := h
  cases e
  obtain ⟨as, r1⟩ := Dp.reads I a x v ha.dp.1 rx
  obtain ⟨bs, r2⟩ := Dp.reads I b y u hb.dp.1 ry
  have hd : min a.depth b.depth ≤ 64 := of_decide_eq_true hd
  exact SeqAt.compareEq_reads r1 r2 ha.dp.2 hb.dp.2 (by omega) ⟨.bl _, H, I, rfl, q⟩
theorem cmp_ne (hu : X.A.units + 64 < cLine) : OpR X (compareOp .NotEq) (rCmpD X fa fun a b => some (!PyData.eqv a b)) := by
  intro pins s σ H x y v u Q I rx ry h
  obtain ⟨Z, a, b, r, ha, hb, hd, e, q⟩ := h
  cases e
  obtain ⟨as, r1⟩ := Dp.reads I a x v ha.dp.1 rx
  obtain ⟨bs, r2⟩ := Dp.reads I b y u hb.dp.1 ry
  have hd : min a.depth b.depth ≤ 64 := of_decide_eq_true hd
  exact SeqAt.compareNe_reads r1 r2 ha.dp.2 hb.dp.2 (by omega) ⟨.bl _, H, I, rfl, q⟩
end

/-! ### binary operators -/
section
variable {X : Cx} {fa : Lay}
theorem lim_eq : lim = sizeLine := by rw [sizeLine_eq]; rfl
/-- an operation as the interpreter has it -/
def rB (X : Cx) (fa : Lay) (o : B) : R2 := fun x y H Q => ∃ Z a b F1 F2 r, RX (cf X fa) Z H a x F1 ∧ RX (cf X fa) Z H b y F2 ∧ bop o a b = some r ∧ ResOk (cf X fa) Z H r Q
theorem RX.int {c : Cf} {Z : Ad} {H : Hp} {i : Int} {v : V} {F : List Addr} (h : RX c Z H (.d (.int i)) v F) : v = .int i := by
  cases h with
  | d h => cases h; rfl
theorem RX.bool {c : Cf} {Z : Ad} {H : Hp} {i : Bool} {v : V} {F : List Addr} (h : RX c Z H (.d (.bool i)) v F) : v = .bl i := by
  cases h with
  | d h => cases h; rfl
theorem RX.str {c : Cf} {Z : Ad} {H : Hp} {i : Str} {v : V} {F : List Addr} (h : RX c Z H (.d (.str i)) v F) : v = .str i ∧ okS i := by
  cases h with
  | d h => cases h with
    | str _ h => exact ⟨rfl, h⟩
theorem RX.tup {c : Cf} {Z : Ad} {H : Hp} {l : List D} {v : V} {F : List Addr} (h : RX c Z H (.d (.tuple l)) v F) : ∃ a vs, v = .ref a ∧ SqT c.K H a vs ∧ RDs c Z H l vs := by
  cases h with
  | d h => exact h.sq
/-- a list, its data -/
theorem RX.isl {c : Cf} {Z : Ad} {H : Hp} {x : Mp.X} {l : List D} {v : V} {F : List Addr} (h : RX c Z H x v F) (e : Mp.isl x = some l) : ∃ a vs, v = .ref a ∧ RdL c.K H a vs ∧ RDs c Z H l vs := by
  cases x with
  | d x =>
    cases x with
    | list m =>
      cases e
      cases h with
      | d h => cases h with
        | lstZ h1 _ h2 => exact ⟨_, _, rfl, .inl (.inl h1), h2⟩
        | lstK h1 h2 h3 h4 => exact ⟨_, _, rfl, .inr ⟨_, _, h1, h2, h3⟩, h4⟩
        | lstF h1 h2 => exact ⟨_, _, rfl, .inl (.inr ⟨_, h1⟩), h2⟩
    | _ => cases e
  | lst xs =>
    cases h with
    | lst h1 h2 =>
      obtain ⟨h3, _, _⟩ := h2.datas e
      exact ⟨_, _, rfl, .inl (.inl h1), h3⟩
  | _ => cases e
theorem res_int {c : Cf} {Z : Ad} {H : Hp} {i : Int} {Q : VK} (h : ResOk c Z H (.d (.int i)) Q) : Q (.int i) H := h.data (.int i)
theorem strOk_append {a b : Str} (h1 : PyData.strOk a = true) (h2 : PyData.strOk b = true) : PyData.strOk (a ++ b) = true := by
  have e : (a ++ b).cps = a.cps ++ b.cps := rfl
  unfold PyData.strOk at *
  rw [e, Array.all_append, h1, h2]
  rfl
theorem strLen_append (i j : Str) : (i ++ j).length = i.length + j.length := by
  show (i.cps ++ j.cps).size = i.cps.size + j.cps.size
  exact Array.size_append
theorem Rd.raw {pins : List (Addr × Obj)} {s : Shared} {σ : L2.St} {H : Hp} {a : Addr} {xs : List V} (I : Inv X pins σ H s) (h : Rd H a (.lst xs)) :
    xs.length ≤ sizeLine ∧ ∃ (its : List Value) (n : Nat), Vals xs its ∧ s.heap.get? a = some { cls := .type "list", data := .seq its.toArray n } := h.ok I.hok
theorem RdL.raw {pins : List (Addr × Obj)} {s : Shared} {σ : L2.St} {H : Hp} {a : Addr} {xs : List V} (I : Inv X pins σ H s) (h : RdL X.K H a xs) :
    xs.length ≤ sizeLine ∧ ∃ (its : List Value) (n : Nat), Vals xs its ∧ s.heap.get? a = some { cls := .type "list", data := .seq its.toArray n } := by
  rcases h with h | ⟨its, n, h1, h2, h3⟩
  · exact Rd.raw I h
  · refine ⟨?_, its.toList, n, h3, by simpa using I.kIn a _ h1⟩
    have := h3.length
    simp only [Array.length_toList] at this
    omega
theorem add_lists : OpR X (binaryOp .Add) (fun x y H Q => ∃ l b xs zs, x = .ref l ∧ y = .ref b ∧ RdL X.K H l xs ∧ RdL X.K H b zs ∧ xs.length + zs.length ≤ sizeLine ∧ ∀ p, H p = none → Q (.ref p) (upd H p (.lst (xs ++ zs)))) := by
  intro pins s σ H x y v u Q I rx ry h
  obtain ⟨l, b, xs, zs, rfl, rfl, hH, hB, hz, q⟩ := h
  cases rx
  cases ry
  obtain ⟨z, its, n, r, e⟩ := RdL.raw I hH
  obtain ⟨z2, its2, n2, r2, e2⟩ := RdL.raw I hB
  have hl := r.length
  have hl2 := r2.length
  refine PySem.P.add_list e e2 ?_ (by rw [List.size_toArray, List.size_toArray]; omega)
  have ea : its.toArray ++ its2.toArray = (its ++ its2).toArray := by simp
  rw [ea]
  exact ⟨.ref _, _, I.lnew (t' := s.toks) (r.append r2) (by rw [List.length_append]; omega), rfl, q _ I.fresh⟩
theorem RDs.append {c : Cf} {Z : Ad} {H : Hp} : ∀ {l m : List D} {vs us : List V}, RDs c Z H l vs → RDs c Z H m us → RDs c Z H (l ++ m) (vs ++ us)
  | _, _, _, _, .nil, h => h
  | _, _, _, _, .cons h1 h2, h => .cons h1 (RDs.append h2 h)
theorem bin_add : OpR X (binaryOp .Add) (rB X fa .add) := by
  intro pins s σ H x y v u Q I rx ry h
  obtain ⟨Z, a, b, F1, F2, r, h1, h2, e, q⟩ := h
  change bAdd a b = some r at e
  unfold bAdd at e
  split at e
  · rename_i i j
    cases e
    exact op_add pins s σ H x y v u Q I rx ry ⟨i, j, h1.int, h2.int, res_int q⟩
  · rename_i i j
    obtain ⟨e1, k1⟩ := h1.str
    obtain ⟨e2, k2⟩ := h2.str
    split at e
    · rename_i hl
      cases e
      exact op_add_str pins s σ H x y v u Q I rx ry ⟨i, j, e1, e2, by rw [← lim_eq]; exact hl, q.data (.str _ ⟨strOk_append k1.1 k2.1, strLen_append i j ▸ hl⟩)⟩
    · cases e
  · rename_i l m
    obtain ⟨a1, v1, e1, s1, r1⟩ := h1.tup
    obtain ⟨a2, v2, e2, s2, r2⟩ := h2.tup
    split at e
    · rename_i hl
      cases e
      have n1 := r1.length
      have n2 := r2.length
      refine op_catA pins s σ H x y v u Q I rx ry ⟨a1, a2, v1, v2, e1, e2, s1, s2, by rw [← lim_eq]; omega, fun z => ?_, fun _ z => ?_, fun _ _ p hp => ?_⟩
      · subst z
        cases r1
        exact q.data (.tup s2 r2)
      · subst z
        cases r2
        rw [List.append_nil] at q
        exact q.data (.tup s1 r1)
      · exact q.tup (r1.append r2) hp
    · cases e
  · cases q1 : isl a with
    | none => rw [q1] at e; cases e
    | some l =>
      cases q2 : isl b with
      | none => rw [q1, q2] at e; cases e
      | some m =>
        rw [q1, q2] at e
        change (if l.length + m.length ≤ lim then some (Mp.X.lst ((l ++ m).map Mp.X.d)) else none) = some r at e
        split at e
        · rename_i hl
          cases e
          obtain ⟨a1, v1, e1, s1, r1⟩ := h1.isl q1
          obtain ⟨a2, v2, e2, s2, r2⟩ := h2.isl q2
          have n1 := r1.length
          have n2 := r2.length
          exact add_lists pins s σ H x y v u Q I rx ry ⟨a1, a2, v1, v2, e1, e2, s1, s2, by rw [← lim_eq]; omega, fun p hp => q.lst (r1.append r2) hp⟩
        · cases e
theorem bin_sub : OpR X (binaryOp .Sub) (rB X fa .sub) := by
  intro pins s σ H x y v u Q I rx ry h
  obtain ⟨Z, a, b, F1, F2, r, h1, h2, e, q⟩ := h
  change bSub a b = some r at e
  unfold bSub at e
  split at e
  · rename_i i j
    cases e
    exact op_sub pins s σ H x y v u Q I rx ry ⟨i, j, h1.int, h2.int, res_int q⟩
  · cases e
theorem mulOk_ok {i j : Int} (h : mulOk i j = true) : CMul i j := by
  unfold mulOk at h
  rw [Bool.or_eq_true, decide_eq_true_eq, decide_eq_true_eq] at h
  unfold CMul
  omega
theorem bin_mod : OpR X (binaryOp .Mod) (rB X fa .mod) := by
  intro pins s σ H x y v u Q I rx ry h
  obtain ⟨Z, a, b, F1, F2, r, h1, h2, e, q⟩ := h
  change bMod a b = some r at e
  unfold bMod at e
  split at e
  · rename_i i j
    split at e
    · rename_i hj
      cases e
      exact op_mod pins s σ H x y v u Q I rx ry ⟨i, j, h1.int, h2.int, hj, res_int q⟩
    · cases e
  · cases e
theorem bin_div : OpR X (binaryOp .FloorDiv) (rB X fa .fdiv) := by
  intro pins s σ H x y v u Q I rx ry h
  obtain ⟨Z, a, b, F1, F2, r, h1, h2, e, q⟩ := h
  change bDiv a b = some r at e
  unfold bDiv at e
  split at e
  · rename_i i j
    split at e
    · rename_i hj
      cases e
      exact op_fdiv pins s σ H x y v u Q I rx ry ⟨i, j, h1.int, h2.int, hj, res_int q⟩
    · cases e
  · cases e
theorem bin_pow : OpR X (binaryOp .Pow) (rB X fa .pow) := by
  intro pins s σ H x y v u Q I rx ry h
  obtain ⟨Z, a, b, F1, F2, r, h1, h2, e, q⟩ := h
  change bPow a b = some r at e
  unfold bPow at e
  split at e
  · rename_i i j
    split at e
    · rename_i hj
      cases e
      exact op_pow pins s σ H x y v u Q I rx ry ⟨i, j, h1.int, h2.int, hj, res_int q⟩
    · cases e
  · cases e
theorem bin_mul : OpR X (binaryOp .Mult) (rB X fa .mul) := by
  intro pins s σ H x y v u Q I rx ry h
  obtain ⟨Z, a, b, F1, F2, r, h1, h2, e, q⟩ := h
  change bMul a b = some r at e
  unfold bMul at e
  split at e
  · rename_i i j
    split at e
    · rename_i hj
      cases e
      exact op_mul pins s σ H x y v u Q I rx ry ⟨i, j, h1.int, h2.int, mulOk_ok hj, res_int q⟩
    · cases e
  · cases e
/-! comparisons -/
theorem asBl_some {o : Option Bool} {r : Mp.X} (h : asBl o = some r) : ∃ k, o = some k ∧ r = .d (.bool k) := by
  cases o with
  | none => cases h
  | some k => cases h; exact ⟨k, rfl, rfl⟩
theorem RX.cmp {Z : Ad} {H : Hp} {a b : Mp.X} {x y : V} {F1 F2 : List Addr} {g : D → D → Option Bool} {r : Bool} {Q : VK} (h1 : RX (cf X fa) Z H a x F1) (h2 : RX (cf X fa) Z H b y F2)
    (e : ((dat? a).bind fun a => (dat? b).bind fun b => if deep a b then g a b else none) = some r) (q : Q (.bl r) H) : rCmpD X fa g x y H Q := by
  cases q1 : dat? a with
  | none => rw [q1] at e; cases e
  | some d1 =>
    cases q2 : dat? b with
    | none => rw [q1, q2] at e; cases e
    | some d2 =>
      rw [q1, q2] at e
      change (if deep d1 d2 then g d1 d2 else none) = some r at e
      split at e
      · rename_i hd
        refine ⟨fun b => (Z b ∨ b ∈ F1) ∨ b ∈ F2, d1, d2, r, ?_, ?_, hd, e, q⟩
        · exact (h1.rd q1).kp ⟨fun _ _ e _ _ => e, fun _ z => .inl z⟩
        · exact (h2.rd q2).kp ⟨fun _ _ e _ _ => e, fun _ z => z.elim (fun z => .inl (.inl z)) .inr⟩
      · cases e
theorem bin_eq (hu : X.A.units + 64 < cLine) : OpR X (compareOp .Eq) (rB X fa .eq) := by
  intro pins s σ H x y v u Q I rx ry h
  obtain ⟨Z, a, b, F1, F2, r, h1, h2, e, q⟩ := h
  obtain ⟨k, e1, rfl⟩ := asBl_some (show asBl (bEq a b) = some r from e)
  exact cmp_eq hu pins s σ H x y v u Q I rx ry (RX.cmp h1 h2 e1 (q.data (.bool k)))
theorem bin_ne (hu : X.A.units + 64 < cLine) : OpR X (compareOp .NotEq) (rB X fa .ne) := by
  intro pins s σ H x y v u Q I rx ry h
  obtain ⟨Z, a, b, F1, F2, r, h1, h2, e, q⟩ := h
  obtain ⟨k, e1, rfl⟩ := asBl_some (show asBl ((bEq a b).map not) = some r from e)
  have e' : ((dat? a).bind fun a => (dat? b).bind fun b => if deep a b then (fun a b => some (!PyData.eqv a b)) a b else none) = some k := by
    rw [← e1]
    unfold bEq
    cases dat? a with
    | none => rfl
    | some d1 =>
      cases dat? b with
      | none => rfl
      | some d2 =>
        show (if deep d1 d2 then _ else _) = Option.map not (if deep d1 d2 then _ else _)
        cases deep d1 d2 <;> rfl
  exact cmp_ne hu pins s σ H x y v u Q I rx ry (RX.cmp h1 h2 e' (q.data (.bool k)))
theorem bin_le : OpR X (compareOp .LtE) (rB X fa .le) := by
  intro pins s σ H x y v u Q I rx ry h
  obtain ⟨Z, a, b, F1, F2, r, h1, h2, e, q⟩ := h
  obtain ⟨k, e1, rfl⟩ := asBl_some (show asBl (bLe a b) = some r from e)
  unfold bLe at e1
  split at e1
  · rename_i i j
    cases e1
    exact op_le pins s σ H x y v u Q I rx ry ⟨i, j, h1.int, h2.int, q.data (.bool _)⟩
  · cases e1
theorem bin_ge : OpR X (compareOp .GtE) (rB X fa .ge) := by
  intro pins s σ H x y v u Q I rx ry h
  obtain ⟨Z, a, b, F1, F2, r, h1, h2, e, q⟩ := h
  obtain ⟨k, e1, rfl⟩ := asBl_some (show asBl (bLe b a) = some r from e)
  unfold bLe at e1
  split at e1
  · rename_i i j
    cases e1
    exact op_ge pins s σ H x y v u Q I rx ry ⟨j, i, h1.int, h2.int, q.data (.bool _)⟩
  · cases e1
end
end Mp
set_option maxHeartbeats 1000000
/-! Lt: < of data: the first place that differs decides, what comes behind is never looked at. -/
namespace PySem.SeqAt
open AutoSeq1 (wpAny_loadPart')
open MeetsSeq MeetsSeq2 MeetsSeq3 SeqRoads2
theorem mp_tuple_lt (l b : Addr) (items items2 : Array Value) (n n2 : Nat) (dd dd2 : Option Addr) (sl sl2 : Array (Option Value)) (e r : Nat → Bool) :
    Meets (Builtin.«tuple.__lt__» ⟨[.ref l, .ref b], []⟩)
      (fun A R s => s.heap.get? l = some { cls := .type "tuple", dict := dd, data := .seq items n, slots := sl } ∧ s.heap.get? b = some { cls := .type "tuple", dict := dd2, data := .seq items2 n2, slots := sl2 } ∧
        (∀ j (h1 : j < items.size) (h2 : j < items2.size), EqAt A.in1 s items[j] items2[j] (e j)) ∧ (∀ j (h1 : j < items.size) (h2 : j < items2.size), (∀ i, i < j → e i = true) → e j = false → RcLt A.in1 s items[j] items2[j] (r j)) ∧
        R (.ok (.ret (.bool (firstLt e r (decide (items.size < items2.size)) (List.range (min items.size items2.size)))))) s) :=
  .of_wp fun prog w A R s h => by
    obtain ⟨hp, g, d, tk, os⟩ := s; obtain ⟨hl, hb, he, hr, h⟩ := h
    have f2 := AutoSeq1.sub_tuple_tuple
    have hZ : (items.toList.zip items2.toList).length = min items.size items2.size := by simp
    wp_walk using wpAny_loadPart' hl, wpAny_loadPart' hb, wpAny_forIn_list _ (fun rest b s' => b.1 = none ∧ s' = ⟨hp, g, d, tk, os⟩ ∧ ∃ i, rest = (items.toList.zip items2.toList).drop i ∧ (∀ k, k < i → e k = true) ∧
      R (.ok (.ret (.bool (firstLt e r (decide (items.size < items2.size)) ((List.range (min items.size items2.size)).drop i))))) ⟨hp, g, d, tk, os⟩) _
    case turn =>
      rintro ⟨y, x⟩ rest b s' ⟨hb', rfl, i, hz, hI, hR⟩
      have hlt : i < (items.toList.zip items2.toList).length := by
        rcases Nat.lt_or_ge i (items.toList.zip items2.toList).length with h' | h'
        · exact h'
        · rw [List.drop_of_length_le h'] at hz; cases hz
      have hm : i < min items.size items2.size := hZ ▸ hlt
      have h1 : i < items.size := Nat.lt_of_lt_of_le hm (Nat.min_le_left _ _)
      have h2 : i < items2.size := Nat.lt_of_lt_of_le hm (Nat.min_le_right _ _)
      rw [List.drop_eq_getElem_cons hlt] at hz
      injection hz with hyx hrest
      have hy : y = items[i] := by have := congrArg Prod.fst hyx; simpa using this
      have hx : x = items2[i] := by have := congrArg Prod.snd hyx; simpa using this
      subst hy hx
      have hd : (List.range (min items.size items2.size)).drop i = i :: (List.range (min items.size items2.size)).drop (i + 1) := by simp [List.drop_eq_getElem_cons, hm]
      rw [hd] at hR
      refine wpAny_bind (he i h1 h2 prog w _ _ ?_)
      cases hy : e i with
      | true =>
        rw [firstLt_yes hy] at hR
        wp_walk
        refine ⟨rfl, rfl, i + 1, hrest, fun k hk => ?_, hR⟩
        rcases Nat.lt_or_ge k i with h | h
        · exact hI k h
        · rw [show k = i by omega]; exact hy
      | false =>
        rw [firstLt_no hy] at hR
        have hr' : ∀ (E : Value → Shared → Prop) (Q : Value → Shared → Prop), Q (.bool (r i)) ⟨hp, g, d, tk, os⟩ → wpAny (model prog w) A.in1 (richCompare .Lt items[i] items2[i]) Q E ⟨hp, g, d, tk, os⟩ := fun E Q q => hr i h1 h2 hI hy prog w E Q q
        generalize richCompare CmpOp.Lt items[i] items2[i] = rc at hr' ⊢
        wp_walk
        refine hr' _ _ ?_
        wp_walk
        exact ⟨_, rfl, hR⟩
    case fin =>
      rintro ⟨b1, b2⟩ s' ⟨hb', rfl, i, hz, hI, hR⟩
      simp only at hb'
      subst hb'
      have hge : min items.size items2.size ≤ i := by
        rcases Nat.lt_or_ge i (items.toList.zip items2.toList).length with h' | h'
        · rw [List.drop_eq_getElem_cons h'] at hz; cases hz
        · exact hZ ▸ h'
      rw [List.drop_of_length_le (by simpa using hge)] at hR
      wp_walk
      exact ⟨_, rfl, by simpa [Builtin.Tuple.tupleCompareSizes, firstLt] using hR⟩
    case h =>
      exact ⟨rfl, rfl, 0, rfl, (fun k hk => absurd hk (Nat.not_lt_zero _)), by simpa using h⟩
theorem RcLt.tuples1 {A : Around} {s : Shared} {l b : Addr} {items items2 : Array Value} {e r : Nat → Bool} (hl : s.heap.IsTuple l items) (hb : s.heap.IsTuple b items2) (hu : A.units < cLine)
    (he : ∀ j (h1 : j < items.size) (h2 : j < items2.size), EqAt A.in1 s items[j] items2[j] (e j)) (hr : ∀ j (h1 : j < items.size) (h2 : j < items2.size), (∀ i, i < j → e i = true) → e j = false → RcLt A.in1 s items[j] items2[j] (r j)) :
    RcLt A s (.ref l) (.ref b) (firstLt e r (decide (items.size < items2.size)) (List.range (min items.size items2.size))) := fun prog w E Q h => by
  obtain ⟨⟨cls, dd, data, sl⟩, ho, hc, n, hd⟩ := id hl
  obtain ⟨⟨cls2, dd2, data2, sl2⟩, ho2, hc2, n2, hd2⟩ := id hb
  simp only at hc hd hc2 hd2
  subst hc hd hc2 hd2
  exact richCompare_meets_room (op := .Lt) ⟨_, ho, rfl⟩ ⟨_, ho2, rfl⟩ F.slot_tuple_lt F.entry_tuple_lt (F.args_tuple_lt_2 _ _) (mp_tuple_lt l b items items2 n n2 dd dd2 sl sl2 e r)
    ⟨ho, ho2, he, hr, show Value.bool (firstLt e r (decide (items.size < items2.size)) (List.range (min items.size items2.size))) ≠ Value.notImplemented ∧ Q (.bool (firstLt e r (decide (items.size < items2.size)) (List.range (min items.size items2.size)))) s from ⟨(fun x => nomatch x), h⟩⟩ hu
theorem mp_lt_loop (l b : Addr) (items items2 : Array Value) (n n2 : Nat) (dd dd2 : Option Addr) (sl sl2 : Array (Option Value)) (e r : Nat → Bool) (k : Nat) :
    ∀ i : Nat, min items.size items2.size - i = k → Meets (Builtin.«list.__eq__.loop» ⟨[.ref l, .ref b, rawInt i, rawInt 0], []⟩)
      (fun A R s => s.heap.get? l = some { cls := .type "list", dict := dd, data := .seq items n, slots := sl } ∧ s.heap.get? b = some { cls := .type "list", dict := dd2, data := .seq items2 n2, slots := sl2 } ∧
        (∀ j (h1 : j < items.size) (h2 : j < items2.size), EqAt A.in1 s items[j] items2[j] (e j)) ∧ (∀ j (h1 : j < items.size) (h2 : j < items2.size), (∀ i, i < j → e i = true) → e j = false → RcLt A.in1 s items[j] items2[j] (r j)) ∧ (∀ j, j < i → e j = true) ∧
        R (.ok (.ret (.bool (firstLt e r (decide (items.size < items2.size)) ((List.range (min items.size items2.size)).drop i))))) s) := by
  induction k with
  | zero =>
    intro i hk prog w A R s h
    obtain ⟨hp, g, d, tk, os⟩ := s; obtain ⟨hl, hb, he, hr, hI, h⟩ := h
    have hd : (List.range (min items.size items2.size)).drop i = [] := by simp; omega
    rw [hd] at h
    wp_walk using wpAny_loadPart' hl, wpAny_loadPart' hb
    by_cases h1 : items.size ≤ i
    · have hi1 : items[((i : Nat) : Int).toNat]? = none := by simp; omega
      rw [hi1]
      wp_walk using wpAny_loadPart' hl, wpAny_loadPart' hb
      exact h
    · have hlt : i < items.size := by omega
      have hi1 : items[((i : Nat) : Int).toNat]? = some items[i] := by simp [hlt]
      have hi2 : items2[((i : Nat) : Int).toNat]? = none := by simp; omega
      rw [hi1, hi2]
      wp_walk using wpAny_loadPart' hl, wpAny_loadPart' hb
      exact h
  | succ k ih =>
    intro i hk prog w A R s h
    obtain ⟨hp, g, d, tk, os⟩ := s; obtain ⟨hl, hb, he, hr, hI, h⟩ := h
    wp_walk using wpAny_loadPart' hl, wpAny_loadPart' hb
    have hm : i < min items.size items2.size := by omega
    have hlt : i < items.size := Nat.lt_of_lt_of_le hm (Nat.min_le_left _ _)
    have hlt2 : i < items2.size := Nat.lt_of_lt_of_le hm (Nat.min_le_right _ _)
    have hi1 : items[((i : Nat) : Int).toNat]? = some items[i] := by simp [hlt]
    have hi2 : items2[((i : Nat) : Int).toNat]? = some items2[i] := by simp [hlt2]
    have hd : (List.range (min items.size items2.size)).drop i = i :: (List.range (min items.size items2.size)).drop (i + 1) := by simp [List.drop_eq_getElem_cons, hm]
    have hc : ((i : Int) + 1) = ((i + 1 : Nat) : Int) := by push_cast; rfl
    rw [hd] at h
    rw [hi1, hi2]
    refine wpAny_bind (he i hlt hlt2 prog w _ _ ?_)
    cases hb' : e i with
    | true =>
      rw [firstLt_yes hb'] at h
      wp_walk
      rw [hc]
      exact ⟨plainId_quiet plain_eq_loop _, codeAny_builtin entry_eq_loop (by
        rw [Around.under_plainId plain_eq_loop _]
        exact ih (i + 1) (by omega) prog w A R _ ⟨hl, hb, he, hr, (fun j hj => by
          rcases Nat.lt_or_ge j i with h | h
          · exact hI j h
          · rw [show j = i by omega]; exact hb'), h⟩)⟩
    | false =>
      rw [firstLt_no hb'] at h
      wp_walk using wpAny_loadPart' hl, wpAny_loadPart' hb
      rw [hi1, hi2]
      have hr' : ∀ (E : Value → Shared → Prop) (Q : Value → Shared → Prop), Q (.bool (r i)) ⟨hp, g, d, tk, os⟩ → wpAny (model prog w) A.in1 (richCompare .Lt items[i] items2[i]) Q E ⟨hp, g, d, tk, os⟩ := fun E Q q => hr i hlt hlt2 hI hb' prog w E Q q
      dsimp only
      generalize richCompare CmpOp.Lt items[i] items2[i] = rc at hr' ⊢
      wp_walk
      refine hr' _ _ ?_
      wp_walk
      exact h
theorem mp_list_lt (l b : Addr) (items items2 : Array Value) (n n2 : Nat) (dd dd2 : Option Addr) (sl sl2 : Array (Option Value)) (e r : Nat → Bool) :
    Meets (Builtin.«list.__lt__» ⟨[.ref l, .ref b], []⟩)
      (fun A R s => s.heap.get? l = some { cls := .type "list", dict := dd, data := .seq items n, slots := sl } ∧ s.heap.get? b = some { cls := .type "list", dict := dd2, data := .seq items2 n2, slots := sl2 } ∧
        (∀ j (h1 : j < items.size) (h2 : j < items2.size), EqAt A.in1 s items[j] items2[j] (e j)) ∧ (∀ j (h1 : j < items.size) (h2 : j < items2.size), (∀ i, i < j → e i = true) → e j = false → RcLt A.in1 s items[j] items2[j] (r j)) ∧
        R (.ok (.ret (.bool (firstLt e r (decide (items.size < items2.size)) (List.range (min items.size items2.size)))))) s) := by
  intro prog w A R s h
  obtain ⟨hp, g, d, tk, os⟩ := s; obtain ⟨hl, hb, he, hr, h⟩ := h
  have f3 := AutoSeq1.sub_list_list
  wp_walk using wpAny_loadPart' hl, wpAny_loadPart' hb
  exact ⟨plainId_quiet plain_eq_loop _, codeAny_builtin entry_eq_loop (by
    rw [Around.under_plainId plain_eq_loop _]
    exact mp_lt_loop l b items items2 n n2 dd dd2 sl sl2 e r _ 0 rfl prog w A R _ ⟨hl, hb, he, hr, (fun _ h => absurd h (Nat.not_lt_zero _)), by simpa using h⟩)⟩
theorem RcLt.lists1 {A : Around} {s : Shared} {l b : Addr} {items items2 : Array Value} {e r : Nat → Bool} (hl : s.heap.IsList l items) (hb : s.heap.IsList b items2) (hu : A.units < cLine)
    (he : ∀ j (h1 : j < items.size) (h2 : j < items2.size), EqAt A.in1 s items[j] items2[j] (e j)) (hr : ∀ j (h1 : j < items.size) (h2 : j < items2.size), (∀ i, i < j → e i = true) → e j = false → RcLt A.in1 s items[j] items2[j] (r j)) :
    RcLt A s (.ref l) (.ref b) (firstLt e r (decide (items.size < items2.size)) (List.range (min items.size items2.size))) := fun prog w E Q h => by
  obtain ⟨⟨cls, dd, data, sl⟩, ho, hc, n, hd⟩ := id hl
  obtain ⟨⟨cls2, dd2, data2, sl2⟩, ho2, hc2, n2, hd2⟩ := id hb
  simp only at hc hd hc2 hd2
  subst hc hd hc2 hd2
  exact richCompare_meets_room (op := .Lt) ⟨_, ho, rfl⟩ ⟨_, ho2, rfl⟩ F.slot_list_lt F.entry_list_lt (F.args_list_lt_2 _ _) (mp_list_lt l b items items2 n n2 dd dd2 sl sl2 e r)
    ⟨ho, ho2, he, hr, show Value.bool (firstLt e r (decide (items.size < items2.size)) (List.range (min items.size items2.size))) ≠ Value.notImplemented ∧ Q (.bool (firstLt e r (decide (items.size < items2.size)) (List.range (min items.size items2.size)))) s from ⟨(fun x => nomatch x), h⟩⟩ hu
theorem call_list_lt1 {A : Around} {s : Shared} {prog : Program} {w : World} {E : Value → Shared → Prop} {Q : Value → Shared → Prop} {l b : Addr} {items items2 : Array Value} {e r : Nat → Bool} (hl : s.heap.IsList l items) (hb : s.heap.IsList b items2)
    (he : ∀ j (h1 : j < items.size) (h2 : j < items2.size), EqAt A.in1 s items[j] items2[j] (e j)) (hr : ∀ j (h1 : j < items.size) (h2 : j < items2.size), (∀ i, i < j → e i = true) → e j = false → RcLt A.in1 s items[j] items2[j] (r j))
    (h : Q (.bool (firstLt e r (decide (items.size < items2.size)) (List.range (min items.size items2.size)))) s) : wpAny (model prog w) A (call (.builtin "list.__lt__") [.ref l, .ref b]) Q E s := by
  obtain ⟨⟨cls, dd, data, sl⟩, ho, hc, n, hd⟩ := id hl
  obtain ⟨⟨cls2, dd2, data2, sl2⟩, ho2, hc2, n2, hd2⟩ := id hb
  simp only at hc hd hc2 hd2
  subst hc hd hc2 hd2
  exact call_meets F.slot_list_lt ⟨_, ho, rfl⟩ F.entry_list_lt (F.args_list_lt_2 _ _) (mp_list_lt l b items items2 n n2 dd dd2 sl sl2 e r) ⟨ho, ho2, he, hr, h⟩
end PySem.SeqAt
namespace Mp
open PySem PySem.Spec PyProof.Rows L2
def ltAt (xs ys : List D) (j : Nat) : Bool := match xs[j]?, ys[j]? with
  | some x, some y => (ltD x y).getD false
  | _, _ => false
theorem firstLt_map (e r e' r' : Nat → Bool) (fin : Bool) (g : Nat → Nat) (he : ∀ j, e (g j) = e' j) (hr : ∀ j, r (g j) = r' j) : ∀ l : List Nat, SeqAt.firstLt e r fin (l.map g) = SeqAt.firstLt e' r' fin l
  | [] => rfl
  | j :: l => by
    rw [List.map_cons]
    cases h : e' j with
    | true => rw [SeqAt.firstLt_yes (by rw [he]; exact h), SeqAt.firstLt_yes h]; exact firstLt_map e r e' r' fin g he hr l
    | false => rw [SeqAt.firstLt_no (by rw [he]; exact h), SeqAt.firstLt_no h]; exact hr j
theorem first_ltDs : ∀ (xs ys : List D) (k : Bool), ltDs xs ys = some k → SeqAt.firstLt (SeqAt.pairEq xs ys) (ltAt xs ys) (decide (xs.length < ys.length)) (List.range (min xs.length ys.length)) = k
  | [], [], k, h => by cases h; rfl
  | [], _ :: _, k, h => by
    cases h
    simp [SeqAt.firstLt]
  | _ :: _, [], k, h => by
    cases h
    simp [SeqAt.firstLt]
  | x :: xs, y :: ys, k, h => by
    have hm : min (x :: xs).length (y :: ys).length = min xs.length ys.length + 1 := by simp
    rw [hm, List.range_succ_eq_map]
    unfold ltDs at h
    cases q : PyData.eqv x y with
    | true =>
      rw [q, if_pos rfl] at h
      rw [SeqAt.firstLt_yes (show SeqAt.pairEq (x :: xs) (y :: ys) 0 = true from q)]
      rw [firstLt_map _ _ (SeqAt.pairEq xs ys) (ltAt xs ys) _ Nat.succ (fun _ => rfl) (fun _ => rfl)]
      have e : decide ((x :: xs).length < (y :: ys).length) = decide (xs.length < ys.length) := by simp
      rw [e]
      exact first_ltDs xs ys k h
    | false =>
      rw [q, if_neg (by simp)] at h
      rw [SeqAt.firstLt_no (show SeqAt.pairEq (x :: xs) (y :: ys) 0 = false from q)]
      show (ltD x y).getD false = k
      rw [h]; rfl
theorem deeper_in {xs : List D} {j : Nat} {x : D} (h : xs[j]? = some x) : x.depth ≤ PyData.depthAll xs := by
  induction xs generalizing j with
  | nil => simp at h
  | cons y ys ih =>
    cases j with
    | zero => simp at h; subst h; simp only [PyData.depthAll]; omega
    | succ j => have := ih (j := j) (by simpa using h); simp only [PyData.depthAll]; omega
theorem reads_at {h : Heap} : ∀ {vs : List Value} {xs : List D} {as : List Addr} {j : Nat} {x : D}, ReadsAll h vs xs as → PyData.canLayAll0 xs = true → xs[j]? = some x →
    (∃ u, vs[j]? = some u ∧ ∃ bs, Reads h u x bs) ∧ x.canLay0 = true ∧ x.depth ≤ PyData.depthAll xs
  | _, _, _, _, _, .nil, _, e => by simp at e
  | _, y :: ys, _, 0, x, .cons r _, c, e => by
    simp at e; subst e
    have c' : y.canLay0 = true ∧ PyData.canLayAll0 ys = true := by simpa [PyData.canLayAll0] using c
    exact ⟨⟨_, rfl, _, r⟩, c'.1, by simp only [PyData.depthAll]; omega⟩
  | _, y :: ys, _, j + 1, x, .cons _ rs, c, e => by
    have c' : y.canLay0 = true ∧ PyData.canLayAll0 ys = true := by simpa [PyData.canLayAll0] using c
    obtain ⟨h1, h2, h3⟩ := reads_at (j := j) rs c'.2 (by simpa using e)
    exact ⟨by simpa using h1, h2, by simp only [PyData.depthAll]; omega⟩
theorem ltDs_at : ∀ (xs ys : List D) (k : Bool), ltDs xs ys = some k → ∀ (j : Nat) (x y : D), xs[j]? = some x → ys[j]? = some y → (∀ i, i < j → SeqAt.pairEq xs ys i = true) → SeqAt.pairEq xs ys j = false → ∃ kk, ltD x y = some kk
  | [], _, _, _, _, _, _, hx, _, _, _ => by simp at hx
  | _ :: _, [], _, _, _, _, _, _, hy, _, _ => by simp at hy
  | a :: xs, b :: ys, k, h, 0, x, y, hx, hy, _, hj => by
    simp at hx hy; subst hx hy
    have q : PyData.eqv a b = false := hj
    unfold ltDs at h
    rw [q, if_neg (by simp)] at h
    exact ⟨k, h⟩
  | a :: xs, b :: ys, k, h, j + 1, x, y, hx, hy, hI, hj => by
    have q : PyData.eqv a b = true := hI 0 (Nat.succ_pos _)
    unfold ltDs at h
    rw [q, if_pos rfl] at h
    exact ltDs_at xs ys k h j x y (by simpa using hx) (by simpa using hy) (fun i hi => hI (i + 1) (Nat.succ_lt_succ hi)) hj
/-- < as data say -/
theorem rc_lt : ∀ (n : Nat) (da db : D) (A : Around) (s : Shared) (a b : Value) (as bs : List Addr) (k : Bool), da.depth ≤ n → Reads s.heap a da as → Reads s.heap b db bs → da.canLay0 = true → db.canLay0 = true →
    A.units + min da.depth db.depth < cLine → ltD da db = some k → SeqAt.RcLt A s a b k := by
  intro n
  induction n with
  | zero =>
    intro da db A s a b as bs k hn ra rb ca cb hu h
    cases da with
    | int x =>
      cases db with
      | int y => cases h; cases ra; cases rb; exact fun prog w E Q hq => P.lt_int hq
      | _ => cases h
    | str x =>
      cases db with
      | str y => cases h; cases ra; cases rb; exact fun prog w E Q hq => P.lt_str hq
      | _ => cases h
    | tuple xs => simp only [PyData.depth] at hn; omega
    | list xs => simp only [PyData.depth] at hn; omega
    | _ => cases h
  | succ n ih =>
    intro da db A s a b as bs k hn ra rb ca cb hu h
    cases da with
    | int x =>
      cases db with
      | int y => cases h; cases ra; cases rb; exact fun prog w E Q hq => P.lt_int hq
      | _ => cases h
    | str x =>
      cases db with
      | str y => cases h; cases ra; cases rb; exact fun prog w E Q hq => P.lt_str hq
      | _ => cases h
    | tuple xs =>
      cases db with
      | tuple ys =>
        have h : ltDs xs ys = some k := h
        cases ra with
        | @tuple l o vs m _ as₁ h1 h2 h3 h4 =>
          cases rb with
          | @tuple l' o' vs' m' _ bs₁ k1 k2 k3 k4 =>
            have n1 : vs.size = xs.length := by simpa using SeqAt.ReadsAll.length _ _ _ h4
            have n2 : vs'.size = ys.length := by simpa using SeqAt.ReadsAll.length _ _ _ k4
            have ca' : PyData.canLayAll0 xs = true := by simpa [PyData.canLay0] using ca
            have cb' : PyData.canLayAll0 ys = true := by simpa [PyData.canLay0] using cb
            simp only [PyData.depth] at hu hn
            have hin : A.in1.units + min (PyData.depthAll xs) (PyData.depthAll ys) < cLine := by show A.units + 1 + _ < _; omega
            have hk := first_ltDs xs ys k h
            rw [← hk, ← n1, ← n2]
            refine SeqAt.RcLt.tuples1 (A := A) ⟨_, h1, h2, _, h3⟩ ⟨_, k1, k2, _, k3⟩ (by omega) (fun j j1 j2 => ?_) fun j j1 j2 hI hj => ?_
            · have := SeqAt.eqAt_readsAll xs ys A.in1 s vs.toList vs'.toList _ _ h4 k4 ca' cb' hin j (by simpa using j1) (by simpa using j2)
              simpa using this
            · obtain ⟨x, hx⟩ : ∃ x, xs[j]? = some x := ⟨xs[j]'(by omega), List.getElem?_eq_getElem (by omega)⟩
              obtain ⟨y, hy⟩ : ∃ y, ys[j]? = some y := ⟨ys[j]'(by omega), List.getElem?_eq_getElem (by omega)⟩
              have h5 : SeqAt.pairEq xs ys = fun j => SeqAt.pairEq xs ys j := rfl
              obtain ⟨r1, c1, d1⟩ := reads_at h4 ca' hx
              obtain ⟨r2, c2, d2⟩ := reads_at k4 cb' hy
              obtain ⟨u1, e1, r1⟩ := r1
              obtain ⟨u2, e2, r2⟩ := r2
              have w1 : vs[j] = u1 := by
                rw [Array.getElem?_toList, Array.getElem?_eq_getElem j1] at e1
                exact Option.some.inj e1
              have w2 : vs'[j] = u2 := by
                rw [Array.getElem?_toList, Array.getElem?_eq_getElem j2] at e2
                exact Option.some.inj e2
              rw [w1, w2]
              obtain ⟨bs1, r1⟩ := r1
              obtain ⟨bs2, r2⟩ := r2
              obtain ⟨kk, hkk⟩ := ltDs_at xs ys k h j x y hx hy hI hj
              have : ltAt xs ys j = kk := by simp only [ltAt, hx, hy, hkk, Option.getD_some]
              rw [this]
              exact ih x y A.in1 s u1 u2 bs1 bs2 kk (by omega) r1 r2 c1 c2 (by omega) hkk
      | _ => cases h
    | list xs =>
      cases db with
      | list ys =>
        have h : ltDs xs ys = some k := h
        cases ra with
        | @list l o vs m _ as₁ h1 h2 h3 h4 =>
          cases rb with
          | @list l' o' vs' m' _ bs₁ k1 k2 k3 k4 =>
            have n1 : vs.size = xs.length := by simpa using SeqAt.ReadsAll.length _ _ _ h4
            have n2 : vs'.size = ys.length := by simpa using SeqAt.ReadsAll.length _ _ _ k4
            have ca' : PyData.canLayAll0 xs = true := by simpa [PyData.canLay0] using ca
            have cb' : PyData.canLayAll0 ys = true := by simpa [PyData.canLay0] using cb
            simp only [PyData.depth] at hu hn
            have hin : A.in1.units + min (PyData.depthAll xs) (PyData.depthAll ys) < cLine := by show A.units + 1 + _ < _; omega
            have hk := first_ltDs xs ys k h
            rw [← hk, ← n1, ← n2]
            refine SeqAt.RcLt.lists1 (A := A) ⟨_, h1, h2, _, h3⟩ ⟨_, k1, k2, _, k3⟩ (by omega) (fun j j1 j2 => ?_) fun j j1 j2 hI hj => ?_
            · have := SeqAt.eqAt_readsAll xs ys A.in1 s vs.toList vs'.toList _ _ h4 k4 ca' cb' hin j (by simpa using j1) (by simpa using j2)
              simpa using this
            · obtain ⟨x, hx⟩ : ∃ x, xs[j]? = some x := ⟨xs[j]'(by omega), List.getElem?_eq_getElem (by omega)⟩
              obtain ⟨y, hy⟩ : ∃ y, ys[j]? = some y := ⟨ys[j]'(by omega), List.getElem?_eq_getElem (by omega)⟩
              have h5 : SeqAt.pairEq xs ys = fun j => SeqAt.pairEq xs ys j := rfl
              obtain ⟨r1, c1, d1⟩ := reads_at h4 ca' hx
              obtain ⟨r2, c2, d2⟩ := reads_at k4 cb' hy
              obtain ⟨u1, e1, r1⟩ := r1
              obtain ⟨u2, e2, r2⟩ := r2
              have w1 : vs[j] = u1 := by
                rw [Array.getElem?_toList, Array.getElem?_eq_getElem j1] at e1
                exact Option.some.inj e1
              have w2 : vs'[j] = u2 := by
                rw [Array.getElem?_toList, Array.getElem?_eq_getElem j2] at e2
                exact Option.some.inj e2
              rw [w1, w2]
              obtain ⟨bs1, r1⟩ := r1
              obtain ⟨bs2, r2⟩ := r2
              obtain ⟨kk, hkk⟩ := ltDs_at xs ys k h j x y hx hy hI hj
              have : ltAt xs ys j = kk := by simp only [ltAt, hx, hy, hkk, Option.getD_some]
              rw [this]
              exact ih x y A.in1 s u1 u2 bs1 bs2 kk (by omega) r1 r2 c1 c2 (by omega) hkk
      | _ => cases h
    | _ => cases h
end Mp
set_option maxHeartbeats 1000000
/-! Snd2b: more operations. -/
namespace Mp
open PySem PySem.Spec PyProof.Rows L2
section
variable {X : Cx} {fa : Lay}
def rCmpL (X : Cx) (fa : Lay) : R2 := rCmpD X fa ltD
theorem cmp_lt (hu : X.A.units + 64 < cLine) : OpR X (compareOp .Lt) (rCmpD X fa ltD) := by
  intro pins s σ H x y v u Q I rx ry h
  obtain ⟨Z, a, b, r, ha, hb, hd, e, q⟩ := h
  obtain ⟨as, r1⟩ := Dp.reads I a x v ha.dp.1 rx
  obtain ⟨bs, r2⟩ := Dp.reads I b y u hb.dp.1 ry
  have hd : min a.depth b.depth ≤ 64 := of_decide_eq_true hd
  exact rc_lt a.depth a b X.A s v u as bs r (Nat.le_refl _) r1 r2 ha.dp.2 hb.dp.2 (by omega) e X.prog X.w _ _ ⟨.bl _, H, I, rfl, q⟩
theorem bin_lt (hu : X.A.units + 64 < cLine) : OpR X (compareOp .Lt) (rB X fa .lt) := by
  intro pins s σ H x y v u Q I rx ry h
  obtain ⟨Z, a, b, F1, F2, r, h1, h2, e, q⟩ := h
  obtain ⟨k, e1, rfl⟩ := asBl_some (show asBl (bLt a b) = some r from e)
  exact cmp_lt hu pins s σ H x y v u Q I rx ry (RX.cmp h1 h2 e1 (q.data (.bool k)))
theorem bin_gt : OpR X (compareOp .Gt) (rB X fa .gt) := by
  intro pins s σ H x y v u Q I rx ry h
  obtain ⟨Z, a, b, F1, F2, r, h1, h2, e, q⟩ := h
  obtain ⟨k, e1, rfl⟩ := asBl_some (show asBl (bGt a b) = some r from e)
  unfold bGt at e1
  split at e1
  · rename_i i j
    cases e1
    exact op_gt pins s σ H x y v u Q I rx ry ⟨i, j, h1.int, h2.int, q.data (.bool _)⟩
  · rename_i i j
    cases e1
    exact op_gt_str pins s σ H x y v u Q I rx ry ⟨i, j, h1.str.1, h2.str.1, q.data (.bool _)⟩
  · cases e1
/-! in -/
theorem RD.rds_seq {K : PySem.W.Frag} : True := trivial
/-- x in y, y a list or a tuple -/
def rInQ (X : Cx) (fa : Lay) (neg : Bool) : R2 := fun x y H Q => ∃ Z a l b, RD (cf X fa) Z H a x ∧ (RD (cf X fa) Z H (.list l) y ∨ RD (cf X fa) Z H (.tuple l) y) ∧ deepL a l = true ∧ b = hasD a l ∧ Q (.bl (if neg then !b else b)) H
theorem inq_in (hu : X.A.units + 65 < cLine) : OpR X (compareOp .In) (rInQ X fa false) := by
  intro pins s σ H x y v u Q I rx ry h
  obtain ⟨Z, a, l, b, ha, hl, hd, rfl, q⟩ := h
  obtain ⟨as, r1⟩ := Dp.reads I a x v ha.dp.1 rx
  have hd : min (PyData.depthAll l) a.depth ≤ 64 := of_decide_eq_true hd
  rcases hl with hl | hl
  · obtain ⟨bs, r2⟩ := Dp.reads I _ y u hl.dp.1 ry
    exact SeqAt.in_list_reads r2 r1 (by simpa [PyData.canLay0] using hl.dp.2) ha.dp.2 (by omega) ⟨.bl _, H, I, rfl, q⟩
  · obtain ⟨bs, r2⟩ := Dp.reads I _ y u hl.dp.1 ry
    exact SeqAt.in_tuple_reads r2 r1 (by simpa [PyData.canLay0] using hl.dp.2) ha.dp.2 (by omega) ⟨.bl _, H, I, rfl, q⟩
theorem inq_notin (hu : X.A.units + 65 < cLine) : OpR X (compareOp .NotIn) (rInQ X fa true) := by
  intro pins s σ H x y v u Q I rx ry h
  obtain ⟨Z, a, l, b, ha, hl, hd, rfl, q⟩ := h
  obtain ⟨as, r1⟩ := Dp.reads I a x v ha.dp.1 rx
  have hd : min (PyData.depthAll l) a.depth ≤ 64 := of_decide_eq_true hd
  rcases hl with hl | hl
  · obtain ⟨bs, r2⟩ := Dp.reads I _ y u hl.dp.1 ry
    exact SeqAt.notIn_list_reads r2 r1 (by simpa [PyData.canLay0] using hl.dp.2) ha.dp.2 (by omega) ⟨.bl _, H, I, rfl, q⟩
  · obtain ⟨bs, r2⟩ := Dp.reads I _ y u hl.dp.1 ry
    exact SeqAt.notIn_tuple_reads r2 r1 (by simpa [PyData.canLay0] using hl.dp.2) ha.dp.2 (by omega) ⟨.bl _, H, I, rfl, q⟩
theorem RX.inq {Z : Ad} {H : Hp} {a b : Mp.X} {x y : V} {F1 F2 : List Addr} {l : List D} {k neg : Bool} {Q : VK} (h1 : RX (cf X fa) Z H a x F1) (h2 : RX (cf X fa) Z H b y F2) (hb : dat? b = some (.list l) ∨ dat? b = some (.tuple l))
    (e : ((dat? a).bind fun a => inSeq a l) = some k) (q : Q (.bl (if neg then !k else k)) H) : rInQ X fa neg x y H Q := by
  cases q1 : dat? a with
  | none => rw [q1] at e; cases e
  | some d1 =>
    rw [q1] at e
    have e : (if deepL d1 l then some (hasD d1 l) else none) = some k := e
    split at e
    · rename_i hd
      cases e
      refine ⟨fun b => (Z b ∨ b ∈ F1) ∨ b ∈ F2, d1, l, _, ?_, ?_, hd, rfl, q⟩
      · exact (h1.rd q1).kp ⟨fun _ _ e _ _ => e, fun _ z => .inl z⟩
      · have kp : Kp (fun b => Z b ∨ b ∈ F2) H (fun b => (Z b ∨ b ∈ F1) ∨ b ∈ F2) H := ⟨fun _ _ e _ _ => e, fun _ z => z.elim (fun z => .inl (.inl z)) .inr⟩
        rcases hb with hb | hb
        · exact .inl ((h2.rd hb).kp kp)
        · exact .inr ((h2.rd hb).kp kp)
    · cases e
theorem bIn_seq {a b : Mp.X} {k : Bool} (e : bIn a b = some k) : (∃ l, (dat? b = some (.list l) ∨ dat? b = some (.tuple l)) ∧ ((dat? a).bind fun a => inSeq a l) = some k) ∨
    (∃ z, b = .d (.str z) ∧ inStr z a = some k) ∨ ∃ l, b = .dic l ∧ ((dat? a).bind (inDic l)) = some k := by
  unfold bIn at e
  split at e
  · exact .inl ⟨_, .inr rfl, e⟩
  · exact .inl ⟨_, .inl rfl, e⟩
  · rename_i l
    cases q : dats? l with
    | none => rw [q] at e; cases e
    | some m => rw [q] at e; exact .inl ⟨m, .inl (by show (dats? l).map PyData.list = _; rw [q]; rfl), e⟩
  · exact .inr (.inr ⟨_, rfl, e⟩)
  · exact .inr (.inl ⟨_, rfl, e⟩)
  · cases e
theorem inStr_some {z : Str} {a : Mp.X} {k : Bool} (e : inStr z a = some k) : ∃ c : Nat, a = .d (.str ⟨#[c]⟩) ∧ k = decide (c ∈ z.cps.toList) := by
  unfold inStr at e
  split at e
  · rename_i c
    split at e
    · rename_i hc
      cases e
      obtain ⟨cps⟩ := c
      have hc : cps.size = 1 := hc
      obtain ⟨x, rfl⟩ : ∃ x, cps = #[x] := by
        refine ⟨cps[0], ?_⟩
        apply Array.ext
        · simpa using hc
        · intro i h1 h2
          have : i = 0 := by omega
          subst this
          rfl
      exact ⟨x, rfl, by simp⟩
    · cases e
  · cases e
end
/-- a dict's side of in (given elsewhere) -/
def InD (X : Cx) (fa : Lay) : Prop := ∀ neg : Bool, OpR X (compareOp (if neg then .NotIn else .In)) fun x y H Q => ∃ Z a l F1 F2 k, RX (cf X fa) Z H a x F1 ∧ RX (cf X fa) Z H (.dic l) y F2 ∧ ((dat? a).bind (inDic l)) = some k ∧ Q (.bl (if neg then !k else k)) H
section
variable {X : Cx} {fa : Lay}
theorem bin_in (hu : X.A.units + 65 < cLine) (hD : InD X fa) : OpR X (compareOp .In) (rB X fa .in_) := by
  intro pins s σ H x y v u Q I rx ry h
  obtain ⟨Z, a, b, F1, F2, r, h1, h2, e, q⟩ := h
  obtain ⟨k, e1, rfl⟩ := asBl_some (show asBl (bIn a b) = some r from e)
  have q' := q.data (.bool k)
  rcases bIn_seq e1 with ⟨l, hb, e5⟩ | ⟨z, rfl, e5⟩ | ⟨l, rfl, e5⟩
  · exact inq_in (fa := fa) hu pins s σ H x y v u Q I rx ry (RX.inq h1 h2 hb e5 q')
  · obtain ⟨c, rfl, rfl⟩ := inStr_some e5
    exact op_in_sign pins s σ H x y v u Q I rx ry ⟨c, z, h1.str.1, h2.str.1, q'⟩
  · exact hD false pins s σ H x y v u Q I rx ry ⟨Z, a, l, F1, F2, k, h1, h2, e5, q'⟩
theorem bin_notin (hu : X.A.units + 65 < cLine) (hD : InD X fa) : OpR X (compareOp .NotIn) (rB X fa .notin) := by
  intro pins s σ H x y v u Q I rx ry h
  obtain ⟨Z, a, b, F1, F2, r, h1, h2, e, q⟩ := h
  obtain ⟨k, e1, rfl⟩ := asBl_some (show asBl ((bIn a b).map not) = some r from e)
  obtain ⟨k', e7, rfl⟩ : ∃ k', bIn a b = some k' ∧ k = !k' := by
    cases q : bIn a b with
    | none => rw [q] at e1; cases e1
    | some k' => rw [q] at e1; cases e1; exact ⟨k', rfl, rfl⟩
  have q' := q.data (.bool (!k'))
  rcases bIn_seq e7 with ⟨l, hb, e5⟩ | ⟨z, rfl, e5⟩ | ⟨l, rfl, e5⟩
  · exact inq_notin (fa := fa) hu pins s σ H x y v u Q I rx ry (RX.inq h1 h2 hb e5 q')
  · obtain ⟨c, rfl, rfl⟩ := inStr_some e5
    exact op_notIn_sign pins s σ H x y v u Q I rx ry ⟨c, z, h1.str.1, h2.str.1, q'⟩
  · exact hD true pins s σ H x y v u Q I rx ry ⟨Z, a, l, F1, F2, k', h1, h2, e5, q'⟩
/-! an item -/
theorem ixOf_atI {α : Type} {xs : List α} {i : Int} {j : Nat} {x : α} (h : ixOf xs.length i = some j) (e : xs[j]? = some x) : atI xs i = some x := by
  have : ixN xs.length i = some j := by
    unfold ixOf at h
    unfold ixN
    split at h
    · rename_i h0
      split at h
      · rename_i h1
        cases h
        rw [if_pos h0, if_pos (by omega)]
      · cases h
    · rename_i h0
      split at h
      · rename_i h1
        cases h
        rw [if_neg h0, if_pos (by omega)]
      · cases h
  unfold atI
  rw [this]
  exact e
theorem RXs.get {c : Cf} {Z : Ad} {H : Hp} : ∀ {xs : List Mp.X} {vs : List V} {F : List Addr} {j : Nat} {x : Mp.X}, RXs c Z H xs vs F → xs[j]? = some x → ∃ v F', vs[j]? = some v ∧ RX c Z H x v F'
  | _, _, _, _, _, .nil, e => by simp at e
  | _, _, _, 0, _, .cons h _, e => by simp at e; subst e; exact ⟨_, _, rfl, h⟩
  | _, _, _, j + 1, _, .cons _ h, e => by
    obtain ⟨v, F', h1, h2⟩ := RXs.get (j := j) h (by simpa using e)
    exact ⟨v, F', by simpa using h1, h2⟩
/-- a dict's side -/
def IxD (X : Cx) (fa : Lay) : Prop := IxR X fun x y H Q => ∃ Z l k F1 F2 r, RX (cf X fa) Z H (.dic l) x F1 ∧ RX (cf X fa) Z H (.d k) y F2 ∧ okIn k l = true ∧ (lookD k l).bind dataX = some r ∧ ResOk (cf X fa) Z H r Q
theorem bin_ix (hD : IxD X fa) : IxR X (rB X fa .ix) := by
  intro va sl pins s σ H x y v u Q I rx ry h hs
  obtain ⟨Z, a, b, F1, F2, r, h1, h2, e, q⟩ := h
  change bIx a b = some r at e
  unfold bIx at e
  split at e
  · rename_i l i
    obtain ⟨p, vs, rfl, hq, hl⟩ := h1.tup
    obtain ⟨j, e1, e2⟩ := Option.bind_eq_some_iff.mp e
    obtain ⟨d, e3, rfl⟩ := Option.map_eq_some_iff.mp e2
    obtain ⟨w, e4, hw⟩ := hl.get e3
    exact ix_tup va sl pins s σ H _ y v u Q I rx ry ⟨p, vs, i, w, rfl, h2.int, hq, ixOf_atI (by rw [← hl.length]; exact e1) e4, q.data hw⟩ hs
  · rename_i l i
    obtain ⟨p, vs, rfl, hq, hl⟩ := h1.isl (l := l) rfl
    obtain ⟨j, e1, e2⟩ := Option.bind_eq_some_iff.mp e
    obtain ⟨d, e3, rfl⟩ := Option.map_eq_some_iff.mp e2
    obtain ⟨w, e4, hw⟩ := hl.get e3
    exact ix_list va sl pins s σ H _ y v u Q I rx ry ⟨p, vs, i, w, rfl, h2.int, hq.sq, ixOf_atI (by rw [← hl.length]; exact e1) e4, q.data hw⟩ hs
  · rename_i l i
    cases h1 with
    | @lst p vs _ F hp hl =>
      obtain ⟨j, e1, e2⟩ := Option.bind_eq_some_iff.mp e
      obtain ⟨z, e3, e5⟩ := Option.bind_eq_some_iff.mp e2
      obtain ⟨w, F', e4, hw⟩ := hl.get e3
      cases z with
      | d z =>
        cases e5
        cases hw with
        | d hw => exact ix_list va sl pins s σ H _ y v u Q I rx ry ⟨p, vs, i, w, rfl, h2.int, .inl (.inl hp), ixOf_atI (by rw [← hl.length]; exact e1) e4, q.data hw⟩ hs
      | _ => cases e5
  · rename_i z i
    obtain ⟨j, e1, e2⟩ := Option.bind_eq_some_iff.mp e
    obtain ⟨c, e3, rfl⟩ := Option.map_eq_some_iff.mp e2
    obtain ⟨ez, oz⟩ := h1.str
    exact ix_str va sl pins s σ H x y v u Q I rx ry ⟨z, i, c, ez, h2.int, by rw [← lim_eq]; exact oz.2, ixOf_atI (by simpa using e1) e3, q.data (.str _ (okS_sub oz (.inl (Nat.le_refl 1)) fun c' hc => by simp at hc; subst hc; exact List.mem_of_getElem? e3))⟩ hs
  · rename_i l k
    split at e
    · rename_i hk
      exact hD va sl pins s σ H x y v u Q I rx ry ⟨Z, l, k, F1, F2, r, h1, h2, hk, e, q⟩ hs
    · cases e
  · cases e
end
end Mp
set_option maxHeartbeats 1000000
/-! Snd2c: slices, one-place operations, truth. -/
namespace Mp
open PySem PySem.Spec PyProof.Rows L2
section
variable {X : Cx} {fa : Lay}
/-! slices -/
theorem sIx_eq (n d : Nat) (o : Option Int) : sIx n d o = HT.sIx n d o := by
  cases o <;> rfl
theorem cutV_eq (xs : List V) (lo hi : Option Int) : cutV xs lo hi = cut xs lo hi := by
  unfold cutV cut
  rw [sIx_eq, sIx_eq]
theorem RDs.drop {c : Cf} {Z : Ad} {H : Hp} : ∀ {l : List D} {vs : List V} (n : Nat), RDs c Z H l vs → RDs c Z H (l.drop n) (vs.drop n)
  | _, _, 0, h => h
  | _, _, _ + 1, .nil => .nil
  | _, _, n + 1, .cons _ h => RDs.drop n h
theorem RDs.take {c : Cf} {Z : Ad} {H : Hp} : ∀ {l : List D} {vs : List V} (n : Nat), RDs c Z H l vs → RDs c Z H (l.take n) (vs.take n)
  | _, _, 0, _ => .nil
  | _, _, _ + 1, .nil => .nil
  | _, _, n + 1, .cons h1 h => .cons h1 (RDs.take n h)
theorem RDs.cut {c : Cf} {Z : Ad} {H : Hp} {l : List D} {vs : List V} (lo hi : Option Int) (h : RDs c Z H l vs) : RDs c Z H (Mp.cut l lo hi) (cutV vs lo hi) := by
  rw [cutV_eq]
  unfold Mp.cut
  rw [h.length]
  exact (h.drop _).take _
def rSl (X : Cx) (fa : Lay) : V → Option Int → Option Int → Hp → VK → Prop := fun x lo hi H Q => ∃ Z a F r, RX (cf X fa) Z H a x F ∧ sliceOf lo hi a = some r ∧ ResOk (cf X fa) Z H r Q
theorem cut_whole {α : Type} {l : List α} {lo hi : Option Int} (h : HT.sIx l.length 0 lo = 0 ∧ HT.sIx l.length l.length hi = l.length) : cut l lo hi = l := by
  unfold cut
  rw [sIx_eq, sIx_eq, h.1, h.2]
  simp
theorem sl_any : SlR X (rSl X fa) := by
  intro pins s σ H x v vl vu lo hi sl Q I rx hs pl pu h
  obtain ⟨Z, a, F, r, ha, e, q⟩ := h
  unfold sliceOf at e
  split at e
  · rename_i l
    cases e
    obtain ⟨p, vs, rfl, hq, hl⟩ := ha.tup
    refine sl_tupA pins s σ H _ v vl vu lo hi sl Q I rx hs pl pu ⟨p, vs, rfl, hq, fun hw => ?_, fun _ p hp => ?_⟩
    · rw [← hl.length] at hw
      rw [cut_whole hw] at q
      exact q.data (.tup hq hl)
    · exact q.tup (hl.cut lo hi) hp
  · rename_i l
    cases e
    obtain ⟨p, vs, rfl, hq, hl⟩ := ha.isl (l := l) rfl
    exact sl_list pins s σ H _ v vl vu lo hi sl Q I rx hs pl pu ⟨p, vs, rfl, hq.sq, fun p hp => q.lst (hl.cut lo hi) hp⟩
  · rename_i l
    obtain ⟨m, e1, rfl⟩ := Option.map_eq_some_iff.mp e
    obtain ⟨p, vs, rfl, hq, hl⟩ := ha.isl e1
    exact sl_list pins s σ H _ v vl vu lo hi sl Q I rx hs pl pu ⟨p, vs, rfl, hq.sq, fun p hp => q.lst (hl.cut lo hi) hp⟩
  · rename_i z
    cases e
    obtain ⟨ez, oz⟩ := ha.str
    refine sl_str pins s σ H x v vl vu lo hi sl Q I rx hs pl pu ⟨z, ez, by rw [← lim_eq]; exact oz.2, ?_⟩
    have e2 : cutS z lo hi = ⟨(cut z.cps.toList lo hi).toArray⟩ := by
      unfold cutS cut
      rw [sIx_eq, sIx_eq]
      have : z.cps.toList.length = z.length := by simp [Str.length]
      rw [this]
    rw [e2]
    refine q.data (.str _ (okS_sub oz (.inr ?_) fun c hc => ?_))
    · rw [← e2]; exact cutS_length z lo hi
    · have : c ∈ cut z.cps.toList lo hi := by simpa using hc
      exact List.mem_of_mem_drop (List.mem_of_mem_take this)
  · cases e

/-! one value in -/
def rU1 (X : Cx) (fa : Lay) (o : U) : V → Hp → VK → Prop := fun x H Q => ∃ Z a F r, RX (cf X fa) Z H a x F ∧ uop o a = some r ∧ ResOk (cf X fa) Z H r Q
def rC1 (X : Cx) (fa : Lay) (o : U) : List V → Hp → VK → Prop := fun xs H Q => ∃ x, xs = [x] ∧ rU1 X fa o x H Q
theorem un_negU : UnR X (unaryOp .USub) (rU1 X fa .neg) := by
  intro pins s σ H x v Q I rx h
  obtain ⟨Z, a, F, r, ha, e, q⟩ := h
  change uNeg a = some r at e
  unfold uNeg at e
  split at e
  · rename_i i
    cases e
    exact un_neg pins s σ H x v Q I rx ⟨i, ha.int, res_int q⟩
  · cases e
theorem c_abs : CallR X (.builtin "abs") (rC1 X fa .abs) := by
  intro pins s σ H xs us Q I r h
  obtain ⟨x, rfl, Z, a, F, r', ha, e, q⟩ := h
  change uAbs a = some r' at e
  unfold uAbs at e
  split at e
  · rename_i i
    cases e
    exact call_abs pins s σ H _ us Q I r ⟨i, by rw [ha.int], res_int q⟩
  · cases e
theorem c_int : CallR X (.type "int") (rC1 X fa .int) := by
  intro pins s σ H xs us Q I r h
  obtain ⟨x, rfl, Z, a, F, r', ha, e, q⟩ := h
  change uInt a = some r' at e
  unfold uInt at e
  split at e
  · rename_i i
    cases e
    exact call_int1 pins s σ H _ us Q I r (.inl ⟨i, by rw [ha.int], res_int q⟩)
  · rename_i b
    cases e
    exact call_int1 pins s σ H _ us Q I r (.inr ⟨b, by rw [ha.bool], q.data (.int _)⟩)
  · cases e
/-- a dict's side of a one-place operation -/
def UnD (X : Cx) (fa : Lay) (f : Value) (o : U) : Prop := CallR X f fun xs H Q => ∃ x Z l F r, xs = [x] ∧ RX (cf X fa) Z H (.dic l) x F ∧ uop o (.dic l) = some r ∧ ResOk (cf X fa) Z H r Q
theorem RX.any {c : Cf} {Z : Ad} {H : Hp} {x : Mp.X} {v : V} {F : List Addr} {xs : List Mp.X} (h : RX c Z H x v F) (e : lsX x = some xs) : ∃ a vs F', v = .ref a ∧ RdL c.K H a vs ∧ RXs c Z H xs vs F' := by
  cases x with
  | d x =>
    cases x with
    | list m =>
      cases e
      obtain ⟨a, vs, rfl, h1, h2⟩ := h.isl (l := m) rfl
      exact ⟨a, vs, [], rfl, h1, h2.xs⟩
    | _ => cases e
  | lst ys =>
    cases e
    cases h with
    | lst h1 h2 => exact ⟨_, _, _, rfl, .inl (.inl h1), h2⟩
  | _ => cases e
theorem c_len (hD : UnD X fa (.builtin "len") .len) : CallR X (.builtin "len") (rC1 X fa .len) := by
  intro pins s σ H xs us Q I r h
  obtain ⟨x, rfl, Z, a, F, r', ha, e0, q⟩ := h
  have e : uLen a = some r' := e0
  unfold uLen at e
  split at e
  · rename_i l
    cases e
    obtain ⟨p, vs, rfl, hq, hl⟩ := ha.tup
    exact call_len pins s σ H _ us Q I r ⟨_, _, rfl, .inr ⟨vs, hq, hl.length⟩, res_int q⟩
  · rename_i l
    cases e
    obtain ⟨p, vs, rfl, hq, hl⟩ := ha.isl (l := l) rfl
    exact call_len pins s σ H _ us Q I r ⟨_, _, rfl, .inl ⟨vs, hq.sq, hl.length⟩, res_int q⟩
  · rename_i z
    cases e
    obtain ⟨rfl, oz⟩ := ha.str
    exact call_len pins s σ H _ us Q I r ⟨_, _, rfl, ⟨by rw [← lim_eq]; exact oz.2, rfl⟩, res_int q⟩
  · rename_i l
    cases e
    obtain ⟨p, vs, F', rfl, hq, hl⟩ := ha.any (xs := l) rfl
    exact call_len pins s σ H _ us Q I r ⟨_, _, rfl, .inl ⟨vs, hq.sq, hl.length⟩, res_int q⟩
  · exact hD pins s σ H _ us Q I r ⟨x, Z, _, F, r', rfl, ha, e0, q⟩
  · cases e
theorem c_tuple : CallR X (.type "tuple") (rC1 X fa .tuple) := by
  intro pins s σ H xs us Q I r h
  obtain ⟨x, rfl, Z, a, F, r', ha, e0, q⟩ := h
  have e : uTuple a = some r' := e0
  unfold uTuple at e
  split at e
  · rename_i l
    cases e
    obtain ⟨p, vs, rfl, hq, hl⟩ := ha.tup
    exact call_tuple_of pins s σ H _ us Q I r ⟨p, vs, rfl, .inr ⟨hq, q.data (.tup hq hl)⟩⟩
  · rename_i l
    cases e
    obtain ⟨p, vs, rfl, hq, hl⟩ := ha.isl (l := l) rfl
    exact call_tuple_of pins s σ H _ us Q I r ⟨p, vs, rfl, .inl ⟨hq.sq, fun _ hp => q.tup hl hp⟩⟩
  · rename_i l
    obtain ⟨m, e1, rfl⟩ := Option.map_eq_some_iff.mp e
    obtain ⟨p, vs, rfl, hq, hl⟩ := ha.isl e1
    exact call_tuple_of pins s σ H _ us Q I r ⟨p, vs, rfl, .inl ⟨hq.sq, fun _ hp => q.tup hl hp⟩⟩
  · cases e
theorem c_list : CallR X (.type "list") (rC1 X fa .list) := by
  intro pins s σ H xs us Q I r h
  obtain ⟨x, rfl, Z, a, F, r', ha, e0, q⟩ := h
  have e : uList a = some r' := e0
  unfold uList at e
  split at e
  · rename_i l
    cases e
    obtain ⟨p, vs, rfl, hq, hl⟩ := ha.tup
    exact call_list_of pins s σ H _ us Q I r ⟨p, vs, rfl, .inr hq, fun _ hp => q.lst hl hp⟩
  · rename_i l
    cases e
    obtain ⟨p, vs, rfl, hq, hl⟩ := ha.isl (l := l) rfl
    exact call_list_of pins s σ H _ us Q I r ⟨p, vs, rfl, .inl hq.sq, fun _ hp => q.lst hl hp⟩
  · rename_i l
    obtain ⟨m, e1, rfl⟩ := Option.map_eq_some_iff.mp e
    obtain ⟨p, vs, rfl, hq, hl⟩ := ha.isl e1
    exact call_list_of pins s σ H _ us Q I r ⟨p, vs, rfl, .inl hq.sq, fun _ hp => q.lst hl hp⟩
  · cases e
theorem truths_bls {c : Cf} {Z : Ad} {H : Hp} : ∀ {xs : List Mp.X} {vs : List V} {F : List Addr} {bs : List Bool}, RXs c Z H xs vs F → truths xs = some bs → vs = bs.map V.bl
  | _, _, _, _, .nil, e => by cases e; rfl
  | x :: xs, _, _, _, .cons h1 h2, e => by
    have e : ((boolX x).bind fun b => (truths xs).map (b :: ·)) = some _ := e
    obtain ⟨b, e1, e2⟩ := Option.bind_eq_some_iff.mp e
    obtain ⟨bs, e3, rfl⟩ := Option.map_eq_some_iff.mp e2
    have := truths_bls h2 e3
    subst this
    unfold boolX at e1
    split at e1
    · cases e1
      rw [h1.bool]
      rfl
    · cases e1
theorem c_all (hc : X.calm = true) : CallR X (.builtin "all") (rC1 X fa .all_) := by
  intro pins s σ H xs us Q I r h
  obtain ⟨x, rfl, Z, a, F, r', ha, e, q⟩ := h
  have e : ((lsX a).bind fun l => (truths l).map fun bs => Mp.X.d (.bool (bs.all id))) = some r' := e
  obtain ⟨l, e1, e2⟩ := Option.bind_eq_some_iff.mp e
  obtain ⟨bs, e3, rfl⟩ := Option.map_eq_some_iff.mp e2
  obtain ⟨p, vs, F', rfl, hq, hl⟩ := ha.any e1
  have := truths_bls hl e3
  subst this
  exact cr_all hc pins s σ H _ us Q I r ⟨p, bs, rfl, hq.sq, q.data (.bool _)⟩
theorem c_any (hc : X.calm = true) : CallR X (.builtin "any") (rC1 X fa .any_) := by
  intro pins s σ H xs us Q I r h
  obtain ⟨x, rfl, Z, a, F, r', ha, e, q⟩ := h
  have e : ((lsX a).bind fun l => (truths l).map fun bs => Mp.X.d (.bool (bs.any id))) = some r' := e
  obtain ⟨l, e1, e2⟩ := Option.bind_eq_some_iff.mp e
  obtain ⟨bs, e3, rfl⟩ := Option.map_eq_some_iff.mp e2
  obtain ⟨p, vs, F', rfl, hq, hl⟩ := ha.any e1
  have := truths_bls hl e3
  subst this
  exact cr_any hc pins s σ H _ us Q I r ⟨p, bs, rfl, hq.sq, q.data (.bool _)⟩
theorem c_repr (hg : X.A.guards = some []) (hu : X.A.units + 64 < cLine) : CallR X (.builtin "repr") (rC1 X fa .repr) := by
  intro pins s σ H xs us Q I r h
  obtain ⟨x, rfl, Z, a, F, r', ha, e, q⟩ := h
  have e : (((dat? a).bind shown).map fun z => Mp.X.d (.str z)) = some r' := e
  obtain ⟨z, e1, rfl⟩ := Option.map_eq_some_iff.mp e
  obtain ⟨d, e2, e3⟩ := Option.bind_eq_some_iff.mp e1
  unfold shown at e3
  split at e3
  · rename_i hs
    cases e3
    obtain ⟨h1, h2, h3, h4⟩ := hs
    have hr := ha.rd e2
    obtain ⟨u, rfl, ru⟩ := vals1 r
    obtain ⟨as, rr⟩ := Dp.reads I d x u hr.dp.1 ru
    have hq : Q (.str d.shown) H := q.data (.str _ ⟨h4, h2⟩)
    have hz : d.shown.length ≤ sizeLine := by rw [← lim_eq]; exact h2
    have hnd := PyData.hasDict_of_canLay d hr.dp.2
    cases hr with
    | none => cases rr; exact PySem.P.repr_of_none (by simp only [PyData.shown] at hq; exact ⟨.str _, H, I.tok _, ⟨_, rfl⟩, hq⟩)
    | bool b => cases rr; exact PySem.P.repr_of_bool (by simp only [PyData.shown] at hq; exact ⟨.str _, H, I.tok _, ⟨_, rfl⟩, hq⟩)
    | int i => cases rr; exact PySem.P.repr_of_int (by simpa [PyData.showable] using h1) (by simp only [PyData.shown] at hq; exact ⟨.str _, H, I.tok _, ⟨_, rfl⟩, hq⟩)
    | str y hy => cases rr; exact PySem.P.repr_of_str (by simp only [PyData.shown] at hq; exact ⟨.str _, H, I.tok _, ⟨_, rfl⟩, hq⟩) (by simpa [PyData.shown] using hz)
    | tup a b => cases ru; exact repr_of_reads' rr h1 (PyData.noDict_hsm hnd) hg (by omega) (fun _ _ e => e) (fun h' u tk hk => ⟨.str (PyData.shown _), H, I.kept hk, ⟨_, rfl⟩, hq⟩) hz
    | lstZ a b => cases ru; exact repr_of_reads' rr h1 (PyData.noDict_hsm hnd) hg (by omega) (fun _ _ e => e) (fun h' u tk hk => ⟨.str (PyData.shown _), H, I.kept hk, ⟨_, rfl⟩, hq⟩) hz
    | lstK a b c d => cases ru; exact repr_of_reads' rr h1 (PyData.noDict_hsm hnd) hg (by omega) (fun _ _ e => e) (fun h' u tk hk => ⟨.str (PyData.shown _), H, I.kept hk, ⟨_, rfl⟩, hq⟩) hz
    | lstF a b => cases ru; exact repr_of_reads' rr h1 (PyData.noDict_hsm hnd) hg (by omega) (fun _ _ e => e) (fun h' u tk hk => ⟨.str (PyData.shown _), H, I.kept hk, ⟨_, rfl⟩, hq⟩) hz
  · cases e3
/-! truth -/
def rT (X : Cx) (fa : Lay) : V → Hp → (Bool → Hp → Prop) → Prop := fun x H Q => ∃ Z a F b, RX (cf X fa) Z H a x F ∧ truth a = some b ∧ Q b H
def TrD (X : Cx) (fa : Lay) : Prop := True
theorem tru_any (hD : TrD X fa) : TruR X (rT X fa) := by
  intro pins s σ H x v Q I rx h
  obtain ⟨Z, a, F, b, ha, e, q⟩ := h
  have go : ∀ k, TruV X.K x H k → k = b → wpAny (model X.prog X.w) X.A (truthy v) (TP X pins σ Q) X.xe s := fun k h1 h2 => tru_ok pins s σ H x v Q I rx ⟨k, h1, by rw [h2]; exact q⟩
  unfold truth at e
  split at e
  · cases e; rw [ha.bool] at go; exact go _ rfl rfl
  · cases e
    cases ha with
    | d ha => cases ha; exact go false rfl rfl
  · cases e; rw [ha.int] at go; exact go _ rfl rfl
  · rename_i z
    cases e
    obtain ⟨rfl, oz⟩ := ha.str
    exact go _ ⟨by rw [← lim_eq]; exact oz.2, rfl⟩ (by simp [Str.length, bne, Bool.beq_eq_decide_eq])
  · rename_i l
    cases e
    obtain ⟨p, vs, rfl, hq, hl⟩ := ha.tup
    exact go _ (.inr (.inl ⟨vs, hq, rfl⟩)) (by cases hl <;> rfl)
  · rename_i l
    cases e
    obtain ⟨p, vs, rfl, hq, hl⟩ := ha.isl (l := l) rfl
    exact go _ (.inl ⟨vs, hq.sq, rfl⟩) (by cases hl <;> rfl)
  · rename_i l
    cases e
    obtain ⟨p, vs, F', rfl, hq, hl⟩ := ha.any (xs := l) rfl
    exact go _ (.inl ⟨vs, hq.sq, rfl⟩) (by cases hl <;> rfl)
  · cases e
/-! isinstance -/
def tyOf : Ki → String
  | .non => "NoneType" | .bl => "bool" | .int => "int" | .str => "str" | .tup => "tuple" | .lst => "list" | .dic => "dict"
theorem SqT.ty {K : PySem.W.Frag} {H : Hp} {a : Addr} {vs : List V} (h : SqT K H a vs) : TyX K H (.ref a) (.type "tuple") := by
  rcases h with (h | ⟨o, h⟩) | ⟨o, its, n, h1, h2, _⟩
  · exact .base (.tup h)
  · exact .fTuple h
  · exact .kTuple h1 h2
theorem RX.ty {Z : Ad} {H : Hp} {a : Mp.X} {x : V} {F : List Addr} {k : Ki} (h : RX (cf X fa) Z H a x F) (e : kind a = some k) : TyX X.K H x (.type (tyOf k)) := by
  cases h with
  | d h =>
    cases e
    cases h with
    | none => exact .base .non
    | bool b => exact .base (.bl b)
    | int i => exact .base (.int i)
    | str z _ => exact .base (.str z)
    | tup h _ => exact SqT.ty h
    | lstZ h _ _ => exact .base (.lst h)
    | lstK h _ _ _ => exact .kList h rfl
    | lstF h _ => exact .base (.frz h)
  | fn f _ => cases e
  | lst h _ => cases e; exact .base (.lst h)
  | dic _ _ _ => cases e
def rIs (X : Cx) (fa : Lay) (n : String) (p : Ki → Bool) : List V → Hp → VK → Prop := fun xs H Q => ∃ x Z a F k, xs = [x, .ty n] ∧ RX (cf X fa) Z H a x F ∧ kind a = some k ∧ Q (.bl (p k)) H
theorem c_is {n : String} {p : Ki → Bool} (h : ∀ (K : PySem.W.Frag) (k : Ki), PySem.W.kitOne K (.type (tyOf k)) (.type n) = some (p k)) : CallR X (.builtin "isinstance") (rIs X fa n p) := by
  intro pins s σ H xs us Q I r hh
  obtain ⟨x, Z, a, F, k, rfl, ha, e, q⟩ := hh
  exact call_isi pins s σ H _ us Q I r ⟨x, .ty n, _, _, p k, rfl, .ty n, ha.ty e, h X.K k, q⟩
theorem is_int (K : PySem.W.Frag) (k : Ki) : PySem.W.kitOne K (.type (tyOf k)) (.type "int") = some (isKInt k) := by cases k <;> rfl
theorem is_bool (K : PySem.W.Frag) (k : Ki) : PySem.W.kitOne K (.type (tyOf k)) (.type "bool") = some (isKBool k) := by cases k <;> rfl
theorem is_str (K : PySem.W.Frag) (k : Ki) : PySem.W.kitOne K (.type (tyOf k)) (.type "str") = some (isKStr k) := by cases k <;> rfl
theorem is_tup (K : PySem.W.Frag) (k : Ki) : PySem.W.kitOne K (.type (tyOf k)) (.type "tuple") = some (isKTup k) := by cases k <;> rfl
theorem is_lst (K : PySem.W.Frag) (k : Ki) : PySem.W.kitOne K (.type (tyOf k)) (.type "list") = some (isKLst k) := by cases k <;> rfl
theorem is_dic (K : PySem.W.Frag) (k : Ki) : PySem.W.kitOne K (.type (tyOf k)) (.type "dict") = some (isKDic k) := by cases k <;> rfl
end
end Mp
set_option maxHeartbeats 1000000
/-! Snd3: what the interpreter computes of an expression, the machine computes: the judgements. -/
namespace Mp
open PySem PySem.Spec PyProof.Rows L2
/-- an exception's own dict -/
def ExD (c : Cf) (Z : Ad) (H : Hp) (e : Ex) (d : Option Addr) : Prop :=
  (c.L.fld e.cls = [] ∧ d = none) ∨ ∃ dx vs, d = some dx ∧ c.L.fld e.cls ≠ [] ∧ vs.length = (c.L.fld e.cls).length ∧ H dx = some (.xd ((c.L.fld e.cls).zip vs)) ∧ RDs c Z H e.args vs
/-- behind a run: it gave a value as K says; it raised; it never stuck -/
def post {α β : Type} (c : Cf) (W : WX) (σ : L2.St) (Z : Ad) (H : Hp) (f : Fp) (K : Hp → Fp → α → β → Ad → Hp → Fp → Prop) (r : R S α) (Q : β → Hp → Prop) : Prop := match r with
  | .ok x s' => ∀ (v : β) (Z' : Ad) (H' : Hp) (f' : Fp), Rel c Z' H' s' σ f' → Fr Z H f Z' H' f' → K H f x v Z' H' f' → Q v H'
  | .exc e s' => ∀ (Z' : Ad) (H' : Hp) (f' : Fp) (d : Option Addr), Rel c Z' H' s' σ f' → Fr Z H f Z' H' f' → ExD c Z' H' e d → W (c.L.cls e.cls) d σ H'
  | .stuck => False
/-- a value that may be kept; one that is looked at; a bool; a part of a slice; a row of values -/
def kX (c : Cf) (H : Hp) (f : Fp) (x : X) (v : V) (Z' : Ad) (H' : Hp) (f' : Fp) : Prop := ∃ F, Tmp c Z' H' f' x v F ∧ From H f F
def kV (c : Cf) (_ : Hp) (_ : Fp) (x : X) (v : V) (Z' : Ad) (H' : Hp) (_ : Fp) : Prop := ∃ F, RX c Z' H' x v F
def kP {α : Type} (_ : Hp) (_ : Fp) (x : α) (v : α) (_ : Ad) (_ : Hp) (_ : Fp) : Prop := v = x
structure Tmps (c : Cf) (Z : Ad) (H : Hp) (f : Fp) (xs : List X) (vs : List V) (F : List Addr) : Prop where
  rx : RXs c Z H xs vs F
  nd : F.Nodup
  nz : ∀ a ∈ F, ¬ Z a
  nf : ∀ a ∈ F, ¬ inF f a
def kXs (c : Cf) (H : Hp) (f : Fp) (x : List X) (v : List V) (Z' : Ad) (H' : Hp) (f' : Fp) : Prop := ∃ F, Tmps c Z' H' f' x v F ∧ From H f F
section
variable {c : Cf} {W : WX} {σ : L2.St} {Z Z1 Z2 : Ad} {H H1 H2 : Hp} {f f1 f2 : Fp} {s s1 : S}
theorem post.shift {α β : Type} {K : Hp → Fp → α → β → Ad → Hp → Fp → Prop} {r : R S α} {Q : β → Hp → Prop} (hK : ∀ x v Z' H' f', K H1 f1 x v Z' H' f' → K H f x v Z' H' f') (p : post c W σ Z H f K r Q) (a : Fr Z H f Z1 H1 f1) : post c W σ Z1 H1 f1 K r Q := by
  cases r with
  | ok x s' => exact fun v Z' H' f' r1 b k => p v Z' H' f' r1 (a.trans b) (hK _ _ _ _ _ k)
  | exc e s' => exact fun Z' H' f' d r1 b k => p Z' H' f' d r1 (a.trans b) k
  | stuck => exact p
theorem kX.shift (a : Fr Z H f Z1 H1 f1) : ∀ x v Z' H' f', kX c H1 f1 x v Z' H' f' → kX c H f x v Z' H' f' := fun _ _ _ _ _ ⟨F, h1, h2⟩ => ⟨F, h1, From.fr a h2⟩
theorem kXs.shift (a : Fr Z H f Z1 H1 f1) : ∀ x v Z' H' f', kXs c H1 f1 x v Z' H' f' → kXs c H f x v Z' H' f' := fun _ _ _ _ _ ⟨F, h1, h2⟩ => ⟨F, h1, From.fr a h2⟩
theorem kV.shift : ∀ x v Z' H' f', kV c H1 f1 x v Z' H' f' → kV c H f x v Z' H' f' := fun _ _ _ _ _ h => h
theorem kP.shift {α : Type} : ∀ (x v : α) Z' H' f', kP H1 f1 x v Z' H' f' → kP H f x v Z' H' f' := fun _ _ _ _ _ h => h
/-- one run, then another -/
theorem post.bind {α β γ δ : Type} {K : Hp → Fp → α → β → Ad → Hp → Fp → Prop} {K' : Hp → Fp → γ → δ → Ad → Hp → Fp → Prop} {r : R S α} {k : α → S → R S γ} {Q : δ → Hp → Prop} {Q' : β → Hp → Prop}
    (p : post c W σ Z H f K' (r.bind k) Q) (h : ∀ x s' v Z' H' f', r = .ok x s' → Rel c Z' H' s' σ f' → Fr Z H f Z' H' f' → K H f x v Z' H' f' → post c W σ Z H f K' (k x s') Q → Q' v H') : post c W σ Z H f K r Q' := by
  cases r with
  | ok x s' => exact fun v Z' H' f' r1 b hk => h x s' v Z' H' f' rfl r1 b hk p
  | exc e s' => exact p
  | stuck => exact p
/-- an operation's result, given on -/
theorem post.op {r : X} {Q : VK} (re : Rel c Z1 H1 s1 σ f1) (a : Fr Z H f Z1 H1 f1) (p : post c W σ Z H f (kX c) (.ok r s1) Q) : ResOk c Z1 H1 r Q := fun v H' F ext rx nd fr => by
  have lv : ∀ b, H1 b ≠ none → H' b ≠ none := fun b z => by
    cases q : H1 b with
    | none => exact absurd q z
    | some o => rw [ext b o q]; exact fun z => nomatch z
  refine p v Z1 H' f1 (re.fr ext) (a.trans ⟨fun b o e _ _ => ext b o e, fun _ z => z, fun _ z => .inl z, fun _ z => .inl z, lv, fun T t => t.mono fun b o e _ => ext b o e⟩) ⟨F, ⟨rx, nd, fun b hb z => re.zo b z (fr b hb), fun b hb ⟨i, z⟩ => ?_⟩, fun b hb => .inr ?_⟩
  · obtain ⟨o, e, _⟩ := re.ow i b z
    rw [fr b hb] at e; cases e
  · cases q : H b with
    | none => rfl
    | some o => exact absurd (fr b hb) (a.live b (by rw [q]; exact fun z => nomatch z))
theorem post.opO {o : Option X} {Q : VK} (re : Rel c Z1 H1 s1 σ f1) (a : Fr Z H f Z1 H1 f1) (p : post c W σ Z H f (kX c) (ofO o s1) Q) : ∃ r, o = some r ∧ ResOk c Z1 H1 r Q := by
  cases o with
  | none => exact p.elim
  | some r => exact ⟨r, rfl, p.op re a⟩
end

/-! ### the readings -/
section
variable (c : Cf) (C : Calls) (G : List D) (W : WX)
def tE (e : E) : TE := fun σ H Q => ∃ Z s f, Rel c Z H s σ f ∧ post c W σ Z H f (kX c) (ev C G e s) Q
def tV (e : E) : TE := fun σ H Q => ∃ Z s f, Rel c Z H s σ f ∧ post c W σ Z H f (kV c) (ev C G e s) Q
def tT (e : E) : TT := fun σ H Q => ∃ Z s f, Rel c Z H s σ f ∧ post c W σ Z H f kP (tst C G e s) Q
def tO (e : Option E) : TO := fun σ H Q => ∃ Z s f, Rel c Z H s σ f ∧ post c W σ Z H f kP (evo C G e s) Q
def tAs (es : List E) : TA := fun σ H Q => ∃ Z s f, Rel c Z H s σ f ∧ post c W σ Z H f (kXs c) (evs C G es s) Q
end
theorem PE.imp {X : Cx} {e : Expr} {t u : TE} (h : PE X e u) (i : ∀ σ H Q, t σ H Q → u σ H Q) : PE X e t := ⟨fun pins s σ H Q I hq => h.run pins s σ H Q I (i σ H Q hq)⟩
theorem PT.imp {X : Cx} {e : Expr} {t u : TT} (h : PT X e u) (i : ∀ σ H Q, t σ H Q → u σ H Q) : PT X e t := ⟨fun pins s σ H Q I hq => h.run pins s σ H Q I (i σ H Q hq)⟩
theorem PA.imp {X : Cx} {e : List Expr} {t u : TA} (h : PA X e u) (i : ∀ σ H Q, t σ H Q → u σ H Q) : PA X e t := ⟨fun pos pins s σ H Q I hq => h.run pos pins s σ H Q I (i σ H Q hq)⟩
/-- where a text stands: the machine's frame, the interpreter's calls and constants, what takes exceptions -/
structure At where
  X : Cx
  fa : Lay
  C : Calls
  G : List D
  W : WX
  /-- the parameters that callers may see changed -/
  mu : List Nat
abbrev At.c (T : At) : Cf := cf T.X T.fa
def SE (T : At) (e : E) (a : Expr) : Prop := PE T.X a (tE T.c T.C T.G T.W e)
def SV (T : At) (e : E) (a : Expr) : Prop := PE T.X a (tV T.c T.C T.G T.W e)
def ST (T : At) (e : E) (a : Expr) : Prop := PT T.X a (tT T.c T.C T.G T.W e)
def SO (T : At) (e : Option E) (a : Option Expr) : Prop := PO T.X a (tO T.c T.C T.G T.W e)
def SA (T : At) (e : List E) (a : List Expr) : Prop := PA T.X a (tAs T.c T.C T.G T.W e)
section
variable {T : At} {e e1 e2 e3 : E} {a b d : Expr} {pos : Pos}
theorem SE.v (h : SE T e a) : SV T e a := PE.imp h fun σ H Q ⟨Z, s, f, r, p⟩ => by
  refine ⟨Z, s, f, r, ?_⟩
  cases q : ev T.C T.G e s with
  | ok x s' => rw [q] at p; exact fun v Z' H' f' r1 b ⟨F, t, _⟩ => p v Z' H' f' r1 b ⟨F, t.rx⟩
  | exc e s' => rw [q] at p; exact p
  | stuck => rw [q] at p; exact p
theorem Fr.fresh {Z : Ad} {H : Hp} {f : Fp} {c : Cf} {s : S} {σ : L2.St} : From H f [] := fun _ h => nomatch h
/-- a constant -/
theorem se_c {x : D} {v : V} (h : PE T.X a (tC v)) (hx : ∀ Z H, RD T.c Z H x v) : SE T (.k x) a := PE.imp h fun σ H Q ⟨Z, s, f, r, p⟩ =>
  p v Z H f r Fr.refl ⟨[], Tmp.d (hx Z H), From.nil⟩
theorem se_int {i : Int} {j} : SE T (.k (.int i)) (.Constant (.int i) j pos) := se_c pe_int fun _ _ => .int i
theorem se_bool {i : Bool} {j} : SE T (.k (.bool i)) (.Constant (.bool i) j pos) := se_c pe_bl fun _ _ => .bool i
theorem se_none {j} : SE T (.k .none) (.Constant .none j pos) := se_c pe_non fun _ _ => .none
theorem se_str {x : Str} {j} (h : okS x) : SE T (.k (.str x)) (.Constant (.str x) j pos) := se_c pe_str fun _ _ => .str x h
/-- a def as a value -/
theorem se_fnv {x : Str} {i : Nat} (hf : T.fa.fn i = true) (h : PE T.X (.Name x pos) (tC (.ref (T.fa.fa i)))) : SE T (.fnv i) (.Name x pos) := PE.imp h fun σ H Q ⟨Z, s, f, r, p⟩ =>
  p (.ref (T.fa.fa i)) Z H f r Fr.refl ⟨[], ⟨.fn i hf, List.nodup_nil, (fun _ h => nomatch h), (fun _ h => nomatch h)⟩, From.nil⟩
/-- a module's constant -/
theorem se_gl {x : Str} {i : Nat} {g : D} {v : V} (h : PE T.X (.Name x pos) (tC v)) (hg : T.G[i]? = some g) (hx : ∀ Z H, RD T.c Z H g v) : SE T (.gl i) (.Name x pos) := PE.imp h fun σ H Q ⟨Z, s, f, r, p⟩ => by
  rw [ev_gl, hg] at p
  exact p v Z H f r Fr.refl ⟨[], Tmp.d (hx Z H), From.nil⟩
/-- a name, looked at -/
theorem sv_p {x : Str} {i : Nat} (h : PE T.X (.Name x pos) (tVar i)) : SV T (.p i) (.Name x pos) := PE.imp h fun σ H Q ⟨Z, s, f, r, p⟩ => by
  change post _ _ _ _ _ _ _ (peek i s) Q at p
  unfold peek at p
  split at p
  · rename_i x' e
    obtain ⟨v, e1, e2⟩ := r.at_ i x' e
    exact ⟨v, e1, p v Z H f r Fr.refl ⟨_, e2⟩⟩
  · exact p.elim
/-- a name, handed on (its value is taken out of the slot) -/
theorem se_mv {x : Str} {i : Nat} (h : PE T.X (.Name x pos) (tVar i)) : SE T (.mv i) (.Name x pos) := PE.imp h fun σ H Q ⟨Z, s, f, r, p⟩ => by
  change post _ _ _ _ _ _ _ (take i s) Q at p
  unfold take at p
  split at p
  · rename_i x' e
    obtain ⟨v, e1, t, fr⟩ := r.take e
    exact ⟨v, e1, p v Z H _ (r.drop0) Fr.drop ⟨f i, t, fr⟩⟩
  · exact p.elim
/-- a name: what it holds is frozen -/
theorem se_v {x : Str} {i : Nat} (h : PE T.X (.Name x pos) (tVar i)) : SE T (.v i) (.Name x pos) := PE.imp h fun σ H Q ⟨Z, s, f, r, p⟩ => by
  change post _ _ _ _ _ _ _ (vread i s) Q at p
  unfold vread at p
  split at p
  · rename_i x' e
    obtain ⟨v, e1, e2⟩ := r.at_ i _ e
    generalize f i = Fi at e2
    cases e2 with
    | d e2 => exact ⟨v, e1, p v Z H f r Fr.refl ⟨[], Tmp.d e2, From.nil⟩⟩
  · rename_i x' e
    obtain ⟨v, e1, e2⟩ := r.at_ i _ e
    generalize f i = Fi at e2
    cases e2 with
    | fn g hg => exact ⟨_, e1, p _ Z H f r Fr.refl ⟨[], ⟨.fn x' hg, List.nodup_nil, (fun _ h => nomatch h), (fun _ h => nomatch h)⟩, From.nil⟩⟩
  · rename_i e
    obtain ⟨v, e1, e2⟩ := r.at_ i _ e
    cases e2
  · rename_i x' _ _ _ e
    cases q : dat? x' with
    | none => rw [q] at p; exact p.elim
    | some d =>
      rw [q] at p
      obtain ⟨v, e1, r1, rd, fr⟩ := r.freeze e q
      exact ⟨v, e1, p v _ H _ r1 fr ⟨[], Tmp.d rd, From.nil⟩⟩
  · exact p.elim

/-! two operands -/
section
variable {X : Cx} {L : Lay} {C : Calls} {G : List D} {W : WX} {o o2 : B} {σ : L2.St} {H : Hp} {i : Nat}
theorem imp_b {Q : VK} (hp : pk? e1 = none) (h : tE (cf X L) C G W (.b o e1 e2) σ H Q) : tOp (rB X L o) (tE (cf X L) C G W e1) (tV (cf X L) C G W e2) σ H Q := by
  obtain ⟨Z, s, f, r, p⟩ := h
  rw [ev_b, hp] at p
  refine ⟨Z, s, f, r, p.bind fun x s1 v Z1 H1 f1 _ r1 a1 ⟨F, t, fr⟩ p1 => ?_⟩
  refine ⟨Z1, s1, f1, r1, (p1.shift (kX.shift a1) a1).bind fun y s2 u Z2 H2 f2 _ r2 a2 ⟨F2, t2⟩ p2 => ?_⟩
  obtain ⟨rr, e, q⟩ := p2.opO r2 a2
  exact ⟨Z2, x, y, F, F2, rr, (t.fr r1 a2).rx, t2, e, q⟩
theorem peek_ok {s : S} {x : Mp.X} {s' : S} (e : peek i s = .ok x s') : s[i]? = some (some x) ∧ s' = s := by
  unfold peek at e
  split at e
  · rename_i q; cases e; exact ⟨q, rfl⟩
  · cases e
theorem imp_bp {Q : VK} (h : tE (cf X L) C G W (.b o (.p i) e2) σ H Q) : tOp (rB X L o) (tVar i) (tV (cf X L) C G W e2) σ H Q := by
  obtain ⟨Z, s, f, r, p⟩ := h
  have p0 : post (cf X L) W σ Z H f (kX (cf X L)) ((peek i s).bind (kB0 C G o i e2)) Q := p
  clear p
  cases q : peek i s with
  | ok x s' =>
    rw [q] at p0
    obtain ⟨e, hs⟩ := peek_ok q
    subst hs
    obtain ⟨v, e1, _⟩ := r.at_ i x e
    refine ⟨v, e1, Z, s', f, r, post.bind (K' := kX (cf X L)) (Q := Q) (k := kB3 o i) p0 fun y s2 u Z2 H2 f2 _ r2 a2 ⟨F2, t2⟩ p2 => ?_⟩
    have p5 : post (cf X L) W σ Z H f (kX (cf X L)) ((peek i s2).bind (kB4 o y)) Q := p2
    clear p2
    cases q2 : peek i s2 with
    | ok x' s3 =>
      rw [q2] at p5
      obtain ⟨e', hs2⟩ := peek_ok q2
      subst hs2
      obtain ⟨v', e3, rx⟩ := r2.at_ i x' e'
      rw [e1] at e3; cases e3
      obtain ⟨rr, e4, q4⟩ := post.opO (o := bop o x' y) r2 a2 p5
      exact ⟨Z2, x', y, _, F2, rr, rx, t2, e4, q4⟩
    | exc e s' => unfold peek at q2; split at q2 <;> cases q2
    | stuck => rw [q2] at p5; exact p5.elim
  | exc e s' => unfold peek at q; split at q <;> cases q
  | stuck => rw [q] at p0; exact p0.elim
def isCmp : B → Bool
  | .eq => true | .ne => true | .lt => true | .le => true | .gt => true | .ge => true | .in_ => true | .notin => true | .is_ => true | .isnot => true | _ => false
theorem bop_bl {x y r : Mp.X} (h : isCmp o = true) (e : bop o x y = some r) : ∃ k, r = .d (.bool k) := by
  cases o with
  | eq => obtain ⟨k, _, e⟩ := asBl_some (show asBl _ = some r from e); exact ⟨k, e⟩
  | ne => obtain ⟨k, _, e⟩ := asBl_some (show asBl _ = some r from e); exact ⟨k, e⟩
  | lt => obtain ⟨k, _, e⟩ := asBl_some (show asBl _ = some r from e); exact ⟨k, e⟩
  | le => obtain ⟨k, _, e⟩ := asBl_some (show asBl _ = some r from e); exact ⟨k, e⟩
  | gt => obtain ⟨k, _, e⟩ := asBl_some (show asBl _ = some r from e); exact ⟨k, e⟩
  | ge => obtain ⟨k, _, e⟩ := asBl_some (show asBl _ = some r from e); exact ⟨k, e⟩
  | in_ => obtain ⟨k, _, e⟩ := asBl_some (show asBl _ = some r from e); exact ⟨k, e⟩
  | notin => obtain ⟨k, _, e⟩ := asBl_some (show asBl _ = some r from e); exact ⟨k, e⟩
  | is_ => cases e
  | isnot => cases e
  | _ => cases h
/-- a value that is always a bool, as a test -/
def bls (C : Calls) (G : List D) (e : E) : Prop := ∀ s x s', ev C G e s = .ok x s' → ∃ k, x = .d (.bool k)
theorem ofO_ok {α : Type} {o : Option α} {x : α} {s s' : S} (h : ofO o s = .ok x s') : o = some x ∧ s' = s := by
  cases o with
  | none => cases h
  | some y => cases h; exact ⟨rfl, rfl⟩
theorem bind_okE {α β : Type} {r : R S α} {k : α → S → R S β} {y : β} {s' : S} (h : r.bind k = .ok y s') : ∃ x s1, r = .ok x s1 ∧ k x s1 = .ok y s' := by
  cases r with
  | ok x s => exact ⟨x, s, rfl, h⟩
  | exc e s => cases h
  | stuck => cases h
theorem bls_b (h : isCmp o = true) : bls C G (.b o e1 e2) := fun s x s' e => by
  rw [ev_b] at e
  split at e
  · obtain ⟨_, _, _, e⟩ := bind_okE e
    obtain ⟨_, _, _, e⟩ := bind_okE (show ((ev C G e2 _).bind (kB3 o _)) = .ok x s' from e)
    obtain ⟨_, _, _, e⟩ := bind_okE (show ((peek _ _).bind (kB4 o _)) = .ok x s' from e)
    exact bop_bl h (ofO_ok e).1
  · obtain ⟨_, _, _, e⟩ := bind_okE e
    obtain ⟨_, _, _, e⟩ := bind_okE (show ((ev C G e2 _).bind (kB2 o _)) = .ok x s' from e)
    exact bop_bl h (ofO_ok e).1
theorem bls_chain (h : isCmp o2 = true) : bls C G (.chain o o2 e1 e2 e3) := fun s x s' e => by
  rw [ev_chain] at e
  obtain ⟨_, _, _, e⟩ := bind_okE e
  obtain ⟨_, _, _, e⟩ := bind_okE (show ((ev C G e2 _).bind (kC2 C G o o2 _ e3)) = .ok x s' from e)
  obtain ⟨z, _, _, e⟩ := bind_okE (show ((ofO _ _).bind (kC3 C G o2 _ e3)) = .ok x s' from e)
  unfold kC3 at e
  split at e
  · obtain ⟨_, _, _, e⟩ := bind_okE e
    exact bop_bl h (ofO_ok e).1
  · cases e; exact ⟨false, rfl⟩
  · cases e
/-- .. its reading -/
theorem imp_tr {Q : Bool → Hp → Prop} (hb : bls C G e) (h : tT (cf X L) C G W (.tr e) σ H Q) : tE (cf X L) C G W e σ H (fun v H' => ∃ k, v = .bl k ∧ Q k H') := by
  obtain ⟨Z, s, f, r, p⟩ := h
  refine ⟨Z, s, f, r, post.bind (k := kTr) (K' := kP) (Q := Q) p fun x s1 v Z1 H1 f1 e1 r1 a1 ⟨F, t, fr⟩ p1 => ?_⟩
  obtain ⟨k, rfl⟩ := hb s x s1 e1
  exact ⟨k, t.rx.bool, p1 k Z1 H1 f1 r1 a1 rfl⟩
end
/-! rules -/
theorem se_bin {o : B} {op : Operator} (ho : OpR T.X (binaryOp op) (rB T.X T.fa o)) (hp : pk? e1 = none) (ha : SE T e1 a) (hb : SV T e2 b) : SE T (.b o e1 e2) (.BinOp a op b pos) := PE.imp (pe_op ho ha hb) fun σ H Q h => imp_b hp h
theorem se_binp {o : B} {op : Operator} {i : Nat} (ho : OpR T.X (binaryOp op) (rB T.X T.fa o)) (ha : PE T.X a (tVar i)) (hb : SV T e2 b) : SE T (.b o (.p i) e2) (.BinOp a op b pos) := PE.imp (pe_op ho ha hb) fun σ H Q h => imp_bp h
theorem se_cmp {o : B} {op : CmpOp} (ho : OpR T.X (compareOp op) (rB T.X T.fa o)) (hm : behindInMarks op b = false) (hp : pk? e1 = none) (ha : SE T e1 a) (hb : SV T e2 b) : SE T (.b o e1 e2) (.Compare a [op] [b] pos) := PE.imp (pe_cmpR ho ha hb hm) fun σ H Q h => imp_b hp h
theorem se_cmpp {o : B} {op : CmpOp} {i : Nat} (ho : OpR T.X (compareOp op) (rB T.X T.fa o)) (hm : behindInMarks op b = false) (ha : PE T.X a (tVar i)) (hb : SV T e2 b) : SE T (.b o (.p i) e2) (.Compare a [op] [b] pos) := PE.imp (pe_cmpR ho ha hb hm) fun σ H Q h => imp_bp h
theorem st_cmp {o : B} {op : CmpOp} (ho : OpR T.X (compareOp op) (rB T.X T.fa o)) (hc : isCmp o = true) (hm : behindInMarks op b = false) (hp : pk? e1 = none) (ha : SE T e1 a) (hb : SV T e2 b) : ST T (.tr (.b o e1 e2)) (.Compare a [op] [b] pos) :=
  PT.imp (pt_cmpR ho ha hb hm) fun σ H Q h => imp_b hp (imp_tr (bls_b hc) h)
theorem st_cmpp {o : B} {op : CmpOp} {i : Nat} (ho : OpR T.X (compareOp op) (rB T.X T.fa o)) (hc : isCmp o = true) (hm : behindInMarks op b = false) (ha : PE T.X a (tVar i)) (hb : SV T e2 b) : ST T (.tr (.b o (.p i) e2)) (.Compare a [op] [b] pos) :=
  PT.imp (pt_cmpR ho ha hb hm) fun σ H Q h => imp_bp (imp_tr (bls_b hc) h)
theorem se_ix (hD : IxD T.X T.fa) (hs : PlainIx b) (hp : pk? e1 = none) (ha : SE T e1 a) (hb : SV T e2 b) : SE T (.b .ix e1 e2) (.Subscript a b pos) := PE.imp (pe_ix (bin_ix hD) ha hb hs) fun σ H Q h => imp_b hp h
theorem se_ixp {i : Nat} (hD : IxD T.X T.fa) (hs : PlainIx b) (ha : PE T.X a (tVar i)) (hb : SV T e2 b) : SE T (.b .ix (.p i) e2) (.Subscript a b pos) := PE.imp (pe_ix (bin_ix hD) ha hb hs) fun σ H Q h => imp_bp h
/-- a op b op' c -/
theorem imp_chain {X : Cx} {L : Lay} {C : Calls} {G : List D} {W : WX} {o o2 : B} {σ : L2.St} {H : Hp} {Q : VK} (ho : isCmp o = true) (h : tE (cf X L) C G W (.chain o o2 e1 e2 e3) σ H Q) :
    tChain (rB X L o) (rB X L o2) (tE (cf X L) C G W e1) (tE (cf X L) C G W e2) (tV (cf X L) C G W e3) σ H Q := by
  obtain ⟨Z, s, f, r, p⟩ := h
  rw [ev_chain] at p
  refine ⟨Z, s, f, r, p.bind fun x s1 v Z1 H1 f1 _ r1 a1 ⟨F, t, fr⟩ p1 => ?_⟩
  refine ⟨Z1, s1, f1, r1, post.bind (K' := kX (cf X L)) (k := kC2 C G o o2 x e3) (p1.shift (kX.shift a1) a1) fun y s2 u Z2 H2 f2 _ r2 a2 ⟨F2, t2, fr2⟩ p2 => ?_⟩
  have p3 : post (cf X L) W σ Z2 H2 f2 (kX (cf X L)) ((ofO (bop o x y) s2).bind (kC3 C G o2 y e3)) Q := p2.shift (kX.shift a2) a2
  cases e : bop o x y with
  | none => rw [e] at p3; exact p3.elim
  | some z =>
    rw [e] at p3
    obtain ⟨k, rfl⟩ := bop_bl ho e
    refine ⟨Z2, x, y, F, F2, _, (t.fr r1 a2).rx, t2.rx, e, fun v' H' F' ext rx nd fr' => ?_⟩
    have ev' : v' = .bl k := rx.bool
    subst ev'
    refine ⟨k, rfl, ?_⟩
    have a3 : Fr Z2 H2 f2 Z2 H' f2 := ⟨fun b o e _ _ => ext b o e, fun _ z => z, fun _ z => .inl z, fun _ z => .inl z, fun b z => by
      cases q : H2 b with
      | none => exact absurd q z
      | some o => rw [ext b o q]; exact (fun z => nomatch z), fun T t => t.mono fun b o e _ => ext b o e⟩
    have r3 := r2.fr ext
    cases k with
    | false =>
      rw [if_neg (by simp)]
      exact p3 (.bl false) Z2 H' f2 r3 a3 ⟨[], Tmp.d (.bool false), From.nil⟩
    | true =>
      rw [if_pos rfl]
      have p4 : post (cf X L) W σ Z2 H2 f2 (kX (cf X L)) ((ev C G e3 s2).bind (kC4 o2 y)) Q := p3
      refine ⟨Z2, s2, f2, r3, post.bind (K' := kX (cf X L)) (k := kC4 o2 y) (p4.shift (kX.shift a3) a3) fun w s4 wv Z4 H4 f4 _ r4 a4 ⟨F4, t4⟩ p5 => ?_⟩
      obtain ⟨rr, e5, q⟩ := post.opO (o := bop o2 y w) r4 a4 p5
      exact ⟨Z4, y, w, F2, F4, rr, ((t2.fr r2 a3).fr r3 a4).rx, t4, e5, q⟩
theorem se_chain {o o2 : B} {op op' : CmpOp} (ho : OpR T.X (compareOp op) (rB T.X T.fa o)) (ho' : OpR T.X (compareOp op') (rB T.X T.fa o2)) (hc : isCmp o = true) (hm : lastMarks [op, op'] [b, d] = false) (ha : SE T e1 a) (hb : SE T e2 b) (hd : SV T e3 d) :
    SE T (.chain o o2 e1 e2 e3) (.Compare a [op, op'] [b, d] pos) := PE.imp (pe_chain ho ho' ha hb hd hm) fun σ H Q h => imp_chain hc h
theorem st_chain {o o2 : B} {op op' : CmpOp} (ho : OpR T.X (compareOp op) (rB T.X T.fa o)) (ho' : OpR T.X (compareOp op') (rB T.X T.fa o2)) (hc : isCmp o = true) (hc2 : isCmp o2 = true) (hm : lastMarks [op, op'] [b, d] = false) (ha : SE T e1 a) (hb : SE T e2 b) (hd : SV T e3 d) :
    ST T (.tr (.chain o o2 e1 e2 e3)) (.Compare a [op, op'] [b, d] pos) := PT.imp (pt_chain ho ho' ha hb hd hm) fun σ H Q h => imp_chain hc (imp_tr (bls_chain hc2) h)
theorem pt_trR {X : Cx} {ta : TE} {r : V → Hp → (Bool → Hp → Prop) → Prop} (ha : PE X a ta) (hr : TruR X r) (he : ∀ whole, isTrue a X.env whole = (do let v ← whole; standAt a.pos; holding [v] (truthy v))) :
    PT X a (fun σ H Q => ta σ H fun x H' => r x H' Q) :=
  ⟨fun pins s σ H Q I h => isTrue_plain (thn (ha.run pins s σ H _ I h) fun v s1 ⟨x, H1, I1, r1, q1⟩ => hr pins s1 σ H1 x v Q I1 r1 q1) (he _)⟩
/-- a value as a test -/
theorem st_tr (hD : TrD T.X T.fa) (ha : SV T e a) (he : ∀ whole, isTrue a T.X.env whole = (do let v ← whole; standAt a.pos; holding [v] (truthy v))) : ST T (.tr e) a :=
  PT.imp (pt_trR ha (tru_any (fa := T.fa) hD) he) fun σ H Q ⟨Z, s, f, r, p⟩ => ⟨Z, s, f, r, post.bind (k := kTr) (K' := kP) (Q := Q) p fun x s1 v Z1 H1 f1 e1 r1 a1 ⟨F, t⟩ p1 => by
    have p1 : post T.c T.W σ Z H f kP (ofO (truth x) s1) Q := p1
    cases q : truth x with
    | none => rw [q] at p1; exact p1.elim
    | some k => rw [q] at p1; exact ⟨Z1, x, F, k, t, q, p1 k Z1 H1 f1 r1 a1 rfl⟩⟩
/-- and, or, not as tests -/
theorem st_not (h : ST T e a) : ST T (.u .not_ e) (.UnaryOp .Not a pos) := PT.imp (pt_not h) fun σ H Q ⟨Z, s, f, r, p⟩ => ⟨Z, s, f, r, post.bind (k := kTN) (K' := kP) (Q := Q) p fun x s1 v Z1 H1 f1 e1 r1 a1 hv p1 => by
  rw [show v = x from hv]
  exact p1 (!x) Z1 H1 f1 r1 a1 rfl⟩
/-- a row of tests, by and -/
def SW (T : At) (e : E) (a : Expr) : Prop := PW T.X a (tT T.c T.C T.G T.W e)
theorem PW.imp {X : Cx} {e : Expr} {t u : TT} (h : PW X e u) (i : ∀ σ H Q, t σ H Q → u σ H Q) : PW X e t := ⟨fun wh pins s σ H Q I hq => h.run wh pins s σ H Q I (i σ H Q hq)⟩
theorem sw_and1 (h : ST T e a) : SW T e (.BoolOp .And [a] pos) := pw_and1 h
theorem sw_or1 (h : ST T e a) : SW T e (.BoolOp .Or [a] pos) := pw_or1 h
theorem sw_and {rest : List Expr} (h1 : ST T e1 a) (h2 : SW T e2 (.BoolOp .And (b :: rest) pos)) : SW T (.and_ e1 e2) (.BoolOp .And (a :: b :: rest) pos) := PW.imp (pw_and h1 h2) fun σ H Q ⟨Z, s, f, r, p⟩ =>
  ⟨Z, s, f, r, post.bind (k := kTA T.C T.G e2) (K' := kP) (Q := Q) p fun x s1 v Z1 H1 f1 _ r1 a1 hv p1 => by
    rw [show v = x from hv]
    cases x with
    | true => exact ⟨Z1, s1, f1, r1, p1.shift kP.shift a1⟩
    | false => exact p1 false Z1 H1 f1 r1 a1 rfl⟩
theorem sw_or {rest : List Expr} (h1 : ST T e1 a) (h2 : SW T e2 (.BoolOp .Or (b :: rest) pos)) : SW T (.or_ e1 e2) (.BoolOp .Or (a :: b :: rest) pos) := PW.imp (pw_or h1 h2) fun σ H Q ⟨Z, s, f, r, p⟩ =>
  ⟨Z, s, f, r, post.bind (k := kTO T.C T.G e2) (K' := kP) (Q := Q) p fun x s1 v Z1 H1 f1 _ r1 a1 hv p1 => by
    rw [show v = x from hv]
    cases x with
    | false => exact ⟨Z1, s1, f1, r1, p1.shift kP.shift a1⟩
    | true => exact p1 true Z1 H1 f1 r1 a1 rfl⟩
theorem SW.st (h : SW T e a) : ST T e a := h.pt
/-- .. as values -/
theorem se_and1 {op} (h : SE T e a) : SE T e (.BoolOp op [a] pos) := pe_one h
theorem se_and {rest : List Expr} (h1 : SV T e1 a) (h2 : SE T e2 (.BoolOp .And (b :: rest) pos)) : SE T (.and_ e1 e2) (.BoolOp .And (a :: b :: rest) pos) := PE.imp (pe_and h1 h2) fun σ H Q ⟨Z, s, f, r, p⟩ =>
  ⟨Z, s, f, r, post.bind (k := kAnd T.C T.G e2) (K' := kX T.c) (Q := Q) p fun x s1 v Z1 H1 f1 _ r1 a1 ⟨F, t⟩ p1 => by
    unfold kAnd at p1
    split at p1
    · exact ⟨true, t.bool, by rw [if_pos rfl]; exact ⟨Z1, s1, f1, r1, p1.shift (kX.shift a1) a1⟩⟩
    · exact ⟨false, t.bool, by rw [if_neg (by simp)]; exact p1 (.bl false) Z1 H1 f1 r1 a1 ⟨[], Tmp.d (.bool false), From.nil⟩⟩
    · exact p1.elim⟩
theorem se_or {rest : List Expr} (h1 : SV T e1 a) (h2 : SE T e2 (.BoolOp .Or (b :: rest) pos)) : SE T (.or_ e1 e2) (.BoolOp .Or (a :: b :: rest) pos) := PE.imp (pe_or h1 h2) fun σ H Q ⟨Z, s, f, r, p⟩ =>
  ⟨Z, s, f, r, post.bind (k := kOr T.C T.G e2) (K' := kX T.c) (Q := Q) p fun x s1 v Z1 H1 f1 _ r1 a1 ⟨F, t⟩ p1 => by
    unfold kOr at p1
    split at p1
    · exact ⟨true, t.bool, by rw [if_pos rfl]; exact p1 (.bl true) Z1 H1 f1 r1 a1 ⟨[], Tmp.d (.bool true), From.nil⟩⟩
    · exact ⟨false, t.bool, by rw [if_neg (by simp)]; exact ⟨Z1, s1, f1, r1, p1.shift (kX.shift a1) a1⟩⟩
    · exact p1.elim⟩
/-- not, as a value -/
theorem un_notR {X : Cx} {L : Lay} (hD : TrD X L) : UnR X (unaryOp .Not) (rU1 X L .not_) := by
  intro pins s σ H x v Q I rx h
  obtain ⟨Z, y, F, r, hy, e, q⟩ := h
  obtain ⟨k, e1, rfl⟩ := Option.map_eq_some_iff.mp (show (truth y).map _ = some r from e)
  exact not_of (thn (tru_any hD pins s σ H x v (fun b H' => Q (.bl (!b)) H') I rx ⟨Z, y, F, k, hy, e1, q.data (.bool _)⟩) fun b s' ⟨H', I', q'⟩ => ⟨.bl (!b), H', I', rfl, q'⟩)
theorem imp_u {X : Cx} {L : Lay} {C : Calls} {G : List D} {W : WX} {o : U} {σ : L2.St} {H : Hp} {Q : VK} (h : tE (cf X L) C G W (.u o e) σ H Q) : tUn (rU1 X L o) (tV (cf X L) C G W e) σ H Q := by
  obtain ⟨Z, s, f, r, p⟩ := h
  refine ⟨Z, s, f, r, post.bind (k := kU o) (K' := kX (cf X L)) (Q := Q) p fun x s1 v Z1 H1 f1 _ r1 a1 ⟨F, t⟩ p1 => ?_⟩
  obtain ⟨rr, e, q⟩ := post.opO (o := uop o x) r1 a1 p1
  exact ⟨Z1, x, F, rr, t, e, q⟩
theorem se_not (hD : TrD T.X T.fa) (h : SV T e a) : SE T (.u .not_ e) (.UnaryOp .Not a pos) := PE.imp (pe_un (un_notR (L := T.fa) hD) h) fun σ H Q h => imp_u h
theorem se_neg (h : SV T e a) : SE T (.u .neg e) (.UnaryOp .USub a pos) := PE.imp (pe_un (un_negU (fa := T.fa)) h) fun σ H Q h => imp_u h
/-- a built-in of one argument -/
theorem se_c1 {o : U} {id : String} {x : Str} {p : Pos} (hc : CallR T.X (.builtin id) (rC1 T.X T.fa o)) (hg : Gl T.X x) (hm : T.X.mg x = none) (hv : bootBuiltins x = some (.builtin id)) (hn : x ≠ "__name__") (hdb : (x == ("__debug__" : Str)) = false)
    (h : SV T e a) (hs : starEach [a] T.X.env = [(false, eval a T.X.env)]) : SE T (.u o e) (.Call (.Name x p) [a] [] pos) :=
  PE.imp (pe_callB hc hg hm hv (pa_cons h pa_nil hs) hn hdb hs (by rw [show starEach ([] : List Expr) T.X.env = [] from rfl]; rfl)) fun σ H Q hq => by
    obtain ⟨Z, s, f, r, p⟩ := imp_u hq
    refine ⟨Z, s, f, r, ?_⟩
    exact cast (by rfl) (show post _ _ _ _ _ _ _ _ (fun v H' => ∃ x, [v] = [x] ∧ rU1 T.X T.fa o x H' Q) from by
      cases q : ev T.C T.G e s with
      | ok x s' => rw [q] at p; exact fun v Z' H' f' h1 h2 h3 => ⟨v, rfl, p v Z' H' f' h1 h2 h3⟩
      | exc e s' => rw [q] at p; exact p
      | stuck => rw [q] at p; exact p)
end
end Mp
set_option maxHeartbeats 1000000
/-! Snd3b: more expressions. -/
namespace Mp
open PySem PySem.Spec PyProof.Rows L2
section
variable {c : Cf} {Z Z' : Ad} {H H' : Hp} {f f' : Fp} {s : S} {σ : L2.St}
theorem Tmps.d {l : List D} {vs : List V} (h : RDs c Z H l vs) : Tmps c Z H f (l.map X.d) vs [] := ⟨h.xs, List.nodup_nil, (fun _ h => nomatch h), (fun _ h => nomatch h)⟩
theorem Tmps.fr {x : List X} {v : List V} {F : List Addr} (r : Rel c Z H s σ f) (t : Tmps c Z H f x v F) (a : Fr Z H f Z' H' f') : Tmps c Z' H' f' x v F where
  rx := t.rx.kp (a.kp r) fun b hb o e => a.keep b o e (own_at (t.rx.own b hb) e) (t.nf b hb)
  nd := t.nd
  nz := fun b hb z => by
    obtain ⟨o, e, _⟩ := t.rx.own b hb
    rcases a.znew b z with z | z | z
    · exact t.nz b hb z
    · exact t.nf b hb z
    · rw [z] at e; cases e
  nf := fun b hb z => by
    obtain ⟨o, e, _⟩ := t.rx.own b hb
    rcases a.fnew b z with z | z
    · exact t.nf b hb z
    · rw [z] at e; cases e
/-- one that waits and more that came behind -/
theorem Tmp.apart {F F' : List Addr} {x : X} {v : V} (t : Tmp c Z H f x v F) (h : From H f F') : ∀ a ∈ F, a ∉ F' := fun a ha hb => by
  rcases h a hb with z | z
  · exact t.nf a ha z
  · obtain ⟨o, e, _⟩ := t.rx.own a ha
    rw [z] at e; cases e
theorem Tmps.cons {x : X} {v : V} {xs : List X} {vs : List V} {F F' : List Addr} (t : Tmp c Z H f x v F) (ts : Tmps c Z H f xs vs F') (dj : ∀ a ∈ F, a ∉ F') : Tmps c Z H f (x :: xs) (v :: vs) (F ++ F') where
  rx := .cons t.rx ts.rx
  nd := List.nodup_append.mpr ⟨t.nd, ts.nd, fun a ha b hb e => dj a ha (e ▸ hb)⟩
  nz := fun a ha => (List.mem_append.mp ha).elim (t.nz a) (ts.nz a)
  nf := fun a ha => (List.mem_append.mp ha).elim (t.nf a) (ts.nf a)
theorem RXs.append : ∀ {xs ys : List X} {vs us : List V} {F F' : List Addr}, RXs c Z H xs vs F → RXs c Z H ys us F' → RXs c Z H (xs ++ ys) (vs ++ us) (F ++ F')
  | _, _, _, _, _, _, .nil, h => h
  | _, _, _, _, _, _, .cons h1 h2, h => by
    rw [List.append_assoc]
    exact .cons h1 (RXs.append h2 h)
theorem From.append {F F' : List Addr} (h : From H f F) (h' : From H f F') : From H f (F ++ F') := fun a ha => (List.mem_append.mp ha).elim (h a) (h' a)
theorem Fr.frz {Z1 : Ad} {H1 : Hp} {f1 : Fp} {F : List Addr} (a : Fr Z H f Z1 H1 f1) (h : From H f F) : Fr Z H f (fun b => Z1 b ∨ b ∈ F) H1 f1 :=
  ⟨a.keep, fun b z => .inl (a.zz b z), fun b z => z.elim (a.znew b) fun z => .inr (h b z), a.fnew, a.live, a.tb⟩
/-- all are frozen -/
theorem Tmps.freeze {x : List X} {v : List V} {F : List Addr} {d : List D} (r : Rel c Z H s σ f) (t : Tmps c Z H f x v F) (hd : dats? x = some d) :
    Rel c (fun b => Z b ∨ b ∈ F) H s σ f ∧ RDs c (fun b => Z b ∨ b ∈ F) H d v := by
  have kp : Kp Z H (fun b => Z b ∨ b ∈ F) H := ⟨fun _ _ e _ _ => e, fun _ z => .inl z⟩
  refine ⟨⟨r.len, fun j y ej => ?_, r.nd, r.dj, fun j a ha z => ?_, r.ow, fun a z => ?_, r.tb⟩, t.rx.frz kp hd fun b hb => .inr hb⟩
  · obtain ⟨u, e3, e4⟩ := r.at_ j y ej
    exact ⟨u, e3, e4.kp kp fun _ _ _ e => e⟩
  · rcases z with z | z
    · exact r.nz j a ha z
    · exact t.nf a z ⟨j, ha⟩
  · rcases z with z | z
    · exact r.zo a z
    · obtain ⟨o, e, _⟩ := t.rx.own a z
      rw [e]
      exact fun z => nomatch z
end
/-- a run behind another, what is wanted told from the beginning -/
theorem post.bind2 {α β γ δ : Type} {c : Cf} {W : WX} {σ : L2.St} {Z Z1 : Ad} {H H1 : Hp} {f f1 : Fp} {K : Hp → Fp → α → β → Ad → Hp → Fp → Prop} {K' : Hp → Fp → γ → δ → Ad → Hp → Fp → Prop} {r : R S α} {k : α → S → R S γ} {Q : δ → Hp → Prop} {Q' : β → Hp → Prop}
    (p : post c W σ Z H f K' (r.bind k) Q) (a : Fr Z H f Z1 H1 f1) (h : ∀ x s' v Z' H' f', r = .ok x s' → Rel c Z' H' s' σ f' → Fr Z1 H1 f1 Z' H' f' → K H1 f1 x v Z' H' f' → post c W σ Z H f K' (k x s') Q → Q' v H') : post c W σ Z1 H1 f1 K r Q' := by
  cases r with
  | ok x s' => exact fun v Z' H' f' r1 b hk => h x s' v Z' H' f' rfl r1 b hk p
  | exc e s' => exact fun Z' H' f' d r1 b hk => p Z' H' f' d r1 (a.trans b) hk
  | stuck => exact p
section
variable {T : At} {e e1 e2 e3 : E} {a b d : Expr} {es : List E} {as : List Expr} {pos : Pos}
theorem se_frz (h : SE T e a) : SE T (.frz e) a := PE.imp h fun σ H Q ⟨Z, s, f, r, p⟩ => ⟨Z, s, f, r, post.bind (k := kFrz) (K' := kX T.c) (Q := Q) p fun x s1 v Z1 H1 f1 _ r1 a1 ⟨F, t, fr⟩ p1 => by
  have p1 : post T.c T.W σ Z H f (kX T.c) (ofO ((dat? x).map Mp.X.d) s1) Q := p1
  cases q : dat? x with
  | none => rw [q] at p1; exact p1.elim
  | some w =>
    rw [q] at p1
    obtain ⟨r2, hd⟩ := t.freeze r1 q
    exact p1 v _ H1 f1 r2 (a1.frz fr) ⟨[], Tmp.d hd, From.nil⟩⟩
/-- a if t else b -/
theorem se_ite (hc : ST T e1 d) (ha : SE T e2 a) (hb : SE T e3 b) : SE T (.ite e1 e2 e3) (.IfExp d a b pos) := PE.imp (pe_ifExp hc ha hb) fun σ H Q ⟨Z, s, f, r, p⟩ =>
  ⟨Z, s, f, r, post.bind (k := kIte T.C T.G e2 e3) (K' := kX T.c) (Q := Q) p fun x s1 v Z1 H1 f1 _ r1 a1 hv p1 => by
    rw [show v = x from hv]
    cases x with
    | true => rw [if_pos rfl]; exact ⟨Z1, s1, f1, r1, p1.shift (kX.shift a1) a1⟩
    | false => rw [if_neg (by simp)]; exact ⟨Z1, s1, f1, r1, p1.shift (kX.shift a1) a1⟩⟩
/-! rows of values -/
theorem sa_nil : SA T [] [] := PA.imp pa_nil fun σ H Q ⟨Z, s, f, r, p⟩ => p [] Z H f r Fr.refl ⟨[], Tmps.d .nil, From.nil⟩
theorem sa_cons (hn : isStar e = false) (ha : SE T e a) (hr : SA T es as) (hs : starEach (a :: as) T.X.env = (false, eval a T.X.env) :: starEach as T.X.env) : SA T (e :: es) (a :: as) := PA.imp (pa_cons ha hr hs) fun σ H Q ⟨Z, s, f, r, p⟩ => by
  rw [evs_cons (h := hn)] at p
  refine ⟨Z, s, f, r, post.bind (K' := kXs T.c) (k := kEs T.C T.G es) p fun x s1 v Z1 H1 f1 _ r1 a1 ⟨F, t, fr⟩ p1 => ?_⟩
  refine ⟨Z1, s1, f1, r1, post.bind2 (K' := kXs T.c) (k := kCons x) (r := evs T.C T.G es s1) p1 a1 fun xs s2 vs Z2 H2 f2 _ r2 a2 ⟨F2, t2, fr2⟩ p2 => ?_⟩
  have p2 : post T.c T.W σ Z H f (kXs T.c) (.ok (x :: xs) s2) Q := p2
  exact p2 (v :: vs) Z2 H2 f2 r2 (a1.trans a2) ⟨F ++ F2, Tmps.cons (t.fr r1 a2) t2 (Tmp.apart t fr2), From.append fr (From.fr a1 fr2)⟩
/-- a tuple, a list of written items -/
theorem se_tup {x1} (h : SA T es as) : SE T (.tup es) (.Tuple as x1 pos) := PE.imp (pe_tup h) fun σ H Q ⟨Z, s, f, r, p⟩ =>
  ⟨Z, s, f, r, post.bind (k := kTup) (K' := kX T.c) (Q := Q) p fun xs s1 vs Z1 H1 f1 _ r1 a1 ⟨F, t, fr⟩ p1 => by
    have p1 : post T.c T.W σ Z H f (kX T.c) (if xs.length ≤ lim then ofO ((dats? xs).map fun vs => Mp.X.d (.tuple vs)) s1 else .stuck) Q := p1
    split at p1
    · rename_i hl
      cases q : dats? xs with
      | none => rw [q] at p1; exact p1.elim
      | some ds =>
        rw [q] at p1
        obtain ⟨r2, hd⟩ := t.freeze r1 q
        refine ⟨by rw [← lim_eq, ← t.rx.length]; exact hl, fun pp hp => ?_⟩
        exact p1 (.ref pp) _ _ f1 (r2.laid hp) ((a1.frz fr).trans (Fr.laid hp)) ⟨[], Tmp.d (.tup (.inl (.inl upd_same)) (hd.kp (kp_ext (ext_upd hp)))), From.nil⟩
    · exact p1.elim⟩
theorem se_lst (h : SA T es as) : SE T (.lst es) (.List as pos) := PE.imp (pe_lst h) fun σ H Q ⟨Z, s, f, r, p⟩ =>
  ⟨Z, s, f, r, post.bind (k := kLst) (K' := kX T.c) (Q := Q) p fun xs s1 vs Z1 H1 f1 _ r1 a1 ⟨F, t, fr⟩ p1 => by
    have p1 : post T.c T.W σ Z H f (kX T.c) (if xs.length ≤ lim then .ok (.lst xs) s1 else .stuck) Q := p1
    split at p1
    · rename_i hl
      refine ⟨by rw [← lim_eq, ← t.rx.length]; exact hl, fun pp hp => ?_⟩
      have t2 := t.fr r1 (Fr.laid (o := .lst vs) hp)
      have np : pp ∉ F := fun hh => by
        obtain ⟨o, e, _⟩ := t.rx.own pp hh
        rw [hp] at e; cases e
      refine p1 (.ref pp) _ _ f1 (r1.laid hp) (a1.trans (Fr.laid hp)) ⟨pp :: F, ⟨.lst upd_same t2.rx, List.nodup_cons.mpr ⟨np, t2.nd⟩, fun a ha z => ?_, fun a ha z => ?_⟩, fun a ha => ?_⟩
      · rcases List.mem_cons.mp ha with rfl | ha
        · exact r1.zo _ z hp
        · exact t2.nz a ha z
      · rcases List.mem_cons.mp ha with rfl | ha
        · obtain ⟨i, hi⟩ := z
          obtain ⟨o, e, _⟩ := r1.ow i _ hi
          rw [hp] at e; cases e
        · exact t2.nf a ha z
      · rcases List.mem_cons.mp ha with rfl | ha
        · refine .inr ?_
          cases q : H a with
          | none => rfl
          | some o => exact absurd hp (a1.live a (by rw [q]; exact fun z => nomatch z))
        · exact fr a ha
    · exact p1.elim⟩
/-! a slice -/
theorem so_none : SO T none none := ⟨fun pins s σ H Q I ⟨Z, s0, f, r, p⟩ => po_none.run pins s σ H Q I (p none Z H f r Fr.refl rfl)⟩
theorem so_some (h : SV T e a) : SO T (some e) (some a) := ⟨fun pins s σ H Q I ⟨Z, s0, f, r, p⟩ => (po_some h).run pins s σ H Q I (show tPart _ σ H Q from
  ⟨Z, s0, f, r, post.bind (k := kO) (K' := kP) (Q := Q) p fun x s1 v Z1 H1 f1 _ r1 a1 ⟨F, t⟩ p1 => by
    have p1 : post T.c T.W σ Z H f kP (ofO ((asInt x).map some) s1) Q := p1
    cases q : asInt x with
    | none => rw [q] at p1; exact p1.elim
    | some i =>
      rw [q] at p1
      unfold asInt at q
      split at q
      · cases q; exact ⟨i, t.int, p1 (some i) Z1 H1 f1 r1 a1 rfl⟩
      · cases q⟩)⟩
theorem se_slice {lo hi : Option E} {la ha' : Option Expr} {p2 : Pos} (hp : pk? e = none) (hq : pp? e = none) (h : SE T e a) (hl : SO T lo la) (hh : SO T hi ha') : SE T (.slice e lo hi) (.Subscript a (.Slice la ha' none p2) pos) :=
  PE.imp (pe_slice (sl_any (fa := T.fa)) h hl hh) fun σ H Q ⟨Z, s, f, r, p⟩ => by
    have p0 : post T.c T.W σ Z H f (kX T.c) ((ev T.C T.G e s).bind (kSr0 T.C T.G lo hi)) Q := by
      rw [ev_slice, hp, hq] at p
      exact p
    refine ⟨Z, s, f, r, post.bind (k := kSr0 T.C T.G lo hi) (K' := kX T.c) (Q := Q) p0 fun x s1 v Z1 H1 f1 _ r1 a1 ⟨F, t, fr⟩ p1 => ?_⟩
    refine ⟨Z1, s1, f1, r1, post.bind2 (K' := kX T.c) (k := kSr1 T.C T.G x hi) (r := evo T.C T.G lo s1) p1 a1 fun l s2 l' Z2 H2 f2 _ r2 a2 hl' p2 => ?_⟩
    refine ⟨Z2, s2, f2, r2, post.bind2 (K' := kX T.c) (k := kSr2 x l) (r := evo T.C T.G hi s2) p2 (a1.trans a2) fun h' s3 h'' Z3 H3 f3 _ r3 a3 hh' p3 => ?_⟩
    rw [show l' = l from hl', show h'' = h' from hh']
    obtain ⟨rr, e, q⟩ := post.opO (o := sliceOf l h' x) r3 ((a1.trans a2).trans a3) p3
    exact ⟨Z3, x, F, rr, ((t.fr r1 a2).fr r2 a3).rx, e, q⟩
theorem se_slicep {i : Nat} {lo hi : Option E} {la ha' : Option Expr} {p2 : Pos} (h : PE T.X a (tVar i)) (hl : SO T lo la) (hh : SO T hi ha') : SE T (.slice (.p i) lo hi) (.Subscript a (.Slice la ha' none p2) pos) :=
  PE.imp (pe_slice (sl_any (fa := T.fa)) h hl hh) fun σ H Q ⟨Z, s, f, r, p⟩ => by
    have p0 : post T.c T.W σ Z H f (kX T.c) ((peek i s).bind (kSp0 T.C T.G i lo hi)) Q := p
    clear p
    cases q : peek i s with
    | ok x s' =>
      rw [q] at p0
      obtain ⟨e, hs⟩ := peek_ok q
      subst hs
      obtain ⟨v, e1, _⟩ := r.at_ i x e
      have p1 : post T.c T.W σ Z H f (kX T.c) ((evo T.C T.G lo s').bind (kSp1 T.C T.G i hi)) Q := p0
      refine ⟨v, e1, Z, s', f, r, post.bind (K' := kX T.c) (k := kSp1 T.C T.G i hi) p1 fun l s2 l' Z2 H2 f2 _ r2 a2 hl' p2 => ?_⟩
      refine ⟨Z2, s2, f2, r2, post.bind2 (K' := kX T.c) (k := kSp2 i l) (r := evo T.C T.G hi s2) p2 a2 fun h' s3 h'' Z3 H3 f3 _ r3 a3 hh' p3 => ?_⟩
      rw [show l' = l from hl', show h'' = h' from hh']
      have p4 : post T.c T.W σ Z H f (kX T.c) ((peek i s3).bind (kS3 l h')) Q := p3
      clear p3
      cases q3 : peek i s3 with
      | ok x' s4 =>
        rw [q3] at p4
        obtain ⟨e3, hs⟩ := peek_ok q3
        subst hs
        obtain ⟨v', e4, rx⟩ := r3.at_ i x' e3
        rw [e1] at e4; cases e4
        obtain ⟨rr, e, q⟩ := post.opO (o := sliceOf l h' x') r3 (a2.trans a3) p4
        exact ⟨Z3, x', _, rr, rx, e, q⟩
      | exc e s' => unfold peek at q3; split at q3 <;> cases q3
      | stuck => rw [q3] at p4; exact p4.elim
    | exc e s' => unfold peek at q; split at q <;> cases q
    | stuck => rw [q] at p0; exact p0.elim
/-! isinstance, is None -/
theorem se_is {o : U} {n : String} {pr : Ki → Bool} {x y : Str} {p p' : Pos} (hk : ∀ (K : PySem.W.Frag) (k : Ki), PySem.W.kitOne K (.type (tyOf k)) (.type n) = some (pr k)) (ho : ∀ z : Mp.X, uop o z = uIs pr z)
    (hg : Gl T.X x) (hm : T.X.mg x = none) (hv : bootBuiltins x = some (.builtin "isinstance")) (hn : x ≠ "__name__") (hdb : (x == ("__debug__" : Str)) = false) (hy : PE T.X (.Name y p') (tC (.ty n)))
    (h : SV T e a) (hs : starEach [a, .Name y p'] T.X.env = (false, eval a T.X.env) :: starEach [.Name y p'] T.X.env) (hs2 : starEach [.Name y p'] T.X.env = [(false, eval (.Name y p') T.X.env)])  : SE T (.u o e) (.Call (.Name x p) [a, .Name y p'] [] pos) :=
  PE.imp (pe_callB (c_is (fa := T.fa) hk) hg hm hv (pa_cons h (pa_cons hy pa_nil hs2) hs) hn hdb hs (by rw [hs2]; rfl)) fun σ H Q hq => by
    obtain ⟨Z, s, f, r, p⟩ := hq
    refine ⟨Z, s, f, r, post.bind (k := kU o) (K' := kX T.c) (Q := Q) p fun z s1 v Z1 H1 f1 _ r1 a1 ⟨F, t⟩ p1 => ?_⟩
    obtain ⟨rr, e, q⟩ := post.opO (o := uop o z) r1 a1 p1
    rw [ho] at e
    obtain ⟨k, e1, rfl⟩ := Option.map_eq_some_iff.mp (show (kind z).map _ = some rr from e)
    exact ⟨v, Z1, z, F, k, rfl, t, e1, q.data (.bool _)⟩
theorem RX.isNon {c : Cf} {Z : Ad} {H : Hp} {x : Mp.X} {v : V} {F : List Addr} (h : RX c Z H x v F) : decide (v = .non) = isNonX x := by
  cases h with
  | d h => cases h <;> rfl
  | fn f _ => rfl
  | lst h1 h2 => rfl
  | dic _ _ _ => rfl
theorem se_isN {j p} (h : SV T e a) : SE T (.u .isNone e) (.Compare a [.Is] [.Constant .none j p] pos) := PE.imp (pe_cmp (pc_isN h)) fun σ H Q hq => by
  obtain ⟨Z, s, f, r, p⟩ := hq
  refine ⟨Z, s, f, r, post.bind (k := kU .isNone) (K' := kX T.c) (Q := Q) p fun z s1 v Z1 H1 f1 _ r1 a1 ⟨F, t⟩ p1 => ?_⟩
  obtain ⟨rr, e, q⟩ := post.opO (o := uop .isNone z) r1 a1 p1
  cases e
  rw [t.isNon]
  exact q.data (.bool _)
theorem se_notN {j p} (h : SV T e a) : SE T (.u .notNone e) (.Compare a [.IsNot] [.Constant .none j p] pos) := PE.imp (pe_cmp (pc_notN h)) fun σ H Q hq => by
  obtain ⟨Z, s, f, r, p⟩ := hq
  refine ⟨Z, s, f, r, post.bind (k := kU .notNone) (K' := kX T.c) (Q := Q) p fun z s1 v Z1 H1 f1 _ r1 a1 ⟨F, t⟩ p1 => ?_⟩
  obtain ⟨rr, e, q⟩ := post.opO (o := uop .notNone z) r1 a1 p1
  cases e
  rw [t.isNon]
  exact q.data (.bool _)
theorem st_isN {j p} (h : SV T e a) : ST T (.tr (.u .isNone e)) (.Compare a [.Is] [.Constant .none j p] pos) := PT.imp (pt_cmp (pc_isN h)) fun σ H Q hq => by
  obtain ⟨Z, s, f, r, p⟩ := hq
  refine ⟨Z, s, f, r, post.bind (k := kU .isNone) (K' := kX T.c) (Q := fun v H' => ∃ k, v = .bl k ∧ Q k H') (post.bind (K := kX T.c) (k := kTr) (K' := kP) (Q := Q) p fun x s1 v Z1 H1 f1 e1 r1 a1 ⟨F, t, fr⟩ p1 => ?_) fun z s1 v Z1 H1 f1 _ r1 a1 ⟨F, t⟩ p1 => ?_⟩
  · obtain ⟨_, _, _, e1⟩ := bind_okE (show (ev T.C T.G e s).bind (kU .isNone) = .ok x s1 from e1)
    cases (ofO_ok e1).1
    exact ⟨_, t.rx.bool, p1 _ Z1 H1 f1 r1 a1 rfl⟩
  · obtain ⟨rr, e, q⟩ := post.opO (o := uop .isNone z) r1 a1 p1
    cases e
    rw [t.isNon]
    exact q.data (.bool _)
theorem st_notN {j p} (h : SV T e a) : ST T (.tr (.u .notNone e)) (.Compare a [.IsNot] [.Constant .none j p] pos) := PT.imp (pt_cmp (pc_notN h)) fun σ H Q hq => by
  obtain ⟨Z, s, f, r, p⟩ := hq
  refine ⟨Z, s, f, r, post.bind (k := kU .notNone) (K' := kX T.c) (Q := fun v H' => ∃ k, v = .bl k ∧ Q k H') (post.bind (K := kX T.c) (k := kTr) (K' := kP) (Q := Q) p fun x s1 v Z1 H1 f1 e1 r1 a1 ⟨F, t, fr⟩ p1 => ?_) fun z s1 v Z1 H1 f1 _ r1 a1 ⟨F, t⟩ p1 => ?_⟩
  · obtain ⟨_, _, _, e1⟩ := bind_okE (show (ev T.C T.G e s).bind (kU .notNone) = .ok x s1 from e1)
    cases (ofO_ok e1).1
    exact ⟨_, t.rx.bool, p1 _ Z1 H1 f1 r1 a1 rfl⟩
  · obtain ⟨rr, e, q⟩ := post.opO (o := uop .notNone z) r1 a1 p1
    cases e
    rw [t.isNon]
    exact q.data (.bool _)
/-- T(e), T a built-in type -/
theorem se_t1 {o : U} {n : String} {x : Str} {p : Pos} (hc : CallR T.X (.type n) (rC1 T.X T.fa o)) (hg : Gl T.X x) (hm : T.X.mg x = none) (hv : bootBuiltins x = some (.type n)) (hn : x ≠ "__name__") (hdb : (x == ("__debug__" : Str)) = false)
    (h : SV T e a) (hs : starEach [a] T.X.env = [(false, eval a T.X.env)]) : SE T (.u o e) (.Call (.Name x p) [a] [] pos) :=
  PE.imp (pe_callTy hc hg hm hv (pa_cons h pa_nil hs) hn hdb hs (by rw [show starEach ([] : List Expr) T.X.env = [] from rfl]; rfl)) fun σ H Q hq => by
    obtain ⟨Z, s, f, r, p⟩ := imp_u hq
    refine ⟨Z, s, f, r, ?_⟩
    cases q : ev T.C T.G e s with
    | ok x s' => rw [q] at p; exact fun v Z' H' f' h1 h2 h3 => ⟨v, rfl, p v Z' H' f' h1 h2 h3⟩
    | exc e s' => rw [q] at p; exact p
    | stuck => rw [q] at p; exact p
end
end Mp
set_option maxHeartbeats 1000000
/-! Fn: defs and calls, told with where the repr guards stand. -/
namespace Mp
open PySem PySem.Spec PyProof.Rows L2
/-- a def's promise, no repr under way -/
structure FnG (P : Program) (w : World) (K : PySem.W.Frag) (mg : Str → Option Value) (base : Heap) (k : Nat) (f : Addr) (fd : FuncData) (ps : List Str) (sp : Sp) : Prop where
  len : ∀ vs H Q E, sp vs H Q E → vs.length = ps.length
  run : ∀ (A : Around) (outer : List Env) (s : Shared) (H : Hp) (args : Args) (us : List Value) (vs : List V) (Q : VK) (E : XK), Room k A → A.guards = some [] → Env0 P w K mg base A outer s H → BindsTo s fd args (ps.zip us) → Vals vs us → sp vs H Q E →
    codeAny (model P w) A (.call (.ref f) args) (CR (CX P w) outer P w H s Q E) s
section
variable {P : Program} {w : World} {K : PySem.W.Frag} {mg : Str → Option Value} {base : Heap} {k : Nat} {f : Addr} {fd : FuncData} {x qual : Str} {params : Arguments} {body : List Stmt} {scope : Scope} {N ps : List Str} {sp : Sp} {dvs : List V} {kws : List (Str × V)}
/-- a def of the text, by its body -/
theorem fnG_of (F : FunD K x qual params body scope dvs kws f fd) (S : FnScope N ps scope) (len : ∀ vs H Q E, sp vs H Q E → vs.length = ps.length)
    (hbody : ∀ (cdv : Value) (A : Around) (outer : List Env) (s : Shared) (H : Hp) (vs : List V) (Q : VK) (E : XK), Room k (A.deeper (envOfC qual scope s.heap.objs.size f cdv)) → A.guards = some [] → sp vs H Q E →
      ∃ t, PSs (cxOf (CX P w) P w K mg base N qual scope f cdv A outer s H E) body t ∧ t { nx := fun _ H' => Q .non H', rt := Q } (start N vs) H) : FnG P w K mg base (k + 1) f fd ps sp := by
  obtain ⟨oc, od, dV, kV, doc, pm, an, cdv, ct, osl, rfl, lk, hcd, _, _⟩ := F.ex
  refine ⟨len, fun A outer s H args us vs Q E hr hg e0 hb r hsp => ?_⟩
  have hl := len _ _ _ _ hsp
  have KX : K.In s.heap := e0.mod.kin.keeps fun b o e => (e0.bs b o e).1
  have lim : s.heap.NoLimit := e0.mod.nolimit.keeps fun b o e => (e0.bs b o e).1
  have hkind : ∀ y ∈ ps.zip us, scope.names.lookup y.1 = some .local ∨ (scope.names.lookup y.1 = some .cell ∧ ((cellsFrom (s.heap.objs.size + 1) scope.names []).lookup y.1).isSome = true) := fun ⟨n, v⟩ hy => by
    rcases S.par n (List.of_mem_zip hy).1 with q | q
    · exact .inl q
    · exact .inr ⟨q, PySem.W.cellsFrom_some _ _ _ (.inl q)⟩
  refine codeAny_call_function hr.depth (KX _ _ lk) rfl S.co S.gen rfl (PySem.W.codeRec_of KX hcd) (hb _ _ _ _ ?_)
  refine wpAny_newFunctionEnv_cells S.kind hkind fun env he s1 x => ?_
  subst he
  refine ⟨lim.keeps x.toInCall.keep, codeAny_func ?_⟩
  obtain ⟨t, ht, hq⟩ := hbody cdv A outer s H vs Q E (hr.deeper _) hg hsp
  have I : Inv (cxOf (CX P w) P w K mg base N qual scope f cdv A outer s H E) [] (start N vs) H s1 := inv_start S hr.hd e0 hl r x
  refine wpAny_mono (ht.run [] s1 (start N vs) H _ I hq) (fun fl s' hs => ?_) fun e s' hs => hs
  have fin : ∀ {σ' : L2.St} {H' : Hp} {v : V} {u : Value}, Inv (cxOf (CX P w) P w K mg base N qual scope f cdv A outer s H E) [] σ' H' s' → RelV v u → Q v H' → CE outer P w H s Q u s' :=
    fun {σ' H' v u} J rv q => ⟨v, H', J.os, J.bare, J.base, J.hok, rv, q⟩
  cases fl with
  | ret u =>
    obtain ⟨v, σ', H', J, rv, q⟩ := hs
    exact fin J rv q
  | next =>
    obtain ⟨σ', H', J, q⟩ := hs
    exact fin (v := V.non) (u := Value.none) J rfl q
  | brk =>
    obtain ⟨_, _, _, q⟩ := hs
    exact False.elim q
  | cont =>
    obtain ⟨_, _, _, q⟩ := hs
    exact False.elim q
end
/-- a def that may be called by name or by value -/
structure FnAt (P : Program) (w : World) (K : PySem.W.Frag) (mg : Str → Option Value) (base : Heap) (k : Nat) (f : Addr) (sp : Sp) : Prop where
  ex : ∃ (fd : FuncData) (ps : List Str), FnG P w K mg base k f fd ps sp ∧ PySem.W.keepIn K (.ref f) = true ∧ Binds K fd ps []
section
variable {X : Cx} {W : WX} {k : Nat} {f : Addr} {fd : FuncData} {ps : List Str} {sp : Sp} {x : Str} {p pos : Pos} {e : Expr} {es : List Expr} {t : TA}
theorem run_fnG {pins : List (Addr × Obj)} {σ : L2.St} {H : Hp} {s : Shared} {Q : VK} {us : List Value} {vs : List V} (F : FnG X.prog X.w X.K X.mg X.base k f fd ps sp) (hr : Room k X.A) (hg : X.A.guards = some []) (hb : Binds X.K fd ps []) (tk : Takes X W)
    (I : Inv X pins σ H s) (r : Vals vs us) (h : sp vs H Q fun cls d H' => W cls d σ H') : wpAny (model X.prog X.w) X.A (PySem.call (.ref f) us) (EP X pins σ Q) X.xe s := by
  have hl : (us ++ []).length = ps.length := by rw [List.append_nil, ← r.length]; exact F.len _ _ _ _ h
  have hb' := hb s us I.kIn hl
  rw [List.append_nil] at hb'
  refine wpAny_call (codeAny_mono (F.run X.A X.stack s H ⟨us, []⟩ us vs Q _ hr hg I.env0 hb' r h) fun r s' hq => ?_)
  cases r with
  | error e => exact tk e s' (XE.of_call I (fun _ _ _ z => z) hq)
  | ok fl =>
    cases fl with
    | ret u => exact I.after hq
    | next => exact False.elim hq
    | brk => exact False.elim hq
    | cont => exact False.elim hq
/-- a call's reading -/
def tCallG (sp : Sp) (W : WX) (t : TA) : TE := fun σ H Q => t σ H fun vs H1 => sp vs H1 Q fun cls d H' => W cls d σ H'
theorem pe_callG (F : FnAt X.prog X.w X.K X.mg X.base k f sp) (hr : Room k X.A) (hgd : X.A.guards = some []) (hg : Gl X x) (hm : X.mg x = some (.ref f)) (tk : Takes X W)
    (ha : PA X (e :: es) t) (hdb : (x == ("__debug__" : Str)) = false) (he : starEach (e :: es) X.env = (false, eval e X.env) :: starEach es X.env) (hpl : (backTo pos (starEach es X.env)).any (·.1) = false) :
    PE X (.Call (.Name x p) (e :: es) [] pos) (tCallG sp W t) := by
  obtain ⟨fd, ps, F, hk, hb⟩ := F.ex
  refine ⟨fun pins s σ H Q I h => ?_⟩
  refine wpAny_Call_Name_kw (ld_glob I hg hm ?_ hdb)
  refine PySem.W.callWith_K (h₀ := X.base) I.ok.mod.kin hk (thn (ha.run pos pins s σ H _ I h) fun us s1 ⟨vs, H1, I1, r, q⟩ => ⟨I1.kIn, ?_⟩) he hpl
  exact run_fnG F hr hgd hb tk I1 r q
theorem pe_callG0 (F : FnAt X.prog X.w X.K X.mg X.base k f sp) (hr : Room k X.A) (hgd : X.A.guards = some []) (hg : Gl X x) (hm : X.mg x = some (.ref f)) (tk : Takes X W)
    (hdb : (x == ("__debug__" : Str)) = false) : PE X (.Call (.Name x p) [] [] pos) (tCallG sp W tNil) := by
  obtain ⟨fd, ps, F, hk, hb⟩ := F.ex
  refine ⟨fun pins s σ H Q I h => ?_⟩
  refine wpAny_Call_Name_kw (ld_glob I hg hm ?_ hdb)
  exact PySem.W.callWith_K0 I.kIn hk (run_fnG (us := []) F hr hgd hb tk I .nil h)
/-- a def that a slot holds -/
def tCallGL (i : Nat) (f : Addr) (sp : Sp) (W : WX) (t : TA) : TE := fun σ H Q => σ[i]? = some (some (.ref f)) ∧ t σ H fun vs H1 => sp vs H1 Q fun cls d H' => W cls d σ H'
theorem run_callGL {i : Nat} {pins : List (Addr × Obj)} {σ : L2.St} {H : Hp} {s : Shared} {Q : VK} (F : FnAt X.prog X.w X.K X.mg X.base k f sp) (hr : Room k X.A) (hgd : X.A.guards = some []) (hN : PE X (.Name x p) (tVar i)) (tk : Takes X W) (ha : PA X (e :: es) t)
    (he : starEach (e :: es) X.env = (false, eval e X.env) :: starEach es X.env) (hpl : (backTo pos (starEach es X.env)).any (·.1) = false) (I : Inv X pins σ H s) (h : tCallGL i f sp W t σ H Q) :
    wpAny (model X.prog X.w) X.A (eval (.Call (.Name x p) (e :: es) [] pos) X.env) (EP X pins σ Q) X.xe s := by
  obtain ⟨fd, ps, F, hk, hb⟩ := F.ex
  obtain ⟨hs, ht⟩ := h
  refine wpAny_Call_Name_kw (thn (hN.run pins s σ H (fun v H1 => v = .ref f ∧ H1 = H) I ⟨.ref f, hs, rfl, rfl⟩) fun u s1 ⟨v, H1, I1, r1, q1⟩ => ?_)
  obtain ⟨rfl, rfl⟩ := q1
  cases r1
  refine PySem.W.callWith_K (h₀ := X.base) I.ok.mod.kin hk (thn (ha.run pos pins s1 σ _ _ I1 ht) fun us s2 ⟨vs, H2, I2, r, q⟩ => ⟨I2.kIn, ?_⟩) he hpl
  exact run_fnG F hr hgd hb tk I2 r q
end

/-! ### what a def promises -/
/-- behind a call -/
def outP (c : Cf) (mu : List Nat) (Z : Ad) (H : Hp) (f0 : Fp) (vs : List V) (o : Out) (Q : VK) (E : XK) : Prop := match o with
  | .ok x ms => ms.length = mu.length → ∀ (v : V) (Z' : Ad) (H' : Hp) (F : List Addr) (g : Fp), Rel c Z' H' (putBack mu ms (List.replicate vs.length none)) (vs.map some) g → Fr Z H f0 Z' H' g → Tmp c Z' H' g x v F → From H f0 F → Q v H'
  | .exc e ms => ms.length = mu.length → ∀ (d : Option Addr) (Z' : Ad) (H' : Hp) (g : Fp), Rel c Z' H' (putBack mu ms (List.replicate vs.length none)) (vs.map some) g → Fr Z H f0 Z' H' g → ExD c Z' H' e d → E (c.L.cls e.cls) d H'
  | .stuck => False
def spF (c : Cf) (mu : List Nat) (C : Calls) (f : Nat) (n : Nat) : Sp := fun vs H Q E => vs.length = n ∧ ∃ Z xs f0, Rel c Z H (xs.map some) (vs.map some) f0 ∧ outP c mu Z H f0 vs (C f xs) Q E

/-! ### arguments -/
inductive ArgR (c : Cf) (Z : Ad) (H : Hp) (σ : L2.St) : List (X ⊕ Nat) → List V → List (List Addr) → Prop
  | nil : ArgR c Z H σ [] [] []
  | inl {x : X} {v : V} {F : List Addr} {as : List (X ⊕ Nat)} {vs : List V} {Fs : List (List Addr)} : RX c Z H x v F → ArgR c Z H σ as vs Fs → ArgR c Z H σ (.inl x :: as) (v :: vs) (F :: Fs)
  | inr {i : Nat} {v : V} {as : List (X ⊕ Nat)} {vs : List V} {Fs : List (List Addr)} : σ[i]? = some (some v) → ArgR c Z H σ as vs Fs → ArgR c Z H σ (.inr i :: as) (v :: vs) ([] :: Fs)
structure Argm (c : Cf) (Z : Ad) (H : Hp) (f : Fp) (σ : L2.St) (as : List (X ⊕ Nat)) (vs : List V) (Fs : List (List Addr)) : Prop where
  rx : ArgR c Z H σ as vs Fs
  nd : Fs.flatten.Nodup
  nz : ∀ a ∈ Fs.flatten, ¬ Z a
  nf : ∀ a ∈ Fs.flatten, ¬ inF f a
def kA (c : Cf) (σ : L2.St) (H : Hp) (f : Fp) (x : List (X ⊕ Nat)) (v : List V) (Z' : Ad) (H' : Hp) (f' : Fp) : Prop := ∃ Fs, Argm c Z' H' f' σ x v Fs ∧ From H f Fs.flatten
def tEa (c : Cf) (C : Calls) (G : List D) (W : WX) (es : List E) : TA := fun σ H Q => ∃ Z s f, Rel c Z H s σ f ∧ post c W σ Z H f (kA c σ) (eva C G es s) Q
def SG (T : At) (e : List E) (a : List Expr) : Prop := PA T.X a (tEa T.c T.C T.G T.W e)
section
variable {c : Cf} {Z Z' : Ad} {H H' : Hp} {f f' : Fp} {s : S} {σ : L2.St}
theorem Argm.nil : Argm c Z H f σ [] [] [] := ⟨.nil, List.nodup_nil, (fun _ h => nomatch h), (fun _ h => nomatch h)⟩
theorem Argm.inl {x : X} {v : V} {F : List Addr} {as : List (X ⊕ Nat)} {vs : List V} {Fs : List (List Addr)} (t : Tmp c Z H f x v F) (ts : Argm c Z H f σ as vs Fs) (dj : ∀ a ∈ F, a ∉ Fs.flatten) : Argm c Z H f σ (.inl x :: as) (v :: vs) (F :: Fs) where
  rx := .inl t.rx ts.rx
  nd := by rw [List.flatten_cons]; exact List.nodup_append.mpr ⟨t.nd, ts.nd, fun a ha b hb e => dj a ha (e ▸ hb)⟩
  nz := fun a ha => by rw [List.flatten_cons] at ha; exact (List.mem_append.mp ha).elim (t.nz a) (ts.nz a)
  nf := fun a ha => by rw [List.flatten_cons] at ha; exact (List.mem_append.mp ha).elim (t.nf a) (ts.nf a)
end
section
variable {T : At} {e e1 e2 e3 : E} {a b d : Expr} {es : List E} {as : List Expr} {pos : Pos}
theorem sg_nil : SG T [] [] := PA.imp pa_nil fun σ H Q ⟨Z, s, f, r, p⟩ => p [] Z H f r Fr.refl ⟨[], Argm.nil, From.nil⟩
theorem sg_cons (hn : isStar e = false) (ha : SE T e a) (hr : SG T es as) (hs : starEach (a :: as) T.X.env = (false, eval a T.X.env) :: starEach as T.X.env) : SG T (e :: es) (a :: as) := PA.imp (pa_cons ha hr hs) fun σ H Q ⟨Z, s, f, r, p⟩ => by
  rw [eva_cons (h := hn)] at p
  refine ⟨Z, s, f, r, post.bind (K' := kA T.c σ) (k := kAs T.C T.G es) p fun x s1 v Z1 H1 f1 _ r1 a1 ⟨F, t, fr⟩ p1 => ?_⟩
  refine ⟨Z1, s1, f1, r1, post.bind2 (K' := kA T.c σ) (k := kAc (.inl x)) (r := eva T.C T.G es s1) p1 a1 fun xs s2 vs Z2 H2 f2 _ r2 a2 ⟨F2, t2, fr2⟩ p2 => ?_⟩
  have p2 : post T.c T.W σ Z H f (kA T.c σ) (.ok (.inl x :: xs) s2) Q := p2
  exact p2 (v :: vs) Z2 H2 f2 r2 (a1.trans a2) ⟨F :: F2, Argm.inl (t.fr r1 a2) t2 (Tmp.apart t fr2), From.append fr (From.fr a1 fr2)⟩
theorem sg_mu {i : Nat} (ha : PE T.X a (tVar i)) (hr : SG T es as) (hs : starEach (a :: as) T.X.env = (false, eval a T.X.env) :: starEach as T.X.env) : SG T (.mu i :: es) (a :: as) := PA.imp (pa_cons ha hr hs) fun σ H Q ⟨Z, s, f, r, p⟩ => by
  have p0 : post T.c T.W σ Z H f (kA T.c σ) ((peek i s).bind (kAm T.C T.G i es)) Q := p
  clear p
  cases q : peek i s with
  | ok x s' =>
    rw [q] at p0
    obtain ⟨e, hs'⟩ := peek_ok q
    subst hs'
    obtain ⟨v, e1, _⟩ := r.at_ i x e
    refine ⟨v, e1, Z, s', f, r, post.bind (K' := kA T.c σ) (k := kAc (.inr i)) (r := eva T.C T.G es s') (Q := Q) p0 fun xs s2 vs Z2 H2 f2 _ r2 a2 ⟨F2, t2, fr2⟩ p2 => ?_⟩
    have p2 : post T.c T.W σ Z H f (kA T.c σ) (.ok (.inr i :: xs) s2) Q := p2
    exact p2 (v :: vs) Z2 H2 f2 r2 a2 ⟨[] :: F2, ⟨.inr e1 t2.rx, t2.nd, t2.nz, t2.nf⟩, fr2⟩
  | exc e s' => unfold peek at q; split at q <;> cases q
  | stuck => rw [q] at p0; exact p0.elim
end
/-! ### the call -/
/-- whose slots, at which places -/
def inrs : List (X ⊕ Nat) → List Nat
  | [] => []
  | .inl _ :: r => inrs r
  | .inr i :: r => i :: inrs r
def inrPos : Nat → List (X ⊕ Nat) → List Nat
  | _, [] => []
  | n, .inl _ :: r => inrPos (n + 1) r
  | n, .inr _ :: r => n :: inrPos (n + 1) r
def muPos : Nat → List E → List Nat
  | _, [] => []
  | n, .mu _ :: r => n :: muPos (n + 1) r
  | n, _ :: r => muPos (n + 1) r
def noStar : List E → Bool
  | [] => true
  | .star _ :: _ => false
  | _ :: r => noStar r
theorem eva_shape {C : Calls} {G : List D} : ∀ {es : List E} {s s' : S} {as : List (X ⊕ Nat)}, noStar es = true → eva C G es s = .ok as s' → ∀ n, inrs as = muSlots es ∧ inrPos n as = muPos n es
  | [], s, s', as, _, h, n => by cases h; exact ⟨rfl, rfl⟩
  | e :: es, s, s', as, hn, h, n => by
    by_cases hm : ∃ i, e = .mu i
    · obtain ⟨i, rfl⟩ := hm
      obtain ⟨_, s1, _, h⟩ := bind_okE (show (peek i s).bind (kAm C G i es) = .ok as s' from h)
      obtain ⟨ys, s2, h1, h2⟩ := bind_okE (show (eva C G es s1).bind (kAc (.inr i)) = .ok as s' from h)
      cases h2
      obtain ⟨q1, q2⟩ := eva_shape (es := es) hn h1 (n + 1)
      exact ⟨by show i :: inrs ys = i :: muSlots es; rw [q1], by show n :: inrPos (n + 1) ys = n :: muPos (n + 1) es; rw [q2]⟩
    · have hst : isStar e = false := by
        cases e with
        | star z => cases hn
        | mu i => exact absurd ⟨i, rfl⟩ hm
        | _ => rfl
      rw [eva_cons (h := hst)] at h
      obtain ⟨x, s1, _, h⟩ := bind_okE h
      obtain ⟨ys, s2, h1, h2⟩ := bind_okE (show (eva C G es s1).bind (kAc (.inl x)) = .ok as s' from h)
      cases h2
      have hn' : noStar es = true := by
        cases e with
        | star z => cases hn
        | _ => exact hn
      obtain ⟨q1, q2⟩ := eva_shape (es := es) hn' h1 (n + 1)
      have e1 : muSlots (e :: es) = muSlots es := by cases e <;> first | rfl | exact absurd ⟨_, rfl⟩ hm
      have e2 : muPos n (e :: es) = muPos (n + 1) es := by cases e <;> first | rfl | exact absurd ⟨_, rfl⟩ hm
      exact ⟨by rw [e1]; exact q1, by rw [e2]; exact q2⟩
/-- the j that stands with i -/
def assoc : List Nat → List Nat → Nat → Option Nat
  | i :: is, j :: js, x => if x = i then some j else assoc is js x
  | _, _, _ => none
theorem assoc_some : ∀ {is js : List Nat} {x j : Nat}, assoc is js x = some j → ∃ k : Nat, is[k]? = some x ∧ js[k]? = some j
  | [], _, _, _, h => by cases h
  | _ :: _, [], _, _, h => by cases h
  | i :: is, j' :: js, x, j, h => by
    unfold assoc at h
    split at h
    · rename_i e; cases h; subst e; exact ⟨0, rfl, rfl⟩
    · obtain ⟨k, h1, h2⟩ := assoc_some h; exact ⟨k + 1, by simpa using h1, by simpa using h2⟩
theorem assoc_none : ∀ {is js : List Nat} {x : Nat}, is.length = js.length → assoc is js x = none → x ∉ is
  | [], _, _, _, _ => by simp
  | _ :: _, [], _, h, _ => by simp at h
  | i :: is, j' :: js, x, hl, h => by
    unfold assoc at h
    split at h
    · cases h
    · rename_i e
      have := assoc_none (is := is) (js := js) (by simpa using hl) h
      simp [e, this]
theorem putBack_ne : ∀ {is : List Nat} {xs : List X} {s : S} {i : Nat}, i ∉ is → (putBack is xs s)[i]? = s[i]?
  | [], _, _, _, _ => rfl
  | _ :: _, [], _, _, _ => rfl
  | j :: is, x :: xs, s, i, h => by
    have h1 : i ≠ j := fun e => h (by simp [e])
    show (putBack is xs (s.set j (some x)))[i]? = _
    rw [putBack_ne (fun e => h (List.mem_cons_of_mem _ e)), List.getElem?_set_ne (Ne.symm h1)]
theorem putBack_len : ∀ {is : List Nat} {xs : List X} {s : S}, (putBack is xs s).length = s.length
  | [], _, _ => rfl
  | _ :: _, [], _ => rfl
  | j :: is, x :: xs, s => by
    show (putBack is xs (s.set j (some x))).length = _
    rw [putBack_len, List.length_set]
theorem putBack_at : ∀ {is : List Nat} {xs : List X} {s : S} {k i : Nat} {x : X}, is.Nodup → is[k]? = some i → xs[k]? = some x → i < s.length → (putBack is xs s)[i]? = some (some x)
  | [], _, _, _, _, _, _, h, _, _ => by simp at h
  | _ :: _, [], _, _, _, _, _, _, h, _ => by simp at h
  | j :: is, y :: xs, s, 0, i, x, hn, h1, h2, hl => by
    simp at h1 h2
    subst h1 h2
    show (putBack is xs (s.set j (some y)))[j]? = _
    rw [putBack_ne (List.nodup_cons.mp hn).1, List.getElem?_set_self hl]
  | j :: is, y :: xs, s, k + 1, i, x, hn, h1, h2, hl => by
    show (putBack is xs (s.set j (some y)))[i]? = _
    exact putBack_at (k := k) (List.nodup_cons.mp hn).2 (by simpa using h1) (by simpa using h2) (by rw [List.length_set]; exact hl)
theorem inr_places : ∀ {as : List (X ⊕ Nat)} {n k i j : Nat}, (inrs as)[k]? = some i → (inrPos n as)[k]? = some j → n ≤ j ∧ as[j - n]? = some (.inr i)
  | [], _, _, _, _, h, _ => by simp [inrs] at h
  | .inl x :: as, n, k, i, j, h1, h2 => by
    obtain ⟨q1, q2⟩ := inr_places (as := as) (n := n + 1) h1 h2
    refine ⟨by omega, ?_⟩
    rw [show j - n = (j - (n + 1)) + 1 by omega]
    simpa using q2
  | .inr x :: as, n, 0, i, j, h1, h2 => by
    have e1 : x = i := by simpa [inrs] using h1
    have e2 : n = j := by simpa [inrPos] using h2
    subst e1 e2
    exact ⟨Nat.le_refl _, by simp⟩
  | .inr x :: as, n, k + 1, i, j, h1, h2 => by
    obtain ⟨q1, q2⟩ := inr_places (as := as) (n := n + 1) (k := k) (by simpa [inrs] using h1) (by simpa [inrPos] using h2)
    refine ⟨by omega, ?_⟩
    rw [show j - n = (j - (n + 1)) + 1 by omega]
    simpa using q2
theorem inrs_mem : ∀ {as : List (X ⊕ Nat)} {j i : Nat}, as[j]? = some (.inr i) → i ∈ inrs as
  | [], _, _, h => by simp at h
  | .inl x :: as, 0, _, h => by simp at h
  | .inr x :: as, 0, _, h => by simp at h; subst h; simp [inrs]
  | .inl x :: as, j + 1, _, h => by
    show _ ∈ inrs as
    exact inrs_mem (j := j) (by simpa using h)
  | .inr x :: as, j + 1, _, h => by
    have := inrs_mem (as := as) (j := j) (by simpa using h)
    simp [inrs, this]
theorem inrs_inj : ∀ {as : List (X ⊕ Nat)} {j j' i : Nat}, (inrs as).Nodup → as[j]? = some (.inr i) → as[j']? = some (.inr i) → j = j'
  | [], _, _, _, _, h, _ => by simp at h
  | .inl x :: as, 0, _, _, _, h, _ => by simp at h
  | .inl x :: as, _ + 1, 0, _, _, _, h => by simp at h
  | .inl x :: as, j + 1, j' + 1, _, hn, h1, h2 => congrArg (· + 1) (inrs_inj (as := as) hn (by simpa using h1) (by simpa using h2))
  | .inr x :: as, 0, 0, _, _, _, _ => rfl
  | .inr x :: as, 0, j' + 1, i, hn, h1, h2 => by
    simp at h1; subst h1
    exact absurd (inrs_mem (as := as) (j := j') (by simpa using h2)) (List.nodup_cons.mp hn).1
  | .inr x :: as, j + 1, 0, i, hn, h1, h2 => by
    simp at h2; subst h2
    exact absurd (inrs_mem (as := as) (j := j) (by simpa using h1)) (List.nodup_cons.mp hn).1
  | .inr x :: as, j + 1, j' + 1, i, hn, h1, h2 => congrArg (· + 1) (inrs_inj (as := as) (List.nodup_cons.mp hn).2 (by simpa using h1) (by simpa using h2))
end Mp
set_option maxHeartbeats 1000000
/-! Call1: a call, from the caller's side. -/
namespace Mp
open PySem PySem.Spec PyProof.Rows L2
/-- what each argument owns -/
def argF (f : Fp) : List (X ⊕ Nat) → List (List Addr) → Nat → List Addr
  | .inl _ :: _, F :: _, 0 => F
  | .inr i :: _, _ :: _, 0 => f i
  | _ :: as, _ :: Fs, j + 1 => argF f as Fs j
  | _, _, _ => []
section
variable {c : Cf} {Z Z' : Ad} {H H' : Hp} {f f' : Fp} {s : S} {σ : L2.St}
theorem argF_mem {a : Addr} : ∀ {as : List (X ⊕ Nat)} {Fs : List (List Addr)} {j : Nat}, a ∈ argF f as Fs j → (∃ F, Fs[j]? = some F ∧ a ∈ F) ∨ ∃ i, as[j]? = some (.inr i) ∧ a ∈ f i
  | [], _, _, h => by simp [argF] at h
  | _ :: _, [], _, h => by simp [argF] at h
  | .inl x :: as, F :: Fs, 0, h => .inl ⟨F, rfl, h⟩
  | .inr i :: as, F :: Fs, 0, h => .inr ⟨i, rfl, h⟩
  | .inl x :: as, F :: Fs, j + 1, h => by
    rcases argF_mem (as := as) (Fs := Fs) (j := j) h with ⟨F', h1, h2⟩ | ⟨i, h1, h2⟩
    · exact .inl ⟨F', by simpa using h1, h2⟩
    · exact .inr ⟨i, by simpa using h1, h2⟩
  | .inr x :: as, F :: Fs, j + 1, h => by
    rcases argF_mem (as := as) (Fs := Fs) (j := j) h with ⟨F', h1, h2⟩ | ⟨i, h1, h2⟩
    · exact .inl ⟨F', by simpa using h1, h2⟩
    · exact .inr ⟨i, by simpa using h1, h2⟩
theorem argF_nd (hf : ∀ i, (f i).Nodup) : ∀ {as : List (X ⊕ Nat)} {Fs : List (List Addr)} {j : Nat}, Fs.flatten.Nodup → (argF f as Fs j).Nodup
  | [], _, _, h => by simp [argF]
  | _ :: _, [], _, h => by simp [argF]
  | .inl x :: as, F :: Fs, 0, h => by
    rw [List.flatten_cons] at h
    exact (List.nodup_append.mp h).1
  | .inr i :: as, F :: Fs, 0, h => hf i
  | .inl x :: as, F :: Fs, j + 1, h => by
    rw [List.flatten_cons] at h
    exact argF_nd hf (as := as) (Fs := Fs) (j := j) (List.nodup_append.mp h).2.1
  | .inr x :: as, F :: Fs, j + 1, h => by
    rw [List.flatten_cons] at h
    exact argF_nd hf (as := as) (Fs := Fs) (j := j) (List.nodup_append.mp h).2.1
theorem mem_flat {Fs : List (List Addr)} {j : Nat} {F : List Addr} {a : Addr} (h : Fs[j]? = some F) (ha : a ∈ F) : a ∈ Fs.flatten := List.mem_flatten.mpr ⟨F, List.mem_of_getElem? h, ha⟩
theorem flat_inj {a : Addr} : ∀ {Fs : List (List Addr)} {j j' : Nat} {F F' : List Addr}, Fs.flatten.Nodup → Fs[j]? = some F → Fs[j']? = some F' → a ∈ F → a ∈ F' → j = j'
  | [], _, _, _, _, _, h, _, _, _ => by simp at h
  | G :: Fs, 0, 0, _, _, _, _, _, _, _ => rfl
  | G :: Fs, 0, j' + 1, F, F', hn, h1, h2, m1, m2 => by
    rw [List.flatten_cons] at hn
    simp at h1; subst h1
    exact absurd rfl ((List.nodup_append.mp hn).2.2 a m1 a (mem_flat (j := j') (by simpa using h2) m2))
  | G :: Fs, j + 1, 0, F, F', hn, h1, h2, m1, m2 => by
    rw [List.flatten_cons] at hn
    simp at h2; subst h2
    exact absurd rfl ((List.nodup_append.mp hn).2.2 a m2 a (mem_flat (j := j) (by simpa using h1) m1))
  | G :: Fs, j + 1, j' + 1, F, F', hn, h1, h2, m1, m2 => by
    rw [List.flatten_cons] at hn
    exact congrArg (· + 1) (flat_inj (List.nodup_append.mp hn).2.1 (by simpa using h1) (by simpa using h2) m1 m2)
theorem arg_at (r : Rel c Z H s σ f) : ∀ {as : List (X ⊕ Nat)} {vs : List V} {Fs : List (List Addr)} {xs : List X}, ArgR c Z H σ as vs Fs → argsAt as s = some xs → xs.length = vs.length ∧ ∀ (j : Nat) x, xs[j]? = some x → ∃ v, vs[j]? = some v ∧ RX c Z H x v (argF f as Fs j)
  | _, _, _, xs, .nil, h => by
    cases h
    exact ⟨rfl, fun j x e => by simp at e⟩
  | _, _, _, xs, .inl h1 h2, h => by
    obtain ⟨ys, h3, rfl⟩ := Option.map_eq_some_iff.mp h
    obtain ⟨q1, q2⟩ := arg_at r h2 h3
    refine ⟨by simp [q1], fun j x e => ?_⟩
    cases j with
    | zero => simp at e; subst e; exact ⟨_, rfl, h1⟩
    | succ j => exact q2 j x (by simpa using e)
  | _, _, _, xs, @ArgR.inr _ _ _ _ i v as vs Fs h1 h2, h => by
    have h : (match s[i]? with
      | some (some x) => (argsAt as s).map (x :: ·)
      | _ => none) = some xs := h
    split at h
    · rename_i y hy
      obtain ⟨ys, h3, rfl⟩ := Option.map_eq_some_iff.mp h
      obtain ⟨q1, q2⟩ := arg_at r h2 h3
      refine ⟨by simp [q1], fun j x e => ?_⟩
      cases j with
      | zero =>
        simp at e; subst e
        obtain ⟨v', e1, e2⟩ := r.at_ i _ hy
        rw [h1] at e1; cases e1
        exact ⟨_, rfl, e2⟩
      | succ j => exact q2 j x (by simpa using e)
    · cases h
theorem arg_len : ∀ {as : List (X ⊕ Nat)} {vs : List V} {Fs : List (List Addr)}, ArgR c Z H σ as vs Fs → vs.length = as.length
  | _, _, _, .nil => rfl
  | _, _, _, .inl _ h => by simp [arg_len h]
  | _, _, _, .inr _ h => by simp [arg_len h]
theorem arg_inr : ∀ {as : List (X ⊕ Nat)} {vs : List V} {Fs : List (List Addr)} {j i : Nat}, ArgR c Z H σ as vs Fs → as[j]? = some (.inr i) → ∃ v, vs[j]? = some v ∧ σ[i]? = some (some v)
  | _, _, _, _, _, .nil, h => by simp at h
  | _, _, _, 0, _, .inl _ _, h => by simp at h
  | _, _, _, 0, _, .inr h1 _, h => by simp at h; subst h; exact ⟨_, rfl, h1⟩
  | _, _, _, j + 1, _, .inl _ h2, h => by
    obtain ⟨v, e1, e2⟩ := arg_inr (j := j) h2 (by simpa using h)
    exact ⟨v, by simpa using e1, e2⟩
  | _, _, _, j + 1, _, .inr _ h2, h => by
    obtain ⟨v, e1, e2⟩ := arg_inr (j := j) h2 (by simpa using h)
    exact ⟨v, by simpa using e1, e2⟩
theorem nodup_at {l : List Nat} {i j x : Nat} (h : l.Nodup) (h1 : l[i]? = some x) (h2 : l[j]? = some x) : i = j := by
  induction l generalizing i j with
  | nil => simp at h1
  | cons a l ih =>
    rw [List.nodup_cons] at h
    cases i with
    | zero =>
      cases j with
      | zero => rfl
      | succ j => simp at h1 h2; subst h1; exact absurd (List.mem_of_getElem? h2) h.1
    | succ i =>
      cases j with
      | zero => simp at h1 h2; subst h2; exact absurd (List.mem_of_getElem? h1) h.1
      | succ j => exact congrArg (· + 1) (ih h.2 (by simpa using h1) (by simpa using h2))
/-- the callee's slots -/
theorem Rel.args {as : List (X ⊕ Nat)} {vs : List V} {Fs : List (List Addr)} {xs : List X} (r : Rel c Z H s σ f) (t : Argm c Z H f σ as vs Fs) (hn : (inrs as).Nodup) (h : argsAt as s = some xs) : Rel c Z H (xs.map some) (vs.map some) (argF f as Fs) where
  len := by rw [List.length_map, List.length_map]; exact (arg_at r t.rx h).1
  at_ := fun j x e => by
    rw [List.getElem?_map] at e
    obtain ⟨y, e1, e2⟩ := Option.map_eq_some_iff.mp e
    cases e2
    obtain ⟨v, h1, h2⟩ := (arg_at r t.rx h).2 j x e1
    exact ⟨v, by rw [List.getElem?_map, h1]; rfl, h2⟩
  nd := fun j => argF_nd r.nd t.nd
  dj := fun j j' hj a h1 h2 => by
    rcases argF_mem h1 with ⟨F1, e1, m1⟩ | ⟨i1, e1, m1⟩
    · rcases argF_mem h2 with ⟨F2, e2, m2⟩ | ⟨i2, e2, m2⟩
      · exact hj (flat_inj t.nd e1 e2 m1 m2)
      · exact t.nf a (mem_flat e1 m1) ⟨i2, m2⟩
    · rcases argF_mem h2 with ⟨F2, e2, m2⟩ | ⟨i2, e2, m2⟩
      · exact t.nf a (mem_flat e2 m2) ⟨i1, m1⟩
      · by_cases e : i1 = i2
        · subst e
          exact hj (inrs_inj hn e1 e2)
        · exact r.dj i1 i2 e a m1 m2
  nz := fun j a h1 => by
    rcases argF_mem h1 with ⟨F1, e1, m1⟩ | ⟨i1, e1, m1⟩
    · exact t.nz a (mem_flat e1 m1)
    · exact r.nz i1 a m1
  ow := fun j a h1 => by
    rcases argF_mem h1 with ⟨F1, e1, m1⟩ | ⟨i1, e1, m1⟩
    · have own_all : ∀ {as : List (X ⊕ Nat)} {vs : List V} {Fs : List (List Addr)}, ArgR c Z H σ as vs Fs → ∀ a ∈ Fs.flatten, ∃ o, H a = some o ∧ own o = true := by
        intro as vs Fs x
        induction x with
        | nil => intro a ha; simp at ha
        | inl h1 _ ih =>
          intro a ha
          rw [List.flatten_cons] at ha
          rcases List.mem_append.mp ha with ha | ha
          · exact h1.own a ha
          · exact ih a ha
        | inr _ _ ih => exact ih
      exact own_all t.rx a (mem_flat e1 m1)
    · exact r.ow i1 a m1
  zo := r.zo
  tb := r.tb
/-- behind the call -/
theorem Rel.after {as : List (X ⊕ Nat)} {vs : List V} {Fs : List (List Addr)} {xs ms : List X} {g : Fp} (r : Rel c Z H s σ f) (t : Argm c Z H f σ as vs Fs) (hn : (inrs as).Nodup) (hm : (inrPos 0 as).Nodup) (h : argsAt as s = some xs) (hl : ms.length = (inrPos 0 as).length)
    (hl2 : (inrs as).length = (inrPos 0 as).length) (rg : Rel c Z' H' (putBack (inrPos 0 as) ms (List.replicate vs.length none)) (vs.map some) g) (a : Fr Z H (argF f as Fs) Z' H' g) :
    ∃ f', Rel c Z' H' (putBack (inrs as) ms s) σ f' ∧ ∀ b, inF f' b → inF g b ∨ (inF f b ∧ ¬ inF (argF f as Fs) b) := by
  have ra := r.args t hn h
  have kp := a.kp ra
  -- what was not handed over
  have out : ∀ i b, i ∉ inrs as → b ∈ f i → ¬ inF (argF f as Fs) b := fun i b hi hb ⟨j, hj⟩ => by
    rcases argF_mem hj with ⟨F1, e1, m1⟩ | ⟨i1, e1, m1⟩
    · exact t.nf b (mem_flat e1 m1) ⟨i, hb⟩
    · have hi1 := inrs_mem e1
      exact r.dj i i1 (fun e => hi (e ▸ hi1)) b hb m1
  have asn : ∀ i, assoc (inrs as) (inrPos 0 as) i = none → i ∉ inrs as := fun i e => assoc_none hl2 e
  have ass : ∀ i j, assoc (inrs as) (inrPos 0 as) i = some j → ∃ k : Nat, (inrs as)[k]? = some i ∧ (inrPos 0 as)[k]? = some j := fun i j e => assoc_some e
  have keepf : ∀ i b, i ∉ inrs as → b ∈ f i → ∀ o, H b = some o → H' b = some o := fun i b hi hb o e => a.keep b o e (own_at (r.ow i b hb) e) (out i b hi hb)
  have gnew : ∀ j b, b ∈ g j → ∀ i, i ∉ inrs as → b ∉ f i := fun j b hb i hi hf => by
    rcases a.fnew b ⟨j, hb⟩ with z | z
    · exact out i b hi hf z
    · obtain ⟨o, e, _⟩ := r.ow i b hf
      rw [z] at e; cases e
  refine ⟨fun i => match assoc (inrs as) (inrPos 0 as) i with
    | some j => g j
    | none => f i, ⟨by rw [putBack_len]; exact r.len, fun i y e => ?_, fun i => ?_, fun i i' hi b h1 h2 => ?_, fun i b hb => ?_, fun i b hb => ?_, rg.zo, rg.tb⟩, fun b ⟨i, hb⟩ => ?_⟩
  · cases q : assoc (inrs as) (inrPos 0 as) i with
    | some j =>
      obtain ⟨k, k1, k2⟩ := ass i j q
      obtain ⟨_, hp⟩ := inr_places k1 k2
      rw [Nat.sub_zero] at hp
      obtain ⟨v, v1, v2⟩ := arg_inr t.rx hp
      have hk : k < ms.length := by rw [hl]; exact (List.getElem?_eq_some_iff.mp k2).1
      have hi : i < s.length := by rw [r.len]; exact (List.getElem?_eq_some_iff.mp v2).1
      rw [putBack_at hn k1 (List.getElem?_eq_getElem hk) hi] at e
      cases e
      have hj : j < (List.replicate vs.length (none : Option X)).length := by rw [List.length_replicate]; exact (List.getElem?_eq_some_iff.mp v1).1
      obtain ⟨v', w1, w2⟩ := rg.at_ j ms[k] (putBack_at hm k2 (List.getElem?_eq_getElem hk) hj)
      rw [List.getElem?_map, v1] at w1
      cases w1
      exact ⟨v, v2, by simp only [q]; exact w2⟩
    | none =>
      rw [putBack_ne (asn i q)] at e
      obtain ⟨v, v1, v2⟩ := r.at_ i y e
      exact ⟨v, v1, by simp only [q]; exact v2.kp kp (keepf i · (asn i q) · ·)⟩
  · cases q : assoc (inrs as) (inrPos 0 as) i with
    | some j => simp only [q]; exact rg.nd j
    | none => simp only [q]; exact r.nd i
  · cases q : assoc (inrs as) (inrPos 0 as) i with
    | some j =>
      simp only [q] at h1
      cases q' : assoc (inrs as) (inrPos 0 as) i' with
      | some j' =>
        simp only [q'] at h2
        refine rg.dj j j' (fun e => hi ?_) b h1 h2
        subst e
        obtain ⟨k, k1, k2⟩ := ass i _ q
        obtain ⟨k', k1', k2'⟩ := ass i' _ q'
        have : k = k' := nodup_at hm k2 k2'
        subst this
        rw [k1] at k1'; exact Option.some.inj k1'
      | none =>
        simp only [q'] at h2
        exact gnew j b h1 i' (asn i' q') h2
    | none =>
      simp only [q] at h1
      cases q' : assoc (inrs as) (inrPos 0 as) i' with
      | some j' =>
        simp only [q'] at h2
        exact gnew j' b h2 i (asn i q) h1
      | none =>
        simp only [q'] at h2
        exact r.dj i i' hi b h1 h2
  · cases q : assoc (inrs as) (inrPos 0 as) i with
    | some j => simp only [q] at hb; exact rg.nz j b hb
    | none =>
      simp only [q] at hb
      intro z
      rcases a.znew b z with z | z | z
      · exact r.nz i b hb z
      · exact out i b (asn i q) hb z
      · obtain ⟨o, e, _⟩ := r.ow i b hb
        rw [z] at e; cases e
  · cases q : assoc (inrs as) (inrPos 0 as) i with
    | some j => simp only [q] at hb; exact rg.ow j b hb
    | none =>
      simp only [q] at hb
      obtain ⟨o, e, ho⟩ := r.ow i b hb
      exact ⟨o, keepf i b (asn i q) hb o e, ho⟩
  · cases q : assoc (inrs as) (inrPos 0 as) i with
    | some j => simp only [q] at hb; exact .inl ⟨j, hb⟩
    | none => simp only [q] at hb; exact .inr ⟨⟨i, hb⟩, out i b (asn i q) hb⟩
end
end Mp
set_option maxHeartbeats 1000000
/-! Call2: the rules for calls. -/
namespace Mp
open PySem PySem.Spec PyProof.Rows L2
theorem muPos_ge : ∀ {es : List E} {n j : Nat}, j ∈ muPos n es → n ≤ j
  | [], _, _, h => by simp [muPos] at h
  | e :: es, n, j, h => by
    cases e with
    | mu i =>
      have h : j ∈ n :: muPos (n + 1) es := h
      rcases List.mem_cons.mp h with h | h
      · omega
      · have := muPos_ge h; omega
    | _ => have := muPos_ge (es := es) (n := n + 1) (j := j) h; omega
theorem muPos_nd : ∀ {es : List E} {n : Nat}, (muPos n es).Nodup
  | [], _ => List.nodup_nil
  | e :: es, n => by
    cases e with
    | mu i =>
      show (n :: muPos (n + 1) es).Nodup
      exact List.nodup_cons.mpr ⟨fun h => by have := muPos_ge h; omega, muPos_nd⟩
    | _ => exact muPos_nd (es := es) (n := n + 1)
theorem pos_len : ∀ {es : List E} {n : Nat}, (muPos n es).length = (muSlots es).length
  | [], _ => rfl
  | e :: es, n => by
    cases e with
    | mu i => show (muPos (n + 1) es).length + 1 = (muSlots es).length + 1; rw [pos_len]
    | _ => exact pos_len (es := es) (n := n + 1)
theorem eva_len {C : Calls} {G : List D} : ∀ {es : List E} {s s' : S} {as : List (X ⊕ Nat)}, noStar es = true → eva C G es s = .ok as s' → as.length = es.length
  | [], s, s', as, _, h => by cases h; rfl
  | e :: es, s, s', as, hn, h => by
    by_cases hm : ∃ i, e = .mu i
    · obtain ⟨i, rfl⟩ := hm
      obtain ⟨_, s1, _, h⟩ := bind_okE (show (peek i s).bind (kAm C G i es) = .ok as s' from h)
      obtain ⟨ys, s2, h1, h2⟩ := bind_okE (show (eva C G es s1).bind (kAc (.inr i)) = .ok as s' from h)
      cases h2
      simp [eva_len (es := es) hn h1]
    · have hst : isStar e = false := by
        cases e with
        | star z => cases hn
        | mu i => exact absurd ⟨i, rfl⟩ hm
        | _ => rfl
      rw [eva_cons (h := hst)] at h
      obtain ⟨x, s1, _, h⟩ := bind_okE h
      obtain ⟨ys, s2, h1, h2⟩ := bind_okE (show (eva C G es s1).bind (kAc (.inl x)) = .ok as s' from h)
      cases h2
      have hn' : noStar es = true := by
        cases e with
        | star z => cases hn
        | _ => exact hn
      simp [eva_len (es := es) hn' h1]
section
variable {X : Cx} {L : Lay} {C : Calls} {G : List D} {W : WX} {σ : L2.St} {es : List E} {f : Nat}
/-- the callee is asked -/
theorem ask_call {Z : Ad} {H : Hp} {s : S} {fp : Fp} {Q : VK} {as : List (Mp.X ⊕ Nat)} {s1 : S} {vs : List V} {Z1 : Ad} {H1 : Hp} {f1 : Fp} {Fs : List (List Addr)} (hn : noStar es = true) (hd : (muSlots es).Nodup) (e1 : eva C G es s = .ok as s1) (r1 : Rel (cf X L) Z1 H1 s1 σ f1) (a1 : Fr Z H fp Z1 H1 f1)
    (t : Argm (cf X L) Z1 H1 f1 σ as vs Fs) (fr : From H fp Fs.flatten) (p1 : post (cf X L) W σ Z H fp (kX (cf X L)) (doCall C f (muSlots es) as s1) Q) :
    vs.length = es.length ∧ ∃ xs, argsAt as s1 = some xs ∧ Rel (cf X L) Z1 H1 (xs.map some) (vs.map some) (argF f1 as Fs) ∧ outP (cf X L) (muPos 0 es) Z1 H1 (argF f1 as Fs) vs (C f xs) Q fun cls d H' => W cls d σ H' := by
  obtain ⟨i1, i2⟩ := eva_shape hn e1 0
  have hl := eva_len hn e1
  unfold doCall at p1
  split at p1
  · exact p1.elim
  · rename_i xs hx
    have hnd : (inrs as).Nodup := by rw [i1]; exact hd
    have hmd : (inrPos 0 as).Nodup := by rw [i2]; exact muPos_nd
    have hll : (inrs as).length = (inrPos 0 as).length := by rw [i1, i2, pos_len]
    have fr0 : ∀ b, inF (argF f1 as Fs) b → inF fp b ∨ H b = none := fun b ⟨j, hj⟩ => by
      rcases argF_mem hj with ⟨F1, e1, m1⟩ | ⟨i1, e1, m1⟩
      · exact fr b (mem_flat e1 m1)
      · exact a1.fnew b ⟨i1, m1⟩
    have dead : ∀ b, H1 b = none → H b = none := fun b z => by
      cases q : H b with
      | none => rfl
      | some o => exact absurd z (a1.live b (by rw [q]; exact fun z => nomatch z))
    refine ⟨by rw [arg_len t.rx, hl], xs, hx, r1.args t hnd hx, ?_⟩
    have key : ∀ {ms : List Mp.X} {Z' : Ad} {H' : Hp} {g : Fp}, ms.length = (muPos 0 es).length → Rel (cf X L) Z' H' (putBack (muPos 0 es) ms (List.replicate vs.length none)) (vs.map some) g → Fr Z1 H1 (argF f1 as Fs) Z' H' g →
        ∃ f', Rel (cf X L) Z' H' (putBack (muSlots es) ms s1) σ f' ∧ Fr Z H fp Z' H' f' ∧ ∀ b, inF f' b → inF g b ∨ (inF f1 b ∧ ¬ inF (argF f1 as Fs) b) := by
      intro ms Z' H' g hml rg ag
      rw [← i2] at rg hml
      obtain ⟨f', h1, h2⟩ := r1.after t hnd hmd hx hml hll rg ag
      rw [i1] at h1
      refine ⟨f', h1, ⟨fun b o e ht n => ?_, fun b z => ag.zz b (a1.zz b z), fun b z => ?_, fun b hb => ?_, fun b z => ag.live b (a1.live b z), fun T z => ag.tb T (a1.tb T z)⟩, h2⟩
      · refine ag.keep b o (a1.keep b o e ht n) ht fun z => ?_
        rcases fr0 b z with z | z
        · exact n z
        · rw [e] at z; cases z
      · rcases ag.znew b z with z | z | z
        · exact a1.znew b z
        · exact .inr (fr0 b z)
        · exact .inr (.inr (dead b z))
      · rcases h2 b hb with z | ⟨z, _⟩
        · rcases ag.fnew b z with z | z
          · exact fr0 b z
          · exact .inr (dead b z)
        · exact a1.fnew b z
    split at p1
    · rename_i x ms q
      rw [q]
      split at p1
      rotate_left
      · exact p1.elim
      intro hml v Z' H' F g rg ag t' fr'
      obtain ⟨f', h1, h2, h3⟩ := key hml rg ag
      refine p1 v Z' H' f' h1 h2 ⟨F, ⟨t'.rx, t'.nd, t'.nz, fun b hb z => ?_⟩, fun b hb => ?_⟩
      · rcases h3 b z with z | ⟨z, n⟩
        · exact t'.nf b hb z
        · rcases fr' b hb with y | y
          · exact n y
          · obtain ⟨i, hi⟩ := z
            obtain ⟨o, e, _⟩ := r1.ow i b hi
            rw [y] at e; cases e
      · rcases fr' b hb with y | y
        · exact fr0 b y
        · exact .inr (dead b y)
    · rename_i e ms q
      rw [q]
      split at p1
      rotate_left
      · exact p1.elim
      intro hml d Z' H' g rg ag hx
      obtain ⟨f', h1, h2, h3⟩ := key hml rg ag
      exact p1 Z' H' f' d h1 h2 hx
    · exact p1.elim
theorem imp_call {H : Hp} {Q : VK} (hn : noStar es = true) (hd : (muSlots es).Nodup) (h : tE (cf X L) C G W (.call f es) σ H Q) : tCallG (spF (cf X L) (muPos 0 es) C f es.length) W (tEa (cf X L) C G W es) σ H Q := by
  obtain ⟨Z, s, fp, r, p⟩ := h
  exact ⟨Z, s, fp, r, post.bind (k := kCall C f (muSlots es)) (K' := kX (cf X L)) (Q := Q) p fun as s1 vs Z1 H1 f1 e1 r1 a1 ⟨Fs, t, fr⟩ p1 => (fun ⟨h1, xs, _, h2, h3⟩ => ⟨h1, Z1, xs, _, h2, h3⟩ : _ → _) (ask_call hn hd e1 r1 a1 t fr p1)⟩
end
/-- .. where the callee is not known -/
theorem ask_callv {X : Cx} {L : Lay} {C : Calls} {G : List D} {W : WX} {σ : L2.St} {es : List E} {f : Nat} {Z : Ad} {H : Hp} {s : S} {fp : Fp} {Q : VK} {as : List (Mp.X ⊕ Nat)} {s1 : S} {vs : List V} {Z1 : Ad} {H1 : Hp} {f1 : Fp} {Fs : List (List Addr)} {m : List Nat} {n : Nat} (hn : noStar es = true) (hd : muSlots es = []) (hC : ∀ xs, C f xs ≠ .stuck → xs.length = n)
    (e1 : eva C G es s = .ok as s1) (r1 : Rel (cf X L) Z1 H1 s1 σ f1) (a1 : Fr Z H fp Z1 H1 f1)
    (t : Argm (cf X L) Z1 H1 f1 σ as vs Fs) (fr : From H fp Fs.flatten) (p1 : post (cf X L) W σ Z H fp (kX (cf X L)) (doCall C f [] as s1) Q) :
    spF (cf X L) m C f n vs H1 Q fun cls d H' => W cls d σ H' := by
  have p0 := p1
  rw [← hd] at p0
  obtain ⟨hlen, xs, hx, rr, o⟩ := ask_call (L := L) hn (by rw [hd]; exact List.nodup_nil) e1 r1 a1 t fr p0
  have hm : muPos 0 es = [] := List.eq_nil_of_length_eq_zero (by rw [pos_len, hd]; rfl)
  rw [hm] at o
  have live : C f xs ≠ .stuck := fun e => by rw [e] at o; exact o
  have hx' : xs.length = vs.length := by have := rr.len; simpa using this
  refine ⟨by rw [← hx']; exact hC xs live, Z1, xs, _, rr, ?_⟩
  unfold doCall at p1
  rw [hx] at p1
  dsimp only at p1
  cases q : C f xs with
  | ok x ms =>
    rw [q] at p1 o
    have p1 : post (cf X L) W σ Z H fp (kX (cf X L)) (if ms.length = ([] : List Nat).length then .ok x (putBack [] ms s1) else .stuck) Q := p1
    split at p1
    · rename_i hz
      have hz : ms = [] := List.eq_nil_of_length_eq_zero hz
      subst hz
      intro hml
      have hm' : m = [] := List.eq_nil_of_length_eq_zero hml.symm
      subst hm'
      exact o rfl
    · exact p1.elim
  | exc e ms =>
    rw [q] at p1 o
    have p1 : post (cf X L) W σ Z H fp (kX (cf X L)) (if ms.length = ([] : List Nat).length then .exc e (putBack [] ms s1) else .stuck) Q := p1
    split at p1
    · rename_i hz
      have hz : ms = [] := List.eq_nil_of_length_eq_zero hz
      subst hz
      intro hml
      have hm' : m = [] := List.eq_nil_of_length_eq_zero hml.symm
      subst hm'
      exact o rfl
    · exact p1.elim
  | stuck => exact absurd q live
/-- the defs of the text, so deep -/
def Defs (X : Cx) (L : Lay) (mu : Nat → List Nat) (ar : Nat → Nat) (C : Calls) (k : Nat) : Prop := ∀ f, L.fn f = true → FnAt X.prog X.w X.K X.mg X.base k (L.fa f) (spF (cf X L) (mu f) C f (ar f))
section
variable {T : At} {e e1 e2 e3 : E} {a b d : Expr} {es : List E} {as : List Expr} {pos p : Pos} {k f : Nat} {mu : Nat → List Nat} {ar : Nat → Nat} {x : Str}
theorem sp_live {c : Cf} {m : List Nat} {C : Calls} {n : Nat} {vs : List V} {H : Hp} {Q : VK} {E : XK} (h : spF c m C f n vs H Q E) : ∃ xs, C f xs ≠ .stuck := by
  obtain ⟨_, Z, xs, f0, _, o⟩ := h
  refine ⟨xs, fun e => ?_⟩
  rw [e] at o
  exact o
/-- a def that never answers promises all -/
theorem fnAt_dead {P : Program} {w : World} {K : PySem.W.Frag} {mg : Str → Option Value} {base : Heap} {a : Addr} {sp sp' : Sp} (h : FnAt P w K mg base k a sp) (i : ∀ vs H Q E, sp' vs H Q E → sp vs H Q E) : FnAt P w K mg base k a sp' := by
  obtain ⟨fd, ps, F, h1, h2⟩ := h.ex
  exact ⟨fd, ps, ⟨fun vs H Q E q => F.len vs H Q E (i _ _ _ _ q), fun A outer s H args us vs Q E hr hg e0 hb r q => F.run A outer s H args us vs Q E hr hg e0 hb r (i _ _ _ _ q)⟩, h1, h2⟩
theorem se_call (D : FnAt T.X.prog T.X.w T.X.K T.X.mg T.X.base k (T.fa.fa f) (spF T.c (mu f) T.C f (ar f))) (hr : Room k T.X.A) (hgd : T.X.A.guards = some []) (tk : Takes T.X T.W) (hg : Gl T.X x) (hm : T.X.mg x = some (.ref (T.fa.fa f))) (hdb : (x == ("__debug__" : Str)) = false)
    (hn : noStar es = true) (hd : (muSlots es).Nodup) (hmu : muPos 0 es = mu f) (hl : es.length = ar f) (h : SG T es (a :: as)) (he : starEach (a :: as) T.X.env = (false, eval a T.X.env) :: starEach as T.X.env) (hpl : (backTo pos (starEach as T.X.env)).any (·.1) = false) :
    SE T (.call f es) (.Call (.Name x p) (a :: as) [] pos) := PE.imp (pe_callG D hr hgd hg hm tk h hdb he hpl) fun σ H Q q => by
  rw [← hmu, ← hl]
  exact imp_call hn hd q
theorem se_call0 (D : FnAt T.X.prog T.X.w T.X.K T.X.mg T.X.base k (T.fa.fa f) (spF T.c (mu f) T.C f (ar f))) (hr : Room k T.X.A) (hgd : T.X.A.guards = some []) (tk : Takes T.X T.W) (hg : Gl T.X x) (hm : T.X.mg x = some (.ref (T.fa.fa f))) (hdb : (x == ("__debug__" : Str)) = false)
    (hmu : [] = mu f) (hl : 0 = ar f) : SE T (.call f []) (.Call (.Name x p) [] [] pos) := PE.imp (pe_callG0 D hr hgd hg hm tk hdb) fun σ H Q q => by
  have q := imp_call (es := []) rfl List.nodup_nil q
  obtain ⟨Z, s, fp, r, q⟩ := q
  rw [← hmu, ← hl]
  exact q [] Z H fp r Fr.refl ⟨[], Argm.nil, From.nil⟩
/-- a def that a slot holds is called (none of its arguments may be changed) -/
theorem se_callv {i : Nat} (D : Defs T.X T.fa mu ar T.C k) (hC : ∀ f xs, T.C f xs ≠ .stuck → xs.length = ar f) (hr : Room k T.X.A) (hgd : T.X.A.guards = some []) (tk : Takes T.X T.W) (hx : PE T.X (.Name x p) (tVar i))
    (hn : noStar es = true) (hmu : muSlots es = []) (h : SG T es (a :: as)) (he : starEach (a :: as) T.X.env = (false, eval a T.X.env) :: starEach as T.X.env) (hpl : (backTo pos (starEach as T.X.env)).any (·.1) = false) :
    SE T (.callv i es) (.Call (.Name x p) (a :: as) [] pos) := ⟨fun pins s σ H Q I ⟨Z, s0, fp, r, q⟩ => by
  have q : post T.c T.W σ Z H fp (kX T.c) (callvOp T.C T.G es s0 (fnAt s0[i]?)) Q := q
  cases e1 : fnAt s0[i]? with
  | none => rw [e1] at q; exact q.elim
  | some g =>
    rw [e1] at q
    unfold fnAt at e1
    split at e1
    · rename_i g' e2
      cases e1
      obtain ⟨v, e3, e4⟩ := r.at_ i _ e2
      generalize fp i = Fi at e4
      cases e4 with
      | fn _ hf =>
        refine run_callGL (i := i) (W := T.W) (D _ hf) hr hgd hx tk h he hpl I ⟨e3, Z, s0, fp, r, ?_⟩
        exact post.bind (k := kCall T.C g []) (K' := kX T.c) (Q := Q) q fun as s1 vs Z1 H1 f1 e1 r1 a1 ⟨Fs, t, fr⟩ p1 => ask_callv hn hmu (hC g) e1 r1 a1 t fr p1
    · cases e1⟩
end
end Mp
set_option maxHeartbeats 1000000
/-! Dct0: dicts walked: locked while it goes on. -/
namespace Mp
open PySem PySem.Spec PyProof.Rows L2
/-- what comes of the locked dict at a: vs -/
def Itdk (a : Addr) (o : Obj) (es : List DictEntry) (vs : List V) : It :=
  ⟨fun i H => H a = some (.frz o (dicO a es)) ∧ i < es.length, fun i H v H' => H' = H ∧ vs[i]? = some v, fun i H => H a = some (.frz o (dicO a es)) ∧ es.length ≤ i⟩
theorem dic_frz {X : Cx} {pins : List (Addr × Obj)} {σ : L2.St} {H : Hp} {s : Shared} {a : Addr} {o : Obj} {es : List DictEntry} (I : Inv X pins σ H s) (h : H a = some (.frz o (dicO a es))) :
    (a == sysModules) = false ∧ s.heap.get? a = some o ∧ o.ExactDict ∧ ∃ ep, o.data = .dict es.toArray ep := by
  obtain ⟨h1, ⟨hs, hl, o', ep, h2, h3, h4⟩, _⟩ := I.hok a _ h
  rw [h1] at h2; cases h2
  exact ⟨hs, h1, h3, ep, h4⟩
theorem same_ep {o : Obj} {es : List DictEntry} {ep ep' : Nat} (h : o.data = .dict es.toArray ep) (h' : o.data = .dict es.toArray ep') : ep' = ep := by
  rw [h] at h'; cases h'; rfl
section
variable {P : Program} {w : World} {K : PySem.W.Frag} {tg : Expr} {a : Addr} {o : Obj} {es : List DictEntry} {vs : List V} {ep : Nat}
theorem turn_dkeys (it : Addr) (hod : o.data = .dict es.toArray ep) (hv : Vals vs (es.map (·.key))) : Turn P w K tg (Itdk a o es vs) [it] it (fun i h => h.IsKeyIter it a i es.length ep) where
  mem := by simp
  obj := fun i h st b hb => by
    obtain rfl : b = it := by simpa using hb
    obtain ⟨oi, e, c, dd⟩ := st
    exact ⟨oi, e, fun v z => by rw [dd] at z; cases z⟩
  keep := fun i h h' st k => st.at fun oi e => k it (by simp) oi e
  item := by
    intro X hP hw hK hc i pins s σ H E I hf st ⟨hd, hi⟩
    subst hP hw hK
    obtain ⟨f0, f1, f2, f3, f4, f5⟩ := hf it (by simp)
    obtain ⟨hs, hgd, hx, ep', hdt⟩ := dic_frz I hd
    obtain rfl := same_ep hod hdt
    have hen : es.toArray[i]? = some es[i] := by simp [hi]
    refine next_key_item st hgd hdt (by simp) hen fun h' st' sb => ?_
    have I1 : Inv X pins σ H { s with heap := h' } := I.turned (t' := s.toks) (fun b ob hb e => (sb.2 b hb).trans e) f0 f1 f3 f4 f5
    obtain ⟨oi, e, c, dd⟩ := id st'
    have hl := hv.length
    rw [List.length_map] at hl
    obtain ⟨v, hvi⟩ : ∃ v, vs[i]? = some v := ⟨vs[i]'(by omega), List.getElem?_eq_getElem (by omega)⟩
    obtain ⟨u, hu, ru⟩ := hv.get hvi
    rw [List.getElem?_map, List.getElem?_eq_getElem hi] at hu
    cases hu
    exact ⟨es[i].key, rfl, go_of (s := { s with heap := h' }) e c dd (by decide) ⟨v, H, I1, ru, ⟨rfl, hvi⟩, st', fun b hb => (hf b hb).1⟩⟩
  done := by
    intro X hP hw hK hc i pins s σ H E I hf st ⟨hd, hi⟩
    subst hP hw hK
    obtain ⟨f0, f1, f2, f3, f4, f5⟩ := hf it (by simp)
    obtain ⟨hs, hgd, hx, ep', hdt⟩ := dic_frz I hd
    obtain rfl := same_ep hod hdt
    exact next_key_end (I.ok.hd hc) st hgd hdt (by simp) hi fun h' eb => ⟨rfl, I.turned (t' := s.toks) (fun b ob hb e => eb b ob hb e) f0 f1 f3 f4 f5⟩
  self := fun A i s Q E st h => wpAny_pyIter_keyiter st h
theorem turn_dvals (it : Addr) (hod : o.data = .dict es.toArray ep) (hv : Vals vs (es.map (·.val))) : Turn P w K tg (Itdk a o es vs) [it] it (fun i h => h.IsValIter it a i es.length ep) where
  mem := by simp
  obj := fun i h st b hb => by
    obtain rfl : b = it := by simpa using hb
    obtain ⟨oi, e, c, dd⟩ := st
    exact ⟨oi, e, fun v z => by rw [dd] at z; cases z⟩
  keep := fun i h h' st k => st.at fun oi e => k it (by simp) oi e
  item := by
    intro X hP hw hK hc i pins s σ H E I hf st ⟨hd, hi⟩
    subst hP hw hK
    obtain ⟨f0, f1, f2, f3, f4, f5⟩ := hf it (by simp)
    obtain ⟨hs, hgd, hx, ep', hdt⟩ := dic_frz I hd
    obtain rfl := same_ep hod hdt
    have hsz : es.toArray.size = es.length := by simp
    refine wpAny_pyNext_values_item_raw (es := es.toArray) (by rw [hsz]; exact st) ⟨o, hgd, hx, hdt⟩ (by rw [hsz]; exact hi) fun h' st' sb => ?_
    rw [hsz] at st'
    have I1 : Inv X pins σ H { s with heap := h' } := I.turned (t' := s.toks) (fun b ob hb e => (sb.2 b hb).trans e) f0 f1 f3 f4 f5
    obtain ⟨oi, e, c, dd⟩ := id st'
    have hl := hv.length
    rw [List.length_map] at hl
    obtain ⟨v, hvi⟩ : ∃ v, vs[i]? = some v := ⟨vs[i]'(by omega), List.getElem?_eq_getElem (by omega)⟩
    obtain ⟨u, hu, ru⟩ := hv.get hvi
    rw [List.getElem?_map, List.getElem?_eq_getElem hi] at hu
    cases hu
    refine ⟨_, rfl, go_of (s := { s with heap := h' }) e c dd (by decide) ⟨v, H, I1, ?_, ⟨rfl, hvi⟩, st', fun b hb => (hf b hb).1⟩⟩
    simpa using ru
  done := by
    intro X hP hw hK hc i pins s σ H E I hf st ⟨hd, hi⟩
    subst hP hw hK
    obtain ⟨f0, f1, f2, f3, f4, f5⟩ := hf it (by simp)
    obtain ⟨hs, hgd, hx, ep', hdt⟩ := dic_frz I hd
    obtain rfl := same_ep hod hdt
    have hsz : es.toArray.size = es.length := by simp
    exact wpAny_pyNext_values_end_raw (es := es.toArray) (I.ok.hd hc) (by rw [hsz]; exact st) ⟨o, hgd, hx, hdt⟩ (by rw [hsz]; exact hi) fun h' eb => ⟨rfl, I.turned (t' := s.toks) (fun b ob hb e => eb b ob hb e) f0 f1 f3 f4 f5⟩
  self := fun A i s Q E st h => wpAny_pyIter_valiter st h
end
section
variable {X : Cx} {tg e : Expr} {te : TE} {apos cpos : Pos}
/-- the keys of a dict that no one else has -/
theorem run_dkeys {pins : List (Addr × Obj)} {σ : L2.St} {H : Hp} {s : Shared} {R : It → Hp → Prop} {a : Addr} {es : List DictEntry} {vs : List V} (I : Inv X pins σ H s) (h : H a = some (dicO a es)) (hv : Vals vs (es.map (·.key)))
    (q : ∀ o, R (Itdk a o es vs) (upd H a (.frz o (dicO a es)))) : wpAny (model X.prog X.w) X.A (pyIter (.ref a)) (PIE X pins σ tg R) X.xe s := by
  obtain ⟨o, I1⟩ := I.lock h True.intro
  obtain ⟨hs, hgd, hx, ep, hdt⟩ := dic_frz I1 upd_same
  refine iter_keys hs hgd hx hdt (pi_one (tk := s.toks) I1 _ (turn_dkeys _ hdt hv) ⟨_, Heap.get?_push_size _ rfl, rfl, ?_⟩ (q o))
  simp
/-- d.values() -/
def iDvals (te : TE) : TI := fun σ H R => te σ H fun x H1 => ∃ a es vs, x = .ref a ∧ H1 a = some (dicO a es) ∧ Vals vs (es.map (·.val)) ∧ ∀ o, R (Itdk a o es vs) (upd H1 a (.frz o (dicO a es)))
theorem pi_dvals (he : PE X e te) (hbase : attributeBase e "values" X.env (eval e X.env) = eval e X.env := by rfl) (hline : (apos.endLine == cpos.line) = true := by rfl) : PI X tg (.Call (.Attribute e "values" apos) [] [] cpos) (iDvals te) := by
  refine ⟨fun pins s σ H R I h => ?_⟩
  refine wpAny_Call_method (T := "dict") (id := "dict.values") hbase rfl hline F.plainAttrs_dict F.slot_dict_values F.type_dict_values (thn (he.run pins s σ H _ I h) fun u s1 ⟨x, H1, I1, rx, a, es, vs, ex, hd, hv, q⟩ => ?_)
  subst ex
  obtain rfl : u = Value.ref a := rx
  obtain ⟨o, I2⟩ := I1.lock hd True.intro
  obtain ⟨hs, hgd, hx, ep, hdt⟩ := dic_frz I2 upd_same
  have raw : s1.heap.DictRaw a es.toArray ep := ⟨o, hgd, hx, hdt⟩
  refine ⟨raw.typeIs, fun b e => by cases e; exact ⟨o, hgd, hx.2.1⟩, ?_⟩
  have I3 : Inv X pins σ (upd H1 a (.frz o (dicO a es))) { s1 with heap := s1.heap.push { cls := .type "dict_values", data := .fields #[.ref a] } } := I2.kept (t' := s1.toks) fun b ob q => Heap.get?_push_of_some _ q
  have fin : wpAny (model X.prog X.w) X.A (pyIter (.ref s1.heap.objs.size)) (PIE X pins σ tg R) X.xe { s1 with heap := s1.heap.push { cls := .type "dict_values", data := .fields #[.ref a] } } := by
    refine wpAny_pyIter_values_raw (d := a) (es := es.toArray) (ep := ep) ⟨_, Heap.get?_push_size _ rfl, rfl, rfl⟩ (raw.at fun o e => Heap.get?_push_of_some _ e) (pi_one (tk := s1.toks) I3 _ (turn_dvals _ hdt hv) ⟨_, Heap.get?_push_size _ rfl, rfl, ?_⟩ (q o))
    simp
  show wpAny _ _ (callWith cpos (.builtin "dict.values") [.ref a] [] []) _ X.xe s1
  exact method_meetsIn F.slot_dict_values F.entry_dict_values rfl (PySem.evalArgs_none ⟨rfl, raw.typeIs, F.args_dict_values_1 _, _, meets_dict_values_raw a hs, ⟨_, _, raw⟩, fin⟩)
end
end Mp
set_option maxHeartbeats 1000000
/-! Snd4: targets, iteration. -/
namespace Mp
open PySem PySem.Spec PyProof.Rows L2
/-! ### targets -/
mutual
/-- a target's slots -/
def slots : Tg → List Nat
  | .n i => [i]
  | .t l => slotss l
def slotss : List Tg → List Nat
  | [] => []
  | t :: r => slots t ++ slotss r
end
/-- σ' is σ but at these -/
def But (own : List Nat) (σ σ' : L2.St) : Prop := ∀ i, i ∉ own → σ'[i]? = σ[i]?
def postG (c : Cf) (own : List Nat) (σ : L2.St) (Z : Ad) (H : Hp) (f : Fp) (o : Option S) (Q : L2.St → Hp → Prop) : Prop := match o with
  | none => False
  | some s' => ∀ σ' f', Rel c Z H s' σ' f' → Fr Z H f Z H f' → But own σ σ' → Q σ' H
def gT (c : Cf) (tg : Tg) : TG := fun v σ H Q => ∃ Z s f d, Rel c Z H s σ f ∧ RD c Z H d v ∧ postG c (slots tg) σ Z H f (asg tg (.d d) s) Q
def gTs (c : Cf) (tgs : List Tg) : TGs := fun vs σ H Q => ∃ Z s f ds, Rel c Z H s σ f ∧ RDs c Z H ds vs ∧ postG c (slotss tgs) σ Z H f (asgs tgs ds s) Q
def SGt (T : At) (tg : Tg) (a : Expr) : Prop := PG T.X a (gT T.c tg)
def SGts (T : At) (tg : List Tg) (a : List Expr) : Prop := PGs T.X a (gTs T.c tg)
theorem PG.imp {X : Cx} {e : Expr} {t u : TG} (h : PG X e u) (i : ∀ v σ H Q, t v σ H Q → u v σ H Q) : PG X e t := ⟨fun pins s σ H v w Q I r hq => h.run pins s σ H v w Q I r (i v σ H Q hq)⟩
theorem PGs.imp {X : Cx} {e : List Expr} {t u : TGs} (h : PGs X e u) (i : ∀ v σ H Q, t v σ H Q → u v σ H Q) : PGs X e t := ⟨fun pins s σ H v w Q I r hq => h.run pins s σ H v w Q I r (i v σ H Q hq)⟩
theorem set_len {s : S} {i : Nat} {x : Option X} : (s.set i x).length = s.length := List.length_set
section
variable {T : At} {a : Expr} {as : List Expr} {pos : Pos}
theorem But.set {σ : L2.St} {i : Nat} {v : Option V} : But [i] σ (σ.set i v) := fun j hj => by rw [List.getElem?_set_ne (fun e => hj (by simp [e]))]
theorem But.trans {o1 o2 : List Nat} {σ σ1 σ2 : L2.St} (h : But o1 σ σ1) (h2 : But o2 σ1 σ2) : But (o1 ++ o2) σ σ2 := fun i hi => by
  rw [h2 i (fun z => hi (List.mem_append_right _ z)), h i (fun z => hi (List.mem_append_left _ z))]
/-- a name -/
theorem sg_n {i : Nat} {x : Str} (h : PG T.X (.Name x pos) (gName i)) (hi : i < T.X.N.length) : SGt T (.n i) (.Name x pos) := ⟨fun pins s σ H v u Q I r ⟨Z, s0, f, d, re, rd, p⟩ => h.run pins s σ H v u Q I r (by
  have hl : i < s0.length := by rw [re.len, I.len]; exact hi
  have p : ∀ σ' f', Rel T.c Z H (s0.set i (some (.d d))) σ' f' → Fr Z H f Z H f' → But [i] σ σ' → Q σ' H := p
  exact p _ _ (re.put hl (Tmp.d rd)) (Fr.put From.nil) But.set)⟩
theorem sg_ts0 : SGts T [] [] := PGs.imp pgs_nil fun vs σ H Q ⟨Z, s, f, ds, r, rd, p⟩ => by
  cases rd with
  | nil => exact ⟨rfl, p σ f r Fr.refl fun _ _ => rfl⟩
  | cons _ _ => exact p.elim
theorem sg_ts1 {t : Tg} {ts : List Tg} (h1 : SGt T t a) (h2 : SGts T ts as) (hs : (assignEach (a :: as) T.X.env).map (·.2) = assign a T.X.env :: (assignEach as T.X.env).map (·.2)) : SGts T (t :: ts) (a :: as) := PGs.imp (pgs_cons h1 h2 hs) fun vs σ H Q ⟨Z, s, f, ds, r, rd, p⟩ => by
  cases rd with
  | nil => exact p.elim
  | @cons d v l vs h3 h4 =>
    have p : postG T.c (slots t ++ slotss ts) σ Z H f ((asg t (.d d) s).bind (asgs ts l)) Q := p
    refine ⟨v, vs, rfl, Z, s, f, d, r, h3, ?_⟩
    cases q : asg t (.d d) s with
    | none => rw [q] at p; exact p.elim
    | some s' =>
      rw [q] at p
      intro σ' f' r' a' b'
      refine ⟨Z, s', f', l, r', h4, ?_⟩
      have p : postG T.c (slots t ++ slotss ts) σ Z H f (asgs ts l s') Q := p
      cases q2 : asgs ts l s' with
      | none => rw [q2] at p; exact p.elim
      | some s2 => rw [q2] at p; exact fun σ2 f2 r2 a2 b2 => p σ2 f2 r2 (a'.trans a2) (b'.trans b2)
/-- a tuple of targets -/
theorem sg_t {es : List Expr} {ts : List Tg} {k n : Nat} (hc : T.X.calm = true) (h : SGts T ts es) (hl : ts.length = n) (hn : (assignEach es T.X.env).length = n) (hst : (assignEach es T.X.env).findIdx? (·.1) = none) : SGt T (.t ts) (.Tuple es k pos) := PG.imp (pg_tup hc h hn hst) fun v σ H Q ⟨Z, s, f, d, r, rd, p⟩ => by
  cases d with
  | tuple l =>
    obtain ⟨a, vs, rfl, h1, h2⟩ := rd.sq
    have p : postG T.c (slotss ts) σ Z H f (asgs ts l s) Q := p
    refine ⟨a, vs, rfl, h1, ?_, Z, s, f, l, r, h2, p⟩
    have len : ∀ {ts : List Tg} {l : List D} {s : S} {s' : S}, asgs ts l s = some s' → l.length = ts.length := by
      intro ts
      induction ts with
      | nil => intro l s s' e; cases l with
        | nil => rfl
        | cons _ _ => cases e
      | cons t ts ih => intro l s s' e; cases l with
        | nil => cases e
        | cons d l =>
          have e : (asg t (.d d) s).bind (asgs ts l) = some s' := e
          obtain ⟨s1, _, e2⟩ := Option.bind_eq_some_iff.mp e
          simp [ih e2]
    rw [← h2.length, ← hl]
    cases q : asgs ts l s with
    | none => rw [q] at p; exact p.elim
    | some s' => exact len q
  | _ => exact p.elim
end

/-! ### iteration -/
/-- J yields these -/
def Yld (c : Cf) (J : It) (Z : Ad) (H : Hp) (ds : List D) : Prop := ∀ Z2 H2, Kp Z H Z2 H2 → (∀ i d, ds[i]? = some d → J.go i H2 ∧ ∀ v H3, J.yld i H2 v H3 → (∀ b o, H2 b = some o → H3 b = some o) ∧ RD c Z2 H3 d v) ∧ J.stop ds.length H2
def postI (c : Cf) (W : WX) (σ : L2.St) (Z : Ad) (H : Hp) (f : Fp) (r : R S X) (Q : It → Hp → Prop) : Prop := match r with
  | .ok x s' => ∃ ds, itemsD x = some ds ∧ ∀ (J : It) (Z' : Ad) (H' : Hp) (f' : Fp), Rel c Z' H' s' σ f' → Fr Z H f Z' H' f' → Yld c J Z' H' ds → Q J H'
  | .exc e s' => ∀ (Z' : Ad) (H' : Hp) (f' : Fp) (d : Option Addr), Rel c Z' H' s' σ f' → Fr Z H f Z' H' f' → ExD c Z' H' e d → W (c.L.cls e.cls) d σ H'
  | .stuck => False
def tI (c : Cf) (C : Calls) (G : List D) (W : WX) (e : E) : TI := fun σ H Q => ∃ Z s f, Rel c Z H s σ f ∧ postI c W σ Z H f (ev C G e s) Q
def SI (T : At) (tg : Expr) (e : E) (a : Expr) : Prop := PI T.X tg a (tI T.c T.C T.G T.W e)
theorem PI.imp {X : Cx} {tg e : Expr} {t u : TI} (h : PI X tg e u) (i : ∀ σ H Q, t σ H Q → u σ H Q) : PI X tg e t := ⟨fun pins s σ H Q I hq => h.run pins s σ H Q I (i σ H Q hq)⟩
/-- a list, a tuple, a text, a dict -/
def iAny (K : PySem.W.Frag) (te : TE) : TI := fun σ H R => te σ H fun x H1 => (∃ a, x = .ref a ∧ (∃ xs, SqL K H1 a xs) ∧ R (Itl K a) H1) ∨ (∃ a, x = .ref a ∧ (∃ xs, SqT K H1 a xs) ∧ R (Itt K a) H1) ∨ (∃ z, x = .str z ∧ R (Its z) H1) ∨
  ∃ a es vs, x = .ref a ∧ H1 a = some (dicO a es) ∧ Vals vs (es.map (·.key)) ∧ ∀ o, R (Itdk a o es vs) (upd H1 a (.frz o (dicO a es)))
section
variable {X : Cx} {tg e : Expr} {te : TE}
theorem pi_any (he : PE X e te) : PI X tg e (iAny X.K te) := by
  refine ⟨fun pins s σ H R I h => ?_⟩
  refine thn (he.run pins s σ H _ I h) fun v s1 ⟨x, H1, I1, r1, q1⟩ => ?_
  rcases q1 with ⟨a, e, ⟨xs, hq⟩, q⟩ | ⟨a, e, ⟨xs, hq⟩, q⟩ | ⟨z, e, q⟩ | ⟨a, es, vs, e, hp, hv, q⟩
  · subst e
    cases r1
    obtain ⟨its, rv, p, hz⟩ := I1.list hq
    refine wpAny_pyIter_list p.isList ?_
    refine ⟨s1.heap.objs.size, [s1.heap.objs.size], _, _, H1, rfl, I1.kept (t' := s1.toks) fun b o e => Heap.get?_push_of_some _ e, turn_list a _, ⟨_, Heap.get?_push_size _ rfl, rfl, rfl⟩, fun b hb => ?_, q⟩
    have e : b = s1.heap.objs.size := by simpa using hb
    subst e
    exact I1.fpOk (Nat.le_refl _) (I1.hok.fresh (Nat.le_refl _))
  · subst e
    cases r1
    obtain ⟨its, rv, p, hz⟩ := I1.tuple hq
    refine wpAny_pyIter_tuple (show s1.heap.IsTuple a its.toArray from p) ?_
    refine ⟨s1.heap.objs.size, [s1.heap.objs.size], _, _, H1, rfl, I1.kept (t' := s1.toks) fun b o e => Heap.get?_push_of_some _ e, turn_tuple a _, ⟨_, Heap.get?_push_size _ rfl, rfl, rfl⟩, fun b hb => ?_, q⟩
    have e : b = s1.heap.objs.size := by simpa using hb
    subst e
    exact I1.fpOk (Nat.le_refl _) (I1.hok.fresh (Nat.le_refl _))
  · subst e
    obtain ⟨t, rfl⟩ := r1
    cases ha : z.cps.all (· < 128)
    · exact wpAny_pyIter_wide ha (pi_one (tk := s1.toks) I1 _ (turn_str _ z t "str_iterator" (.inr rfl)) ⟨_, Heap.get?_push_size _ rfl, rfl, rfl⟩ q)
    · exact wpAny_pyIter_ascii ha (pi_one (tk := s1.toks) I1 _ (turn_str _ z t "str_ascii_iterator" (.inl rfl)) ⟨_, Heap.get?_push_size _ rfl, rfl, rfl⟩ q)
  · subst e
    cases r1
    exact run_dkeys I1 hp hv q
end
section
variable {c : Cf} {Z Z' : Ad} {H H' : Hp} {f f' : Fp} {s : S} {σ : L2.St}
/-- an owned object that waits is changed -/
theorem Rel.other {D : Addr} {o : HO} (r : Rel c Z H s σ f) (hf : ¬ inF f D) (hz : ¬ Z D) (ho : ∃ o, H D = some o ∧ Mp.own o = true) : Rel c Z (upd H D o) s σ f := by
  have kp : Kp Z H Z (upd H D o) := ⟨fun b u e _ h => by
    rw [upd_ne fun z => by
      subst z
      rcases h with h | h
      · obtain ⟨o', e', h'⟩ := ho
        rw [e] at e'; cases e'
        rw [h] at h'; cases h'
      · exact hz h]
    exact e, fun _ z => z⟩
  have ne : ∀ i b, b ∈ f i → b ≠ D := fun i b hb z => hf ⟨i, z ▸ hb⟩
  exact ⟨r.len, fun i x e => let ⟨v, e1, e2⟩ := r.at_ i x e; ⟨v, e1, e2.kp kp fun b hb o' e => by rw [upd_ne (ne i b hb)]; exact e⟩, r.nd, r.dj, r.nz, fun i b hb => let ⟨o', e, h⟩ := r.ow i b hb; ⟨o', by rw [upd_ne (ne i b hb)]; exact e, h⟩, fun b z => by
    by_cases e : b = D
    · subst e; exact absurd z hz
    · rw [upd_ne e]; exact r.zo b z, r.tb.upd fun u e => by
    obtain ⟨o', e', h'⟩ := ho
    rw [e] at e'; cases e'; exact h'⟩
theorem Fr.other {D : Addr} {o : HO} (a : Fr Z H f Z' H' f') (h : inF f D ∨ H D = none) (ho : ∃ o, H' D = some o ∧ Mp.own o = true) : Fr Z H f Z' (upd H' D o) f' :=
  ⟨fun b u e ht n => by
    rw [upd_ne fun z => by
      subst z
      rcases h with h | h
      · exact n h
      · rw [h] at e; cases e]
    exact a.keep b u e ht n, a.zz, a.znew, a.fnew, fun b z => by
    by_cases e : b = D
    · subst e; rw [upd_same]; exact fun z => nomatch z
    · rw [upd_ne e]; exact a.live b z, fun T t => (a.tb T t).upd fun u e => by
    obtain ⟨o', e', h'⟩ := ho
    rw [e] at e'; cases e'; exact h'⟩
theorem REs.len : ∀ {kvs : List (D × X)} {es : List DictEntry} {F : List Addr}, REs c Z H kvs es F → kvs.length = es.length
  | _, _, _, .nil => rfl
  | _, _, _, .cons _ _ _ _ _ h => by simp [REs.len h]
theorem REs.kvals : ∀ {kvs : List (D × X)} {es : List DictEntry} {F : List Addr}, REs c Z H kvs es F → ∃ vs, RDs c Z H (kvs.map (·.1)) vs ∧ Vals vs (es.map (·.key))
  | _, _, _, .nil => ⟨[], .nil, .nil⟩
  | _, _, _, .cons h1 h2 _ _ _ h => let ⟨vs, a, b⟩ := REs.kvals h; ⟨_ :: vs, .cons h1 a, .cons h2 b⟩
/-- the values, all data once they are frozen -/
theorem REs.vvals : ∀ {kvs : List (D × X)} {es : List DictEntry} {F : List Addr} {ds : List D}, REs c Z H kvs es F → dats? (kvs.map (·.2)) = some ds → ∃ vs, RDs c (fun b => Z b ∨ b ∈ F) H ds vs ∧ Vals vs (es.map (·.val))
  | _, _, _, _, .nil, e => by
    have e : some [] = some _ := e
    cases e
    exact ⟨[], .nil, .nil⟩
  | (k, x) :: r, _, _, ds, .cons (F := F1) (F' := F2) _ _ _ h3 h4 h, e => by
    have e : ((dat? x).bind fun v => (dats? (r.map (·.2))).map (v :: ·)) = some ds := e
    obtain ⟨d, e1, e2⟩ := Option.bind_eq_some_iff.mp e
    obtain ⟨l, e3, rfl⟩ := Option.map_eq_some_iff.mp e2
    obtain ⟨vs, a, b⟩ := REs.vvals h e3
    refine ⟨_ :: vs, .cons ((h3.frz (Z' := fun b => Z b ∨ b ∈ F1 ++ F2) ⟨fun _ _ e _ _ => e, fun _ z => .inl z⟩ e1 fun b hb => .inr (List.mem_append_left _ hb))) (a.kp ⟨fun _ _ e _ _ => e, fun _ z => z.imp id fun z => List.mem_append_right _ z⟩), .cons h4 b⟩
/-- a locked dict's -/
theorem Yld.dic {a : Addr} {o : Obj} {es : List DictEntry} {vs : List V} {ds : List D} (h : H a = some (.frz o (dicO a es))) (hd : RDs c Z H ds vs) (hl : es.length = ds.length) : Yld c (Itdk a o es vs) Z H ds := fun Z2 H2 k => by
  have h2 := k.keep a _ h rfl (.inl rfl)
  refine ⟨fun i d e => ⟨⟨h2, by rw [hl]; exact (List.getElem?_eq_some_iff.mp e).1⟩, fun v H3 ⟨e1, e2⟩ => ?_⟩, h2, by omega⟩
  subst e1
  obtain ⟨w, e3, e4⟩ := hd.get e
  rw [e2] at e3; cases e3
  exact ⟨fun _ _ e => e, e4.kp k⟩
theorem Kp.lock {a : Addr} {es : List DictEntry} {o : Obj} (h : H a = some (dicO a es)) (hz : ¬ Z a) : Kp Z H Z (upd H a (.frz o (dicO a es))) := ⟨fun b u e _ q => by
    rw [upd_ne fun z => by
      subst z
      rcases q with q | q
      · rw [h] at e; cases e; cases q
      · exact hz q]
    exact e, fun _ z => z⟩
end
section
variable {c : Cf} {Z : Ad} {H : Hp} {a : Addr} {vs : List V} {ds : List D}
/-- a list that stays -/
theorem Yld.list (hk : ∀ Z2 H2, Kp Z H Z2 H2 → SqL c.K H2 a vs) (hd : RDs c Z H ds vs) : Yld c (Itl c.K a) Z H ds := fun Z2 H2 k => by
  have h1 := hk Z2 H2 k
  refine ⟨fun i d e => ?_, vs, h1, by rw [hd.length]; exact Nat.le_refl _⟩
  obtain ⟨v, e1, e2⟩ := hd.get e
  refine ⟨⟨vs, v, h1, e1⟩, fun v' H3 ⟨e3, e4⟩ => ?_⟩
  subst e3
  have e5 := e4 vs (h1)
  rw [e1] at e5; cases e5
  exact ⟨fun _ _ e => e, e2.kp k⟩
theorem Yld.tup (h : SqT c.K H a vs) (hd : RDs c Z H ds vs) : Yld c (Itt c.K a) Z H ds := fun Z2 H2 k => by
  have h1 := SqT.kp k h
  refine ⟨fun i d e => ?_, vs, h1, by rw [hd.length]; exact Nat.le_refl _⟩
  obtain ⟨v, e1, e2⟩ := hd.get e
  refine ⟨⟨vs, v, h1, e1⟩, fun v' H3 ⟨e3, e4⟩ => ?_⟩
  subst e3
  have e5 := e4 vs h1
  rw [e1] at e5; cases e5
  exact ⟨fun _ _ e => e, e2.kp k⟩
theorem Yld.str {z : Str} (h : okS z) : Yld c (Its z) Z H (z.cps.toList.map fun c => .str ⟨#[c]⟩) := fun Z2 H2 k => by
  refine ⟨fun i d e => ?_, by simp [Its]⟩
  rw [List.getElem?_map] at e
  obtain ⟨c', e1, rfl⟩ := Option.map_eq_some_iff.mp e
  have hi : i < z.cps.size := by simpa using (List.getElem?_eq_some_iff.mp e1).1
  refine ⟨hi, fun v' H3 ⟨e3, c2, e4, e5⟩ => ?_⟩
  subst e3 e5
  have e6 : z.cps.toList[i]? = some c2 := by simpa using e4
  rw [e1] at e6; cases e6
  exact ⟨fun _ _ e => e, .str _ (okS_sub h (.inl (Nat.le_refl 1)) fun x hx => by simp at hx; subst hx; exact List.mem_of_getElem? e1)⟩
/-- a list as data: it stays -/
theorem RD.stays {l : List D} {v : V} (h : RD c Z H (.list l) v) : ∃ a vs, v = .ref a ∧ SqL c.K H a vs ∧ Yld c (Itl c.K a) Z H l := by
  cases h with
  | lstZ h1 h2 h3 => exact ⟨_, _, rfl, .inl (.inl h1), Yld.list (fun Z2 H2 k => .inl (.inl (k.keep _ _ h1 rfl (.inr h2)))) h3⟩
  | lstK h1 h2 h3 h4 => exact ⟨_, _, rfl, .inr ⟨_, _, _, h1, rfl, rfl, rfl, h2, h3⟩, Yld.list (fun Z2 H2 k => .inr ⟨_, _, _, h1, rfl, rfl, rfl, h2, h3⟩) h4⟩
  | lstF h1 h3 => exact ⟨_, _, rfl, .inl (.inr ⟨_, h1⟩), Yld.list (fun Z2 H2 k => .inl (.inr ⟨_, k.keep _ _ h1 rfl (.inl rfl)⟩)) h3⟩
end
section
variable {T : At} {e : E} {a tg : Expr} {pos p : Pos}
/-- over a value -/
theorem si_any (h : SE T e a) : SI T tg e a := PI.imp (pi_any h) fun σ H Q ⟨Z, s, f, r, p⟩ => by
  refine ⟨Z, s, f, r, ?_⟩
  cases q : ev T.C T.G e s with
  | ok x s' =>
    rw [q] at p
    obtain ⟨ds, hx, p⟩ := p
    intro v Z' H' f' r' a' ⟨F, t, fr⟩
    cases x with
    | d x =>
      cases x with
      | tuple l =>
        cases hx
        obtain ⟨b, vs, rfl, h1, h2⟩ := t.rx.tup
        exact .inr (.inl ⟨b, rfl, ⟨vs, h1⟩, p _ Z' H' f' r' a' (Yld.tup h1 h2)⟩)
      | list l =>
        cases hx
        cases t.rx with
        | d h =>
          obtain ⟨b, vs, rfl, h1, h2⟩ := h.stays
          exact .inl ⟨b, rfl, ⟨vs, h1⟩, p _ Z' H' f' r' a' h2⟩
      | str z =>
        cases hx
        obtain ⟨rfl, oz⟩ := t.rx.str
        exact .inr (.inr (.inl ⟨z, rfl, p _ Z' H' f' r' a' (Yld.str oz)⟩))
      | _ => cases hx
    | lst xs =>
      have hx : dats? xs = some ds := hx
      obtain ⟨r2, hd⟩ := t.freeze r' (show dat? (.lst xs) = some (.list ds) from by show (dats? xs).map PyData.list = _; rw [hx]; rfl)
      obtain ⟨b, vs, rfl, h1, h2⟩ := hd.stays
      exact .inl ⟨b, rfl, ⟨vs, h1⟩, p _ _ H' f' r2 (a'.frz fr) h2⟩
    | dic l =>
      cases hx
      have nz := t.nz
      have nf := t.nf
      cases t.rx with
      | @dic b es _ F1 hp dk hr =>
        obtain ⟨vs, hd, hv⟩ := hr.kvals
        refine .inr (.inr (.inr ⟨b, es, vs, rfl, hp, hv, fun o => ?_⟩))
        have zb := nz b List.mem_cons_self
        exact p _ Z' _ f' (r'.other (nf b List.mem_cons_self) zb ⟨_, hp, rfl⟩) (a'.other (fr b List.mem_cons_self) ⟨_, hp, rfl⟩) (Yld.dic upd_same (hd.kp (Kp.lock hp zb)) (by rw [List.length_map]; exact hr.len.symm))
    | _ => cases hx
  | exc e s' => rw [q] at p; exact p
  | stuck => rw [q] at p; exact p
/-- range(n) -/
theorem si_range (hg : Gl T.X "range") (hm : T.X.mg "range" = none) (h : SV T e a) (hs : starEach [a] T.X.env = [(false, eval a T.X.env)]) : SI T tg (.range e) (.Call (.Name "range" p) [a] [] pos) := PI.imp (pi_range1 hg hm (pa_cons h pa_nil hs) hs) fun σ H Q ⟨Z, s, f, r, p⟩ => by
  have p : postI T.c T.W σ Z H f ((ev T.C T.G e s).bind rangeOp) Q := p
  refine ⟨Z, s, f, r, ?_⟩
  cases q : ev T.C T.G e s with
  | ok x s' =>
    rw [q] at p
    have p : postI T.c T.W σ Z H f (rangeOp x s') Q := p
    intro v Z' H' f' r' a' ⟨F, t⟩
    cases x with
    | d x =>
      cases x with
      | int n =>
        have p : postI T.c T.W σ Z H f (if -lim ≤ n ∧ n ≤ lim then .ok (.lst ((List.range n.toNat).map fun (i : Nat) => Mp.X.d (.int (i : Int)))) s' else .stuck) Q := p
        split at p
        · rename_i hn
          obtain ⟨ds, e1, p⟩ := p
          have e2 : dats? ((List.range n.toNat).map fun i : Nat => Mp.X.d (.int (i : Int))) = some ds := e1
          rw [dats_map (fun i : Nat => PyData.int (i : Int))] at e2
          cases e2
          refine ⟨n, by rw [t.int], by unfold lim at hn; omega, by unfold lim at hn; omega, p _ Z' H' f' r' a' fun Z2 H2 k => ⟨fun i d e => ?_, ?_⟩⟩
          · rw [List.getElem?_map] at e
            obtain ⟨j, e3, rfl⟩ := Option.map_eq_some_iff.mp e
            obtain ⟨hj, e4⟩ := List.getElem?_eq_some_iff.mp e3
            have hj : i < n.toNat := by simpa using hj
            have e4 : i = j := by simpa using e4
            subst e4
            refine ⟨hj, fun v' H3 ⟨e5, e6⟩ => ?_⟩
            subst e5 e6
            rw [Int.zero_add]
            exact ⟨fun _ _ e => e, .int _⟩
          · show n.toNat ≤ _
            simp
        · exact p.elim
      | _ => exact p.elim
    | _ => exact p.elim
  | exc e s' => rw [q] at p; exact p
  | stuck => rw [q] at p; exact p
end
end Mp
set_option maxHeartbeats 1000000
/-! Ext4: over zip(x, y): two lists, two tuples. -/
namespace Mp
open PySem PySem.Spec PyProof.Rows L2
section
variable {c : Cf} {Z : Ad} {H : Hp} {a : Addr} {vs : List V} {ds : List D}
theorem RD.stay {l : List D} {v : V} (h : RD c Z H (.list l) v) : ∃ a vs, v = .ref a ∧ (∀ Z2 H2, Kp Z H Z2 H2 → SqL c.K H2 a vs) ∧ RDs c Z H l vs := by
  cases h with
  | lstZ h1 h2 h3 => exact ⟨_, _, rfl, (fun Z2 H2 k => .inl (.inl (k.keep _ _ h1 rfl (.inr h2)))), h3⟩
  | lstK h1 h2 h3 h4 => exact ⟨_, _, rfl, (fun Z2 H2 k => .inr ⟨_, _, _, h1, rfl, rfl, rfl, h2, h3⟩), h4⟩
  | lstF h1 h3 => exact ⟨_, _, rfl, (fun Z2 H2 k => .inl (.inr ⟨_, k.keep _ _ h1 rfl (.inl rfl)⟩)), h3⟩
theorem pairs2_get : ∀ {a b : List D} {i : Nat} {d : D}, (pairs2 a b)[i]? = some d → ∃ x y, d = .tuple [x, y] ∧ a[i]? = some x ∧ b[i]? = some y
  | [], _, _, _, e => by simp [pairs2] at e
  | _ :: _, [], _, _, e => by simp [pairs2] at e
  | x :: a, y :: b, 0, d, e => by
    have e : some (PyData.tuple [x, y]) = some d := e
    cases e
    exact ⟨x, y, rfl, rfl, rfl⟩
  | x :: a, y :: b, i + 1, d, e => by
    obtain ⟨x', y', h1, h2, h3⟩ := pairs2_get (a := a) (b := b) (i := i) (d := d) e
    exact ⟨x', y', h1, h2, h3⟩
theorem pairs2_len : ∀ (a b : List D), (pairs2 a b).length = min a.length b.length
  | [], _ => by simp [pairs2]
  | _ :: _, [] => by simp [pairs2]
  | x :: a, y :: b => by
    show (pairs2 a b).length + 1 = _
    rw [pairs2_len a b]
    simp only [List.length_cons]
    omega
theorem pair_rd {x y : D} {v w : V} {T : Addr} (h1 : RD c Z H x v) (h2 : RD c Z H y w) (hT : H T = none) : RD c Z (upd H T (.tup [v, w])) (.tuple [x, y]) (.ref T) :=
  .tup (.inl (.inl upd_same)) ((RDs.cons h1 (.cons h2 .nil)).kp (kp_ext (ext_upd hT)))
theorem Yld.zip {b : Addr} {ws : List V} {es : List D} (h1 : ∀ Z2 H2, Kp Z H Z2 H2 → SqL c.K H2 a vs) (h2 : RDs c Z H ds vs) (h3 : ∀ Z2 H2, Kp Z H Z2 H2 → SqL c.K H2 b ws) (h4 : RDs c Z H es ws) : Yld c (Itz c.K a b) Z H (pairs2 ds es) := fun Z2 H2 k => by
  have s1 := h1 Z2 H2 k
  have s2 := h3 Z2 H2 k
  refine ⟨fun i d e => ?_, vs, ws, s1, s2, ?_⟩
  · obtain ⟨x, y, rfl, e1, e2⟩ := pairs2_get e
    obtain ⟨v, f1, r1⟩ := h2.get e1
    obtain ⟨w, f2, r2⟩ := h4.get e2
    refine ⟨⟨vs, ws, v, w, s1, s2, f1, f2⟩, fun u H3 ⟨T, x', y', q1, q2, q3, q4, q5⟩ => ?_⟩
    subst q1 q3
    have e3 := q4 vs s1
    have e4 := q5 ws s2
    rw [f1] at e3; rw [f2] at e4; cases e3; cases e4
    exact ⟨ext_upd q2, pair_rd (r1.kp k) (r2.kp k) q2⟩
  · rw [pairs2_len, h2.length, h4.length]
    omega
theorem Yld.zipT {b : Addr} {ws : List V} {es : List D} (h1 : SqT c.K H a vs) (h2 : RDs c Z H ds vs) (h3 : SqT c.K H b ws) (h4 : RDs c Z H es ws) : Yld c (RZ.ItzT c.K a b) Z H (pairs2 ds es) := fun Z2 H2 k => by
  have s1 := SqT.kp k h1
  have s2 := SqT.kp k h3
  refine ⟨fun i d e => ?_, vs, ws, s1, s2, ?_⟩
  · obtain ⟨x, y, rfl, e1, e2⟩ := pairs2_get e
    obtain ⟨v, f1, r1⟩ := h2.get e1
    obtain ⟨w, f2, r2⟩ := h4.get e2
    refine ⟨⟨vs, ws, v, w, s1, s2, f1, f2⟩, fun u H3 ⟨T, x', y', q1, q2, q3, q4, q5⟩ => ?_⟩
    subst q1 q3
    have e3 := q4 vs s1
    have e4 := q5 ws s2
    rw [f1] at e3; rw [f2] at e4; cases e3; cases e4
    exact ⟨ext_upd q2, pair_rd (r1.kp k) (r2.kp k) q2⟩
  · rw [pairs2_len, h2.length, h4.length]
    omega
end
section
variable {T : At} {e e1 e2 : E} {a b tg : Expr} {pos p tpos : Pos} {elts : List Expr} {kk : Nat}
theorem ev_zip {C : Calls} {G : List D} {s : S} (hk : pk? e1 = none) (n1 : isStar e1 = false) (n2 : isStar e2 = false) : ev C G (.b .zip e1 e2) s = (evs C G [e1, e2] s).bind fun xs s => match xs with
    | [x, y] => ofO (bZip x y) s
    | _ => .stuck := by
  rw [evs_cons C G _ _ _ n1]
  have : ev C G (.b .zip e1 e2) s = (ev C G e1 s).bind fun x s => (ev C G e2 s).bind fun y s => ofO (bZip x y) s := by
    show (match pk? e1 with
    | some i => _
    | none => _) = _
    rw [hk]
    rfl
  rw [this]
  cases q : ev C G e1 s with
  | ok x s' =>
    show (ev C G e2 s').bind _ = ((evs C G [e2] s').bind _).bind _
    rw [evs_cons C G _ _ _ n2]
    cases q2 : ev C G e2 s' with
    | ok y s2 => rfl
    | exc e s2 => rfl
    | stuck => rfl
  | exc e s' => rfl
  | stuck => rfl
theorem tupD_some {x : Mp.X} {l : List D} (h : tupD x = some l) : x = .d (.tuple l) := by
  unfold tupD at h
  split at h
  · cases h; rfl
  · cases h
theorem lsD_some {x : Mp.X} {l : List D} (h : lsD x = some l) : dat? x = some (.list l) := by
  unfold lsD at h
  split at h
  · cases h; rfl
  · show (dats? _).map PyData.list = _
    rw [h]; rfl
  · cases h
theorem bZip_some {x y r : Mp.X} (h : bZip x y = some r) : ∃ l m, r = zip2 l m ∧ ((x = .d (.tuple l) ∧ y = .d (.tuple m)) ∨ (dat? x = some (.list l) ∧ dat? y = some (.list m))) := by
  unfold bZip at h
  split at h
  · rename_i l m h1 h2
    cases h
    exact ⟨l, m, rfl, .inl ⟨tupD_some h1, tupD_some h2⟩⟩
  · obtain ⟨l, h1, h2⟩ := Option.bind_eq_some_iff.mp h
    obtain ⟨m, h3, rfl⟩ := Option.map_eq_some_iff.mp h2
    exact ⟨l, m, rfl, .inr ⟨lsD_some h1, lsD_some h3⟩⟩
theorem si_zip (hk : pk? e1 = none) (n1 : isStar e1 = false) (n2 : isStar e2 = false) (hg : Gl T.X "zip") (hm : T.X.mg "zip" = none) (h : SA T [e1, e2] [a, b])
    (hs : starEach [a, b] T.X.env = (false, eval a T.X.env) :: starEach [b] T.X.env := by rfl) (hpl : (backTo pos (starEach [b] T.X.env)).any (·.1) = false := by rfl) :
    SI T (.Tuple elts kk tpos) (.b .zip e1 e2) (.Call (.Name "zip" p) [a, b] [] pos) := PI.imp (RZ.pi_zipA hg hm h hs hpl) fun σ H Q ⟨Z, s, f, r, p⟩ => by
  rw [ev_zip hk n1 n2] at p
  refine ⟨Z, s, f, r, ?_⟩
  cases q : evs T.C T.G [e1, e2] s with
  | ok xs s' =>
    rw [q] at p
    intro vs Z' H' f' r' a' ⟨F, t, fr⟩
    match xs, p, t with
    | [], p, _ => exact p.elim
    | [_], p, _ => exact p.elim
    | _ :: _ :: _ :: _, p, _ => exact p.elim
    | [x, y], p, t =>
      have pB : postI T.c T.W σ Z H f (ofO (bZip x y) s') Q := p
      clear p
      cases qz : bZip x y with
      | none => rw [qz] at pB; exact pB.elim
      | some z =>
        rw [qz] at pB
        obtain ⟨ds, e3, pC⟩ := pB
        obtain ⟨l, m, rfl, hz⟩ := bZip_some qz
        have e4 : dats? ((pairs2 l m).map Mp.X.d) = some ds := e3
        rw [dats_d] at e4
        cases e4
        have nd := t.nd
        have nz := t.nz
        have nf := t.nf
        cases t.rx with
        | @cons _ v _ vs2 F1 F2 g1 g2 =>
          cases g2 with
          | @cons _ w _ vs3 F3 F4 g3 g4 =>
            cases g4
            rw [List.append_nil] at nd nz nf fr
            have nd' := List.nodup_append.mp nd
            rcases hz with ⟨rfl, rfl⟩ | ⟨h1, h2⟩
            · obtain ⟨a1, vs1, rfl, i1, i2⟩ := g1.tup
              obtain ⟨a2, vs2, rfl, i3, i4⟩ := g3.tup
              exact ⟨a1, a2, vs1, vs2, rfl, .inr ⟨i1, i3, pC _ Z' H' f' r' a' (Yld.zipT i1 i2 i3 i4)⟩⟩
            · have t1 : Tmp T.c Z' H' f' x v F1 := ⟨g1, nd'.1, fun b hb => nz b (List.mem_append_left _ hb), fun b hb => nf b (List.mem_append_left _ hb)⟩
              obtain ⟨r2, k1⟩ := t1.freeze r' h1
              have kp : Kp Z' H' (fun b => Z' b ∨ b ∈ F1) H' := ⟨fun _ _ e _ _ => e, fun _ z => .inl z⟩
              have t2 : Tmp T.c (fun b => Z' b ∨ b ∈ F1) H' f' y w F3 := ⟨g3.kp kp fun _ _ _ e => e, nd'.2.1, fun b hb z => z.elim (nz b (List.mem_append_right _ hb)) fun z => nd'.2.2 b z b hb rfl, fun b hb => nf b (List.mem_append_right _ hb)⟩
              obtain ⟨r3, k2⟩ := t2.freeze r2 h2
              have k1 := k1.kp (Z' := fun b => (Z' b ∨ b ∈ F1) ∨ b ∈ F3) (H' := H') ⟨fun _ _ e _ _ => e, fun _ z => .inl z⟩
              obtain ⟨a1, vs1, rfl, i1, i2⟩ := k1.stay
              obtain ⟨a2, vs2, rfl, i3, i4⟩ := k2.stay
              have kr : Kp (fun b => (Z' b ∨ b ∈ F1) ∨ b ∈ F3) H' (fun b => (Z' b ∨ b ∈ F1) ∨ b ∈ F3) H' := ⟨fun _ _ e _ _ => e, fun _ z => z⟩
              exact ⟨a1, a2, vs1, vs2, rfl, .inl ⟨i1 _ _ kr, i3 _ _ kr, pC _ _ H' f' r3 ((a'.frz fun b hb => fr b (List.mem_append_left _ hb)).frz fun b hb => fr b (List.mem_append_right _ hb)) (Yld.zip i1 i2 i3 i4)⟩⟩
  | exc e s' => rw [q] at p; exact p
  | stuck => rw [q] at p; exact p
end
end Mp
set_option maxHeartbeats 1000000
/-! Ext5: over enumerate(x): a list, a tuple. -/
namespace PySem
open Sem (wp)
open AutoSeq1 (wpAny_loadPart')
set_option maxHeartbeats 2000000 in
theorem mp_enum_new1 {v : Value} {o : Obj} {H : Heap → Prop} (B : Begins v o H) :
    Meets (Builtin.«enumerate.__new__» ⟨[.type "enumerate", v], []⟩) (fun _ R s => H s.heap ∧
      R (.ok (.ret (.ref (s.heap.push o).objs.size))) { s with heap := (s.heap.push o).push { cls := .type "enumerate", data := .fields #[.none, .bool false, .ref s.heap.objs.size, rawInt 0, .none, .none] } }) :=
  .of_wp fun prog w A R s h => by
    obtain ⟨hp, g, d, tk, os⟩ := s; obtain ⟨h1, h⟩ := h
    have hsub := sub_enumerate
    have q1 : ∀ {A' : Around} {E : Value → Shared → Prop} {Q : Value → Shared → Prop}, Q (.ref hp.objs.size) ⟨hp.push o, g, d, tk, os⟩ → wpAny (model prog w) A' (pyIter v) Q E ⟨hp, g, d, tk, os⟩ :=
      fun q => B.iter prog w _ _ ⟨hp, g, d, tk, os⟩ _ h1 q
    wp_walk using q1
    refine wpAny_stack_any fun st => wpAny_pure ?_
    split
    · rename_i c _ _ _ _ _
      cases (c == Value.type "enumerate")
      · wp_walk using q1
        exact ⟨_, rfl, h⟩
      · wp_walk using q1
        exact ⟨_, rfl, h⟩
    · wp_walk using q1
      exact ⟨_, rfl, h⟩
theorem mp_call_enum {prog : Program} {w : World} {A : Around} {E : Value → Shared → Prop} {s : Shared} {v : Value} {o : Obj} {H : Heap → Prop} {Q : Value → Shared → Prop} (B : Begins v o H) (h1 : H s.heap)
    (h : ∀ h', IsEnum h' (s.heap.objs.size + 1) s.heap.objs.size 0 .none → h'.get? s.heap.objs.size = some o → h'.objs.size = s.heap.objs.size + 2 →
      (∀ b o, s.heap.get? b = some o → h'.get? b = some o) → Q (.ref (s.heap.objs.size + 1)) { s with heap := h' }) :
    wpAny (model prog w) A (call (.type "enumerate") [v]) Q E s := by
  refine callType_new F.called_enumerate (by decide) (F.typeCall_enumerate_1 _) (F.newCall_enumerate_1 _) (fun obj => F.args_object_init_2 obj _) F.entry_enumerate_new
    (mp_enum_new1 B) ⟨h1, ?_⟩
  have hz : (s.heap.push o).objs.size = s.heap.objs.size + 1 := Heap.size_push ..
  show _ ∧ _
  rw [hz]
  have he : IsEnum ((s.heap.push o).push { cls := .type "enumerate", data := .fields #[.none, .bool false, .ref s.heap.objs.size, rawInt 0, .none, .none] }) (s.heap.objs.size + 1) s.heap.objs.size 0 .none := by
    have := Heap.get?_push_size (s.heap.push o) (o := { cls := .type "enumerate", data := .fields #[.none, .bool false, .ref s.heap.objs.size, rawInt 0, .none, .none] }) rfl
    rw [hz] at this; exact this
  refine ⟨⟨_, he, rfl⟩, h _ he (Heap.get?_push_of_some _ (Heap.get?_push_size _ B.free)) (by rw [Heap.size_push, hz]) fun b o x => Heap.get?_push_of_some _ (Heap.get?_push_of_some _ x)⟩
end PySem
namespace Mp
open PySem PySem.Spec PyProof.Rows L2
/-- the tuple at a as it stands at each turn, each item in a new pair -/
def IteT (K : PySem.W.Frag) (a : Addr) : It :=
  ⟨fun i H => ∃ (xs : List V) (x : V), SqT K H a xs ∧ xs[i]? = some x, fun i H v H' => ∃ T x, v = .ref T ∧ H T = none ∧ H' = upd H T (.tup [.int (i : Nat), x]) ∧ ∀ xs, SqT K H a xs → xs[i]? = some x, fun i H => ∃ xs : List V, SqT K H a xs ∧ xs.length = i⟩
theorem tupIter_at {h h' : Heap} {it a : Addr} {i : Nat} (x : h.IsTupleIter it a i) (k : ∀ o, h.get? it = some o → h'.get? it = some o) : h'.IsTupleIter it a i :=
  let ⟨o, ho, r⟩ := x; ⟨o, k o ho, r⟩
theorem turn_enumT {P : Program} {w : World} {K : PySem.W.Frag} {elts : List Expr} {kk : Nat} {tpos : Pos} (a e it : Addr) :
    Turn P w K (.Tuple elts kk tpos) (IteT K a) [e, it] e (fun i h => (∃ old, IsEnum h e it ((i : Nat) : Int) old) ∧ h.IsTupleIter it a i ∧ e ≠ it) where
  mem := by simp
  obj := fun i h st b hb => by
    obtain ⟨⟨old, he⟩, ⟨o, ho, hc, hd⟩, _⟩ := st
    have e' : b = e ∨ b = it := by simpa using hb
    rcases e' with z | z
    · rw [z]; exact ⟨_, he, fun v q => nomatch q⟩
    · rw [z]; exact ⟨o, ho, fun v q => by rw [hd] at q; cases q⟩
  keep := fun i h h' st k => let ⟨⟨old, he⟩, hi, hne⟩ := st; ⟨⟨old, k e (by simp) _ he⟩, tupIter_at hi fun o q => k it (by simp) o q, hne⟩
  item := by
    intro X hP hw hK hc i pins s σ H E I hf st hg
    subst hP hw hK
    obtain ⟨⟨old, he⟩, hit, hne⟩ := st
    obtain ⟨xs, x, hq, hx⟩ := hg
    obtain ⟨its, rv, p, hz⟩ := I.tuple hq
    obtain ⟨u, hu, ru⟩ := rv.get hx
    have hel : e < s.heap.objs.size := Heap.lt_size he
    have hil : it < s.heap.objs.size := by obtain ⟨_, q, _⟩ := hit; exact Heap.lt_size q
    obtain ⟨oa, ha, hac, _⟩ := id p
    have hai : a ≠ it := fun z => by
      obtain ⟨oi, hi, hic, _⟩ := hit
      subst z
      rw [ha] at hi; cases hi
      rw [hac] at hic
      exact absurd (Value.type.inj hic) (by decide)
    have hae : a ≠ e := fun z => by
      subst z
      have he' : s.heap.get? a = some _ := he
      rw [ha] at he'; cases he'
      exact absurd (Value.type.inj hac) (by decide)
    have hlt : i < its.toArray.size := by
      have := (List.getElem?_eq_some_iff.mp hu).1
      simpa using this
    refine wpAny_pyNext_enum_itemD (Draws.tuple (A := X.A.in1) (show X.A.handled = none from I.ok.hd hc) it a hai its.toArray) he ⟨hit, p⟩ hlt hne (by simp [hne, Ne.symm hae]) fun y h' tk hy ho ⟨hit', p'⟩ hT hsz hk => ?_
    have hy : its[i]? = some y := by simpa using hy
    rw [hu] at hy; cases hy
    refine ⟨_, rfl, wpAny_letOwnedTupleGo_enum (s := { s with heap := h', toks := tk + 1 }) ho fun h'' he' sb => ?_⟩
    have hT2 : h''.get? s.heap.objs.size = some { cls := .type "tuple", data := .seq #[.int i tk, u] } := (sb.2 _ (Nat.ne_of_gt hel)).trans hT
    have new : ObjOk X.prog X.w (upd H s.heap.objs.size (.tup [.int (i : Nat), x])) h'' s.heap.objs.size (.tup [.int (i : Nat), x]) :=
      ⟨by show 2 ≤ sizeLine; decide, [.int i tk, u], .cons ⟨_, rfl⟩ (.cons ru .nil), ⟨_, hT2, rfl, _, rfl⟩⟩
    have I1 : Inv X pins σ (upd H s.heap.objs.size (.tup [.int (i : Nat), x])) { s with heap := h'', toks := tk + 1 } :=
      I.turnedNew (ch := [e, it]) (fun b ob hb q => (sb.2 b (fun z => hb (by simp [z]))).trans (hk b ob (fun z => hb (by simp [z])) (fun z => hb (by simp [z])) q)) hf (Nat.le_refl _) new
    refine ⟨.ref s.heap.objs.size, _, I1, rfl, ⟨_, x, rfl, I.hok.fresh (Nat.le_refl _), rfl, fun ys hy => by rw [I.tuple_inj hy hq]; exact hx⟩, ⟨⟨u, ?_⟩, tupIter_at hit' fun o q => (sb.2 it (Ne.symm hne)).trans q, hne⟩, fun b hb => ?_⟩
    · have e1 : ((i + 1 : Nat) : Int) = (i : Int) + 1 := by omega
      rw [e1]; exact he'
    · have hb' : b < s.heap.objs.size := by
        have e' : b = e ∨ b = it := by simpa using hb
        rcases e' with z | z
        · rw [z]; exact hel
        · rw [z]; exact hil
      rw [upd_ne (Nat.ne_of_lt hb')]
      exact (hf b hb).1
  done := by
    intro X hP hw hK hc i pins s σ H E I hf st hg
    subst hP hw hK
    obtain ⟨⟨old, he⟩, hit, hne⟩ := st
    obtain ⟨xs, hq, hx⟩ := hg
    obtain ⟨its, rv, p, hz⟩ := I.tuple hq
    obtain ⟨f0, f1, f2, f3, f4, f5⟩ := hf it (by simp)
    have hl := rv.length
    obtain ⟨oa, ha, hac, _⟩ := id p
    have hai : a ≠ it := fun z => by
      obtain ⟨oi, hi, hic, _⟩ := hit
      subst z
      rw [ha] at hi; cases hi
      rw [hac] at hic
      exact absurd (Value.type.inj hic) (by decide)
    have e1 : its.toArray.size = i := by simp; omega
    subst e1
    exact wpAny_pyNext_enum_endD (Draws.tuple (A := X.A.in1) (show X.A.handled = none from I.ok.hd hc) it a hai its.toArray) he ⟨hit, p⟩ fun h' eb => ⟨rfl, I.turned (t' := s.toks) (fun b o hb q => eb b o hb q) f0 f1 f3 f4 f5⟩
  self := fun A i s Q E st h => let ⟨⟨_, he⟩, _⟩ := st; wpAny_pyIter_enum he h
def iEnumA (K : PySem.W.Frag) (ta : TA) : TI := fun σ H R => ta σ H fun vs H1 => ∃ a xs, vs = [.ref a] ∧ ((SqL K H1 a xs ∧ R (Ite K a) H1) ∨ (SqT K H1 a xs ∧ R (IteT K a) H1))
theorem pi_enumA {X : Cx} {e : Expr} {ta : TA} {p pos tpos : Pos} {elts : List Expr} {kk : Nat} (hg : Gl X "enumerate") (hm : X.mg "enumerate" = none) (ha : PA X [e] ta) (hs : starEach [e] X.env = [(false, eval e X.env)] := by rfl) :
    PI X (.Tuple elts kk tpos) (.Call (.Name "enumerate" p) [e] [] pos) (iEnumA X.K ta) := by
  refine ⟨fun pins s σ H R I h => ?_⟩
  refine Call_ (ld_blt I hg hm boot_enumerate (PyProof.Rows.callWith_type1 (thn (ha.run pos pins s σ H _ I h) fun us s1 ⟨vs, H1, I1, r1, q1⟩ => ?_) hs rfl))
  obtain ⟨a, xs, ex, q⟩ := q1
  subst ex
  cases r1 with
  | cons r rr =>
    cases rr
    cases r
    rcases q with ⟨hq, q⟩ | ⟨hq, q⟩
    · obtain ⟨its, rv, p', hz⟩ := I1.list hq
      refine call_enumerate_list p'.isList fun h' he hit hsz hk => wpAny_pyIter_enum he ?_
      have I2 : Inv X pins σ H1 { s1 with heap := h' } := I1.kept (t' := s1.toks) hk
      refine ⟨s1.heap.objs.size + 1, [s1.heap.objs.size + 1, s1.heap.objs.size], _, _, H1, rfl, I2, turn_enum a (s1.heap.objs.size + 1) s1.heap.objs.size, ⟨⟨.none, he⟩, hit, Nat.succ_ne_self _⟩, fun b hb => ?_, q⟩
      have e' : b = s1.heap.objs.size + 1 ∨ b = s1.heap.objs.size := by simpa using hb
      have hle : s1.heap.objs.size ≤ b := by
        rcases e' with z | z
        · rw [z]; exact Nat.le_add_right _ _
        · rw [z]; exact Nat.le_refl _
      exact I1.fpOk hle (I1.hok.fresh hle)
    · obtain ⟨its, rv, p', hz⟩ := I1.tuple hq
      refine mp_call_enum (begins_tuple a its.toArray) p' fun h' he hit hsz hk => wpAny_pyIter_enum he ?_
      have I2 : Inv X pins σ H1 { s1 with heap := h' } := I1.kept (t' := s1.toks) hk
      refine ⟨s1.heap.objs.size + 1, [s1.heap.objs.size + 1, s1.heap.objs.size], _, _, H1, rfl, I2, turn_enumT a (s1.heap.objs.size + 1) s1.heap.objs.size, ⟨⟨.none, he⟩, ⟨_, hit, rfl, rfl⟩, Nat.succ_ne_self _⟩, fun b hb => ?_, q⟩
      have e' : b = s1.heap.objs.size + 1 ∨ b = s1.heap.objs.size := by simpa using hb
      have hle : s1.heap.objs.size ≤ b := by
        rcases e' with z | z
        · rw [z]; exact Nat.le_add_right _ _
        · rw [z]; exact Nat.le_refl _
      exact I1.fpOk hle (I1.hok.fresh hle)
section
variable {c : Cf} {Z : Ad} {H : Hp} {a : Addr} {vs : List V} {ds : List D}
theorem numbered_get : ∀ {a : List D} {n i : Nat} {d : D}, (numbered n a)[i]? = some d → ∃ x, d = .tuple [.int ((n + i : Nat) : Int), x] ∧ a[i]? = some x
  | [], _, _, _, e => by simp [numbered] at e
  | x :: a, n, 0, d, e => by
    have e : some (PyData.tuple [.int n, x]) = some d := e
    cases e
    exact ⟨x, rfl, rfl⟩
  | x :: a, n, i + 1, d, e => by
    obtain ⟨x', h1, h2⟩ := numbered_get (a := a) (n := n + 1) (i := i) (d := d) e
    exact ⟨x', by rw [h1, show n + 1 + i = n + (i + 1) by omega], h2⟩
theorem numbered_len : ∀ (n : Nat) (a : List D), (numbered n a).length = a.length
  | _, [] => rfl
  | n, x :: a => by
    show (numbered (n + 1) a).length + 1 = _
    rw [numbered_len (n + 1) a]
    rfl
theorem Yld.enum (h1 : ∀ Z2 H2, Kp Z H Z2 H2 → SqL c.K H2 a vs) (h2 : RDs c Z H ds vs) : Yld c (Ite c.K a) Z H (numbered 0 ds) := fun Z2 H2 k => by
  have s1 := h1 Z2 H2 k
  refine ⟨fun i d e => ?_, vs, s1, by rw [numbered_len, h2.length]; exact Nat.le_refl _⟩
  obtain ⟨x, rfl, e1⟩ := numbered_get e
  obtain ⟨v, f1, r1⟩ := h2.get e1
  refine ⟨⟨vs, v, s1, f1⟩, fun u H3 ⟨T, x', q1, q2, q3, q4⟩ => ?_⟩
  subst q1 q3
  have e3 := q4 vs s1
  rw [f1] at e3; cases e3
  rw [Nat.zero_add]
  exact ⟨ext_upd q2, pair_rd (.int _) (r1.kp k) q2⟩
theorem Yld.enumT (h1 : SqT c.K H a vs) (h2 : RDs c Z H ds vs) : Yld c (IteT c.K a) Z H (numbered 0 ds) := fun Z2 H2 k => by
  have s1 := SqT.kp k h1
  refine ⟨fun i d e => ?_, vs, s1, by rw [numbered_len, h2.length]⟩
  obtain ⟨x, rfl, e1⟩ := numbered_get e
  obtain ⟨v, f1, r1⟩ := h2.get e1
  refine ⟨⟨vs, v, s1, f1⟩, fun u H3 ⟨T, x', q1, q2, q3, q4⟩ => ?_⟩
  subst q1 q3
  have e3 := q4 vs s1
  rw [f1] at e3; cases e3
  rw [Nat.zero_add]
  exact ⟨ext_upd q2, pair_rd (.int _) (r1.kp k) q2⟩
end
section
variable {T : At} {e : E} {a tg : Expr} {pos p tpos : Pos} {elts : List Expr} {kk : Nat}
theorem si_enum (hg : Gl T.X "enumerate") (hm : T.X.mg "enumerate" = none) (h : SE T e a) (hs : starEach [a] T.X.env = [(false, eval a T.X.env)] := by rfl) :
    SI T (.Tuple elts kk tpos) (.enum e) (.Call (.Name "enumerate" p) [a] [] pos) := PI.imp (pi_enumA hg hm (pa_cons h pa_nil hs) hs) fun σ H Q ⟨Z, s, f, r, p⟩ => by
  have p : postI T.c T.W σ Z H f ((ev T.C T.G e s).bind kEnum) Q := p
  refine ⟨Z, s, f, r, ?_⟩
  cases q : ev T.C T.G e s with
  | ok x s' =>
    rw [q] at p
    have pB : postI T.c T.W σ Z H f (ofO ((seqD x).map fun ds => Mp.X.lst ((numbered 0 ds).map Mp.X.d)) s') Q := p
    clear p
    intro v Z' H' f' r' a' ⟨F, t, fr⟩
    cases qz : seqD x with
    | none => rw [qz] at pB; exact pB.elim
    | some l =>
      rw [qz] at pB
      obtain ⟨ds, e3, pC⟩ := pB
      have e4 : dats? ((numbered 0 l).map Mp.X.d) = some ds := e3
      rw [dats_d] at e4
      cases e4
      have lst : dat? x = some (.list l) → ∃ b xs, [v] = [V.ref b] ∧ ((SqL T.X.K H' b xs ∧ Q (Ite T.X.K b) H') ∨ (SqT T.X.K H' b xs ∧ Q (IteT T.X.K b) H')) := fun hd => by
        obtain ⟨r2, k1⟩ := t.freeze r' hd
        obtain ⟨b, vs, rfl, i1, i2⟩ := k1.stay
        have kr : Kp (fun b => Z' b ∨ b ∈ F) H' (fun b => Z' b ∨ b ∈ F) H' := ⟨fun _ _ e _ _ => e, fun _ z => z⟩
        exact ⟨b, vs, rfl, .inl ⟨i1 _ _ kr, pC _ _ H' f' r2 (a'.frz fr) (Yld.enum i1 i2)⟩⟩
      unfold seqD at qz
      split at qz
      · cases qz
        obtain ⟨b, vs, rfl, i1, i2⟩ := t.rx.tup
        exact ⟨b, vs, rfl, .inr ⟨i1, pC _ Z' H' f' r' a' (Yld.enumT i1 i2)⟩⟩
      · cases qz; exact lst rfl
      · refine lst ?_
        show (dats? _).map PyData.list = _
        rw [qz]; rfl
      · cases qz
  | exc e s' => rw [q] at p; exact p
  | stuck => rw [q] at p; exact p
end
end Mp
set_option maxHeartbeats 1000000
/-! Snd5: statements. -/
namespace Mp
open PySem PySem.Spec PyProof.Rows L2
def Same (mu : List Nat) (σ σ' : L2.St) : Prop := ∀ j ∈ mu, σ'[j]? = σ[j]?
theorem Same.refl {mu : List Nat} {σ : L2.St} : Same mu σ σ := fun _ _ => rfl
theorem Same.trans {mu : List Nat} {σ σ1 σ2 : L2.St} (a : Same mu σ σ1) (b : Same mu σ1 σ2) : Same mu σ σ2 := fun j h => (b j h).trans (a j h)
theorem Same.but {mu own : List Nat} {σ σ' : L2.St} (h : But own σ σ') (d : ∀ i ∈ own, i ∉ mu) : Same mu σ σ' := fun j hj => h j fun z => d j z hj
/-- behind a statement -/
def postS (c : Cf) (W : WX) (mu : List Nat) (σ : L2.St) (Z : Ad) (H : Hp) (f : Fp) (o : Fl) (D : Ends) : Prop := match o with
  | .nx s' => ∀ σ' Z' H' f', Rel c Z' H' s' σ' f' → Fr Z H f Z' H' f' → Same mu σ σ' → D.nx σ' H'
  | .bk s' => ∀ σ' Z' H' f', Rel c Z' H' s' σ' f' → Fr Z H f Z' H' f' → Same mu σ σ' → D.bk σ' H'
  | .ct s' => ∀ σ' Z' H' f', Rel c Z' H' s' σ' f' → Fr Z H f Z' H' f' → Same mu σ σ' → D.ct σ' H'
  | .rt x s' => ∀ v σ' Z' H' f' F, Rel c Z' H' s' σ' f' → Fr Z H f Z' H' f' → Same mu σ σ' → Tmp c Z' H' f' x v F → From H f F → D.rt v H'
  | .exc e s' => ∀ σ' Z' H' f' d, Rel c Z' H' s' σ' f' → Fr Z H f Z' H' f' → Same mu σ σ' → ExD c Z' H' e d → W (c.L.cls e.cls) d σ' H'
  | .stuck => False
section
variable {c : Cf} {W : WX} {mu : List Nat} {σ σ1 : L2.St} {Z Z1 : Ad} {H H1 : Hp} {f f1 : Fp} {D : Ends} {o : Fl}
theorem postS.shift (p : postS c W mu σ Z H f o D) (a : Fr Z H f Z1 H1 f1) (b : Same mu σ σ1) : postS c W mu σ1 Z1 H1 f1 o D := by
  cases o with
  | nx s' => exact fun σ' Z' H' f' r a' b' => p σ' Z' H' f' r (a.trans a') (b.trans b')
  | bk s' => exact fun σ' Z' H' f' r a' b' => p σ' Z' H' f' r (a.trans a') (b.trans b')
  | ct s' => exact fun σ' Z' H' f' r a' b' => p σ' Z' H' f' r (a.trans a') (b.trans b')
  | rt x s' => exact fun v σ' Z' H' f' F r a' b' t fr => p v σ' Z' H' f' F r (a.trans a') (b.trans b') t (From.fr a fr)
  | exc e s' => exact fun σ' Z' H' f' d r a' b' h => p σ' Z' H' f' d r (a.trans a') (b.trans b') h
  | stuck => exact p
/-- an expression, then the rest of the statement -/
theorem postS.fl {α β : Type} {K : Hp → Fp → α → β → Ad → Hp → Fp → Prop} {r : R S α} {k : α → S → Fl} {Q : β → Hp → Prop} (p : postS c W mu σ Z H f (r.fl k) D)
    (h : ∀ x s' v Z' H' f', r = .ok x s' → Rel c Z' H' s' σ f' → Fr Z H f Z' H' f' → K H f x v Z' H' f' → postS c W mu σ Z H f (k x s') D → Q v H') : post c W σ Z H f K r Q := by
  cases r with
  | ok x s' => exact fun v Z' H' f' r1 a hk => h x s' v Z' H' f' rfl r1 a hk p
  | exc e s' => exact fun Z' H' f' d r1 a hx => p σ Z' H' f' d r1 a Same.refl hx
  | stuck => exact p
theorem postS.fl2 {α β : Type} {K : Hp → Fp → α → β → Ad → Hp → Fp → Prop} {r : R S α} {k : α → S → Fl} {Q : β → Hp → Prop} (p : postS c W mu σ Z H f (r.fl k) D) (a : Fr Z H f Z1 H1 f1)
    (h : ∀ x s' v Z' H' f', r = .ok x s' → Rel c Z' H' s' σ f' → Fr Z1 H1 f1 Z' H' f' → K H1 f1 x v Z' H' f' → postS c W mu σ Z H f (k x s') D → Q v H') : post c W σ Z1 H1 f1 K r Q := by
  cases r with
  | ok x s' => exact fun v Z' H' f' r1 a' hk => h x s' v Z' H' f' rfl r1 a' hk p
  | exc e s' => exact fun Z' H' f' d r1 a' hx => p σ Z' H' f' d r1 (a.trans a') Same.refl hx
  | stuck => exact p
end
section
variable (c : Cf) (C : Calls) (G : List D) (W : WX) (mu : List Nat)
def tS (st : St) : TS := fun D σ H => ∃ Z s f, Rel c Z H s σ f ∧ postS c W mu σ Z H f (ex1 C G st s) D
def tSs (st : List St) : TS := fun D σ H => ∃ Z s f, Rel c Z H s σ f ∧ postS c W mu σ Z H f (exs C G st s) D
end
def SS (T : At) (st : St) (a : Stmt) : Prop := PS T.X a (tS T.c T.C T.G T.W T.mu st)
def SSs (T : At) (st : List St) (a : List Stmt) : Prop := PSs T.X a (tSs T.c T.C T.G T.W T.mu st)
theorem PS.imp {X : Cx} {e : Stmt} {t u : TS} (h : PS X e u) (i : ∀ D σ H, t D σ H → u D σ H) : PS X e t := ⟨fun pins s σ H D I hq => h.run pins s σ H D I (i D σ H hq)⟩
theorem PSs.imp {X : Cx} {e : List Stmt} {t u : TS} (h : PSs X e u) (i : ∀ D σ H, t D σ H → u D σ H) : PSs X e t := ⟨fun pins s σ H D I hq => h.run pins s σ H D I (i D σ H hq)⟩
section
variable {T : At} {e e1 e2 : E} {a b d : Expr} {st : St} {sts : List St} {sa : Stmt} {sas : List Stmt} {pos : Pos}
theorem ss_nil : SSs T [] [] := PSs.imp pss_nil fun D σ H ⟨Z, s, f, r, p⟩ => p σ Z H f r Fr.refl Same.refl
theorem ss_cons (h1 : SS T st sa) (h2 : SSs T sts sas) : SSs T (st :: sts) (sa :: sas) := PSs.imp (pss_cons h1 h2) fun D σ H ⟨Z, s, f, r, p⟩ => by
  rw [exs_cons] at p
  refine ⟨Z, s, f, r, ?_⟩
  cases q : ex1 T.C T.G st s with
  | nx s' => rw [q] at p; exact fun σ' Z' H' f' r' a' b' => ⟨Z', s', f', r', postS.shift (o := exs T.C T.G sts s') p a' b'⟩
  | bk s' => rw [q] at p; exact p
  | ct s' => rw [q] at p; exact p
  | rt x s' => rw [q] at p; exact p
  | exc e s' => rw [q] at p; exact p
  | stuck => rw [q] at p; exact p
/-- a statement of which nothing is promised -/
theorem ss_bad (h : ∀ s, ex1 T.C T.G st s = .stuck) : SS T st sa := PS.imp ps_never fun D σ H ⟨Z, s, f, r, p⟩ => by rw [h s] at p; exact p
theorem ss_pass : SS T .pass (.Pass pos) := PS.imp ps_pass fun D σ H ⟨Z, s, f, r, p⟩ => p σ Z H f r Fr.refl Same.refl
theorem ss_brk : SS T .brk (.Break pos) := PS.imp ps_break fun D σ H ⟨Z, s, f, r, p⟩ => p σ Z H f r Fr.refl Same.refl
theorem ss_cont : SS T .cont (.Continue pos) := PS.imp ps_continue fun D σ H ⟨Z, s, f, r, p⟩ => p σ Z H f r Fr.refl Same.refl
theorem ss_ret (h : SE T e a) : SS T (.ret e) (.Return (some a) pos) := PS.imp (ps_ret h) fun D σ H ⟨Z, s, f, r, p⟩ =>
  ⟨Z, s, f, r, postS.fl (k := kRet) p fun x s1 v Z1 H1 f1 _ r1 a1 ⟨F, t, fr⟩ p1 => p1 v σ Z1 H1 f1 F r1 a1 Same.refl t fr⟩
theorem ss_retN : SS T .retN (.Return none pos) := PS.imp ps_retN fun D σ H ⟨Z, s, f, r, p⟩ => p .non σ Z H f [] r Fr.refl Same.refl (Tmp.d .none) From.nil
theorem ss_ex (h : SE T e a) (hs : swapsWith a none pos.line T.X.env = pure false) : SS T (.ex e) (.Expr a pos) := PS.imp (ps_expr h hs) fun D σ H ⟨Z, s, f, r, p⟩ =>
  ⟨Z, s, f, r, postS.fl (k := kDrop) (K := kX T.c) p fun x s1 v Z1 H1 f1 _ r1 a1 ⟨F, t, fr⟩ p1 => p1 σ Z1 H1 f1 r1 a1 Same.refl⟩
theorem ss_if {ta tb : List St} {A B : List Stmt} (hc : ST T e d) (ha : SSs T ta A) (hb : SSs T tb B) : SS T (.if_ e ta tb) (.If d A B pos) := PS.imp (ps_if hc ha hb) fun D σ H ⟨Z, s, f, r, p⟩ =>
  ⟨Z, s, f, r, postS.fl (k := kIf T.C T.G ta tb) (K := kP) p fun x s1 v Z1 H1 f1 _ r1 a1 hv p1 => by
    rw [show v = x from hv]
    cases x with
    | true => rw [if_pos rfl]; exact ⟨Z1, s1, f1, r1, postS.shift (o := exs T.C T.G ta s1) p1 a1 Same.refl⟩
    | false => rw [if_neg (by simp)]; exact ⟨Z1, s1, f1, r1, postS.shift (o := exs T.C T.G tb s1) p1 a1 Same.refl⟩⟩
/-- name = e -/
theorem imp_set {i : Nat} {D : Ends} {σ : L2.St} {H : Hp} (hi : i < T.X.N.length) (hl : σ.length = T.X.N.length) (hm : i ∉ T.mu) (h : tS T.c T.C T.G T.W T.mu (.set (.n i) e) D σ H) : tAsg (tE T.c T.C T.G T.W e) (gName i) D σ H := by
  obtain ⟨Z, s, f, r, p⟩ := h
  refine ⟨Z, s, f, r, postS.fl (k := kSet (.n i)) (K := kX T.c) p fun x s1 v Z1 H1 f1 _ r1 a1 ⟨F, t, fr⟩ p1 => ?_⟩
  have p1 : postS T.c T.W T.mu σ Z H f (.nx (s1.set i (some x))) D := p1
  refine p1 _ Z1 H1 _ (r1.put (by rw [r1.len, hl]; exact hi) t) ⟨(a1.trans Fr.refl).keep, a1.zz, a1.znew, fun b ⟨j, hj⟩ => ?_, a1.live, a1.tb⟩ (Same.but But.set fun j hj => by simp at hj; subst hj; exact hm)
  by_cases e : j = i
  · subst e; rw [fset_same] at hj; exact fr b hj
  · rw [fset_ne e] at hj; exact a1.fnew b ⟨j, hj⟩
theorem ss_set {i : Nat} {x : Str} {pos' : Pos} (hN : T.X.N.Nodup) (hi : T.X.N[i]? = some x) (hx : Loc T.X.env.scope x) (hf : T.X.fn x = true ∨ T.X.env.scope.names.lookup x = some .local) (hm : i ∉ T.mu) (h : SE T e a) (hs : swapsWith a (some (.Name x pos')) pos.line T.X.env = pure false) :
    SS T (.set (.n i) e) (.Assign [.Name x pos'] a pos) := ⟨fun pins s σ H D I q => (ps_set hN hi hx h hs hf).run pins s σ H D I (imp_set (List.getElem?_eq_some_iff.mp hi).1 I.len hm q)⟩
/-- a, b = e -/
theorem ss_unp {ts : List Tg} {tg : Expr} (h : SE T e a) (hg : SGt T (.t ts) tg) (hm : ∀ i ∈ slots (.t ts), i ∉ T.mu) (hs : swapsWithSole [tg] a pos.line T.X.env = pure false) (hw : swappedStores [tg] a T.X.env = pure none)
    (h1 : (assignEach [tg] T.X.env).map (·.2) = [assign tg T.X.env]) : SS T (.set (.t ts) e) (.Assign [tg] a pos) := PS.imp (ps_asg h hg hs hw h1) fun D σ H ⟨Z, s, f, r, p⟩ =>
  ⟨Z, s, f, r, postS.fl (k := kSet (.t ts)) (K := kX T.c) p fun x s1 v Z1 H1 f1 _ r1 a1 ⟨F, t, fr⟩ p1 => by
    cases x with
    | d x =>
      cases t.rx with
      | d hx =>
        refine ⟨Z1, s1, f1, x, r1, hx, ?_⟩
        have p1 : postS T.c T.W T.mu σ Z H f (asgFl (asg (.t ts) (.d x) s1)) D := p1
        cases q : asg (.t ts) (.d x) s1 with
        | none => rw [q] at p1; exact p1.elim
        | some s2 => rw [q] at p1; exact fun σ' f' r' a' b' => p1 σ' Z1 H1 f' r' (a1.trans a') (Same.but b' hm)
    | _ => exact p1.elim⟩
/-! for -/
theorem Rel.kills {c : Cf} {Z : Ad} {H : Hp} {σ : L2.St} : ∀ {l : List Nat} {s : S} {f : Fp}, Rel c Z H s σ f → ∃ f', Rel c Z H (kills l s) σ f' ∧ Fr Z H f Z H f'
  | [], _, f, r => ⟨f, r, Fr.refl⟩
  | i :: l, s, f, r => by
    obtain ⟨f', h1, h2⟩ := Rel.kills (l := l) (r.drop0 (i := i))
    exact ⟨f', h1, Fr.drop.trans h2⟩
theorem ss_for {kill : List Nat} {tg : Tg} {body : List St} {ta ia : Expr} {ba : List Stmt} (hp : PassesOwn (model T.X.prog T.X.w) T.X.A T.X.env T.X.xe) (hc : T.X.calm = true) (hi : SI T ta e ia) (hg : SGt T tg ta) (hb : SSs T body ba) (hm : ∀ i ∈ slots tg, i ∉ T.mu)
    (hs : ∀ x, foldedSetIterable ia T.X.env x = pure x) : SS T (.for_ kill tg e body) (.For ta ia ba [] pos) := PS.imp (ps_for hp hc hi hg hb hs) fun D σ H ⟨Z, s, f, r, p⟩ => by
  have p : postS T.c T.W T.mu σ Z H f ((ev T.C T.G e s).fl (kFor T.C T.G kill tg body)) D := p
  refine ⟨Z, s, f, r, ?_⟩
  cases q : ev T.C T.G e s with
  | exc e s' => rw [q] at p; exact fun Z' H' f' d r1 a hx => p σ Z' H' f' d r1 a Same.refl hx
  | stuck => rw [q] at p; exact p
  | ok x s1 =>
    rw [q] at p
    have p : postS T.c T.W T.mu σ Z H f (forI T.C T.G kill tg body s1 ((itemsD x).map fun l => l.map Mp.X.d)) D := p
    cases q2 : itemsD x with
    | none => rw [q2] at p; exact p.elim
    | some ds =>
      rw [q2] at p
      have p : postS T.c T.W T.mu σ Z H f (forL (forT T.C T.G kill tg body) (ds.map Mp.X.d) (kills kill s1)) D := p
      refine ⟨ds, q2, fun J Z1 H1 f1 r1 a1 yl => ?_⟩
      obtain ⟨f2, r2, a2⟩ := r1.kills (l := kill)
      refine ⟨fun i m σ' H' => m = ds.length - i ∧ i ≤ ds.length ∧ ∃ Z' s' f', Rel T.c Z' H' s' σ' f' ∧ Fr Z H f Z' H' f' ∧ Same T.mu σ σ' ∧ Kp Z1 H1 Z' H' ∧ postS T.c T.W T.mu σ Z H f (forL (forT T.C T.G kill tg body) ((ds.drop i).map Mp.X.d) s') D,
        ⟨ds.length, by simp, Nat.zero_le _, Z1, _, f2, r2, a1.trans a2, Same.refl, ⟨fun _ _ e _ _ => e, fun _ z => z⟩, by simpa using p⟩, ?_⟩
      rintro i m σ' H' ⟨rfl, hi, Z', s', f', r', a', b', k', p'⟩
      obtain ⟨y1, y2⟩ := yl Z' H' k'
      by_cases hlt : i < ds.length
      · refine .inr ?_
        have hd : ds[i]? = some ds[i] := List.getElem?_eq_getElem hlt
        obtain ⟨go, yy⟩ := y1 i _ hd
        rw [List.drop_eq_getElem_cons hlt, List.map_cons] at p'
        -- one turn
        have p' : postS T.c T.W T.mu σ Z H f (match forT T.C T.G kill tg body (.d ds[i]) s' with
          | .nx s' => forL (forT T.C T.G kill tg body) ((ds.drop (i + 1)).map Mp.X.d) s'
          | .ct s' => forL (forT T.C T.G kill tg body) ((ds.drop (i + 1)).map Mp.X.d) s'
          | .bk s' => .nx s'
          | o => o) D := p'
        refine ⟨go, fun σ3 H3 => ds.length - (i + 1) < ds.length - i ∧ i + 1 ≤ ds.length ∧ ∃ Z3 s3 f3, Rel T.c Z3 H3 s3 σ3 f3 ∧ Fr Z H f Z3 H3 f3 ∧ Same T.mu σ σ3 ∧ Kp Z1 H1 Z3 H3 ∧ postS T.c T.W T.mu σ Z H f (forL (forT T.C T.G kill tg body) ((ds.drop (i + 1)).map Mp.X.d) s3) D, fun σ3 H3 ⟨h1, h2, h3⟩ => ⟨_, h1, rfl, h2, h3⟩, fun v H3 yv => ?_⟩
        obtain ⟨ext, rd⟩ := yy v H3 yv
        have r3 := r'.fr ext
        have a3 : Fr Z' H' f' Z' H3 f' := Fr.ext ext
        have k3 : Kp Z1 H1 Z' H3 := ⟨fun b o e ht h => ext b o (k'.keep b o e ht h), k'.zz⟩
        refine ⟨Z', s', f', ds[i], r3, rd, ?_⟩
        unfold forT at p'
        cases qa : asg tg (.d ds[i]) s' with
        | none => rw [qa] at p'; exact p'.elim
        | some s4 =>
          rw [qa] at p'
          intro σ4 f4 r4 a4 b4
          have a04 : Fr Z H f Z' H3 f4 := (a'.trans a3).trans a4
          have b04 : Same T.mu σ σ4 := b'.trans (Same.but b4 hm)
          refine ⟨Z', s4, f4, r4, ?_⟩
          have p' : postS T.c T.W T.mu σ Z H f (match (exs T.C T.G body s4).kill kill with
            | .nx s' => forL (forT T.C T.G kill tg body) ((ds.drop (i + 1)).map Mp.X.d) s'
            | .ct s' => forL (forT T.C T.G kill tg body) ((ds.drop (i + 1)).map Mp.X.d) s'
            | .bk s' => .nx s'
            | o => o) D := p'
          have kpt : ∀ {Z5 : Ad} {H5 : Hp} {f5 : Fp}, Fr Z' H3 f4 Z5 H5 f5 → Kp Z1 H1 Z5 H5 := fun a5 => by
            have k5 := a5.kp r4
            exact ⟨fun b o e ht h => k5.keep b o (k3.keep b o e ht h) ht (h.imp id (k3.zz b)), fun b z => k5.zz b (k3.zz b z)⟩
          cases qb : exs T.C T.G body s4 with
          | nx s5 =>
            rw [qb] at p'
            intro σ5 Z5 H5 f5 r5 a5 b5
            obtain ⟨f6, r6, a6⟩ := r5.kills (l := kill)
            exact ⟨by omega, hlt, Z5, _, f6, r6, (a04.trans a5).trans a6, b04.trans b5, kpt a5, p'⟩
          | ct s5 =>
            rw [qb] at p'
            intro σ5 Z5 H5 f5 r5 a5 b5
            obtain ⟨f6, r6, a6⟩ := r5.kills (l := kill)
            exact ⟨by omega, hlt, Z5, _, f6, r6, (a04.trans a5).trans a6, b04.trans b5, kpt a5, p'⟩
          | bk s5 =>
            rw [qb] at p'
            intro σ5 Z5 H5 f5 r5 a5 b5
            obtain ⟨f6, r6, a6⟩ := r5.kills (l := kill)
            exact p' σ5 Z5 H5 f6 r6 ((a04.trans a5).trans a6) (b04.trans b5)
          | rt x s5 =>
            rw [qb] at p'
            exact postS.shift (o := .rt x s5) (D := D) p' a04 b04
          | exc e s5 =>
            rw [qb] at p'
            exact postS.shift (o := .exc e s5) (D := D) p' a04 b04
          | stuck => rw [qb] at p'; exact p'
      · have e : i = ds.length := by omega
        subst e
        refine .inl ⟨y2, ?_⟩
        rw [List.drop_length] at p'
        exact p' σ' Z' H' f' r' a' b'
end
end Mp
set_option maxHeartbeats 1000000
/-! Snd5b: what changes a list. -/
namespace Mp
open PySem PySem.Spec PyProof.Rows L2
section
variable {c : Cf} {Z : Ad} {H H' : Hp} {f : Fp} {s : S} {σ : L2.St} {i : Nat} {x : X} {v : V} {a : Addr} {F' : List Addr}
/-- the object at a, which slot i owns, is changed -/
theorem Rel.mut (r : Rel c Z H s σ f) (ha : a ∈ f i) (hH : ∀ b, b ≠ a → H' b = H b) (ho : ∃ o, H' a = some o ∧ own o = true) (hi : σ[i]? = some (some v)) (rx : RX c Z H' x v F') (nd : F'.Nodup) (hF : ∀ b ∈ F', b ∈ f i ∨ (¬ Z b ∧ ¬ inF f b)) :
    Rel c Z H' (s.set i (some x)) σ (fset f i F') := by
  have kp : Kp Z H Z H' := ⟨fun b o e _ h => by
    rw [hH b (fun z => by
      subst z
      rcases h with h | h
      · obtain ⟨o', e', ho'⟩ := r.ow i b ha
        rw [e] at e'; cases e'
        rw [h] at ho'; cases ho'
      · exact r.nz i b ha h)]
    exact e, fun _ z => z⟩
  have oth : ∀ j b, j ≠ i → b ∈ f j → H' b = H b := fun j b hj hb => hH b fun z => by subst z; exact r.dj j i hj b hb ha
  have hl : i < s.length := by rw [r.len]; exact (List.getElem?_eq_some_iff.mp hi).1
  refine ⟨by simpa using r.len, fun j y e => ?_, fun j => ?_, fun j k hjk b h1 h2 => ?_, fun j b hb => ?_, fun j b hb => ?_, fun b z => ?_, r.tb.mono fun b u e hu => by
    rw [hH b fun z => by
      subst z
      obtain ⟨o', e', ho'⟩ := r.ow i b ha
      rw [e] at e'; cases e'
      rw [hu] at ho'; cases ho']
    exact e⟩
  · by_cases hj : j = i
    · subst hj
      rw [List.getElem?_set_self hl] at e
      cases e
      exact ⟨v, hi, by rw [fset_same]; exact rx⟩
    · rw [List.getElem?_set_ne (Ne.symm hj)] at e
      obtain ⟨u, e1, e2⟩ := r.at_ j y e
      refine ⟨u, e1, ?_⟩
      rw [fset_ne hj]
      exact e2.kp kp fun b hb o e => by rw [oth j b hj hb]; exact e
  · by_cases hj : j = i
    · subst hj; rw [fset_same]; exact nd
    · rw [fset_ne hj]; exact r.nd j
  · by_cases hj : j = i
    · subst hj
      rw [fset_same] at h1
      rw [fset_ne (Ne.symm hjk)] at h2
      rcases hF b h1 with z | ⟨_, z⟩
      · exact r.dj j k hjk b z h2
      · exact z ⟨k, h2⟩
    · rw [fset_ne hj] at h1
      by_cases hk : k = i
      · subst hk
        rw [fset_same] at h2
        rcases hF b h2 with z | ⟨_, z⟩
        · exact r.dj j k hjk b h1 z
        · exact z ⟨j, h1⟩
      · rw [fset_ne hk] at h2; exact r.dj j k hjk b h1 h2
  · by_cases hj : j = i
    · subst hj
      rw [fset_same] at hb
      rcases hF b hb with z | ⟨z, _⟩
      · exact r.nz j b z
      · exact z
    · rw [fset_ne hj] at hb; exact r.nz j b hb
  · by_cases hj : j = i
    · subst hj; rw [fset_same] at hb; exact rx.own b hb
    · rw [fset_ne hj] at hb
      obtain ⟨o, e, h⟩ := r.ow j b hb
      exact ⟨o, by rw [oth j b hj hb]; exact e, h⟩
  · by_cases hb : b = a
    · subst hb
      obtain ⟨o, e, _⟩ := ho
      rw [e]; exact fun z => nomatch z
    · rw [hH b hb]; exact r.zo b z
theorem Fr.mut (ha : a ∈ f i) (hH : ∀ b, b ≠ a → H' b = H b) (ho : H' a ≠ none) (hF : From H f F') (hw : ∃ o, H a = some o ∧ own o = true) : Fr Z H f Z H' (fset f i F') :=
  ⟨fun b o e _ n => by rw [hH b (fun z => n (by subst z; exact ⟨i, ha⟩))]; exact e, fun _ z => z, fun _ z => .inl z, fun b ⟨j, hj⟩ => by
    by_cases e : j = i
    · subst e; rw [fset_same] at hj; exact hF b hj
    · rw [fset_ne e] at hj; exact .inl ⟨j, hj⟩, fun b z => by
    by_cases hb : b = a
    · subst hb; exact ho
    · rw [hH b hb]; exact z, fun T t => t.mono fun b u e hu => by
    rw [hH b fun z => by
      subst z
      obtain ⟨o', e', ho'⟩ := hw
      rw [e] at e'; cases e'
      rw [hu] at ho'; cases ho']
    exact e⟩
/-- a slot's list -/
theorem Rel.lst {l : List X} (r : Rel c Z H s σ f) (e : s[i]? = some (some (.lst l))) : ∃ a vs F, σ[i]? = some (some (.ref a)) ∧ f i = a :: F ∧ H a = some (.lst vs) ∧ RXs c Z H l vs F ∧ a ∉ F ∧ F.Nodup := by
  obtain ⟨v, e1, e2⟩ := r.at_ i _ e
  have nd := r.nd i
  generalize hF : f i = Fi at e2 nd
  cases e2 with
  | @lst a vs _ F h1 h2 => exact ⟨a, vs, F, e1, rfl, h1, h2, (List.nodup_cons.mp nd).1, (List.nodup_cons.mp nd).2⟩
theorem upd_oth {o : HO} : ∀ b, b ≠ a → upd H a o b = H b := fun _ h => upd_ne h
/-- what does not lie at a stays when the owned a is changed -/
theorem RXs.stay {l : List X} {vs : List V} {F : List Addr} (h : RXs c Z H l vs F) (ha : a ∉ F) (hz : ¬ Z a) (ho : ∃ o, H a = some o ∧ Mp.own o = true) (hH : ∀ b, b ≠ a → H' b = H b) : RXs c Z H' l vs F :=
  h.kp ⟨fun b o e _ k => by
    rw [hH b (fun z => by
      subst z
      rcases k with k | k
      · obtain ⟨o', e', h'⟩ := ho
        rw [e] at e'; cases e'
        rw [k] at h'; cases h'
      · exact hz k)]
    exact e, fun _ z => z⟩ fun b hb o e => by rw [hH b (fun z => ha (by subst z; exact hb))]; exact e
/-- the list of slot i gets new items -/
theorem Rel.relist {l' : List X} {vs' : List V} {F F2 : List Addr} {vs : List V} (r : Rel c Z H s σ f) (hs : σ[i]? = some (some (.ref a))) (hf : f i = a :: F) (hv : H a = some (.lst vs)) (rx : RXs c Z (upd H a (.lst vs')) l' vs' F2) (nd : F2.Nodup) (na : a ∉ F2) (hF : ∀ b ∈ F2, b ∈ F ∨ (¬ Z b ∧ ¬ inF f b)) :
    Rel c Z (upd H a (.lst vs')) (s.set i (some (.lst l'))) σ (fset f i (a :: F2)) := by
  have ha : a ∈ f i := by rw [hf]; exact List.mem_cons_self
  refine r.mut ha upd_oth ⟨_, upd_same, rfl⟩ hs (.lst upd_same rx) (List.nodup_cons.mpr ⟨na, nd⟩) fun b hb => ?_
  rcases List.mem_cons.mp hb with rfl | hb
  · exact .inl ha
  · rcases hF b hb with z | z
    · exact .inl (by rw [hf]; exact List.mem_cons_of_mem _ z)
    · exact .inr z
theorem Fr.relist {Z1 : Ad} {H1 : Hp} {f1 : Fp} {o : HO} (a1 : Fr Z H f Z1 H1 f1) (ha : a ∈ f1 i) (hF : From H f F') (hw : ∃ o, H1 a = some o ∧ own o = true) : Fr Z H f Z1 (upd H1 a o) (fset f1 i F') :=
  ⟨fun b u e ht n => by
    rw [upd_ne fun z => by
      subst z
      rcases a1.fnew b ⟨i, ha⟩ with z | z
      · exact n z
      · rw [e] at z; cases z]
    exact a1.keep b u e ht n, a1.zz, a1.znew, fun b ⟨j, hj⟩ => by
    by_cases e : j = i
    · subst e; rw [fset_same] at hj; exact hF b hj
    · rw [fset_ne e] at hj; exact a1.fnew b ⟨j, hj⟩, fun b z => by
    by_cases hb : b = a
    · subst hb; rw [upd_same]; exact fun z => nomatch z
    · rw [upd_ne hb]; exact a1.live b z, fun T t => (a1.tb T t).upd fun u e => by
    obtain ⟨o', e', h'⟩ := hw
    rw [e] at e'; cases e'; exact h'⟩
theorem From.slot {Z1 : Ad} {H1 : Hp} {f1 : Fp} (a1 : Fr Z H f Z1 H1 f1) : From H f (f1 i) := fun b hb => a1.fnew b ⟨i, hb⟩
end
section
variable {T : At} {e k : E} {a ka : Expr} {i : Nat} {x : Str} {p apos cpos pos : Pos}
theorem isLst_some {s : S} (h : isLstAt s[i]? = true) : ∃ l, s[i]? = some (some (.lst l)) := by
  unfold isLstAt at h
  split at h
  · rename_i l e; exact ⟨l, e⟩
  · cases h
theorem PS.ends {X : Cx} {st : Stmt} {t : TS} (h : PS X st t) : True := trivial
/-- xs.append(e) -/
theorem ss_app (hx : PE T.X (.Name x p) (tVar i)) (h : SE T e a) (hsw : swapsWith (.Call (.Attribute (.Name x p) "append" apos) [a] [] cpos) none pos.line T.X.env = pure false)
    (hbase : attributeBase (.Name x p) "append" T.X.env (eval (.Name x p) T.X.env) = eval (.Name x p) T.X.env)
    (hfew : ((backTo cpos (starEach [a] T.X.env)).all (fun x => !x.1) && (backToKw cpos (keywordEach [] T.X.env)).all (fun x => x.1.isSome) && decide ([a].length + ([] : List Keyword).length + (if ([] : List Keyword).isEmpty then 0 else 1) < 30)) = true)
    (hline : (apos.endLine == cpos.line) = true) (hs : starEach [a] T.X.env = [(false, eval a T.X.env)]) :
    SS T (.app i e) (.Expr (.Call (.Attribute (.Name x p) "append" apos) [a] [] cpos) pos) :=
  PS.imp (ps_expr (pe_bm F.plainAttrs_list F.slot_list_append rfl mt_append hx (pa_cons h pa_nil hs) hbase hfew hline hs (by rw [show starEach ([] : List Expr) T.X.env = [] from rfl]; rfl)) hsw) fun D σ H ⟨Z, s, f, r, q⟩ => by
    have q : postS T.c T.W T.mu σ Z H f (if isLstAt s[i]? then (ev T.C T.G e s).fl (kAppS i) else .stuck) D := q
    split at q
    · rename_i hl
      obtain ⟨l0, e0⟩ := isLst_some hl
      obtain ⟨a0, vs0, F0, s0, _, h0, _⟩ := r.lst e0
      refine ⟨.ref a0, s0, .inl ⟨rfl, vs0, .inl (.inl h0)⟩, Z, s, f, r, postS.fl (k := kAppS i) q fun y s1 v Z1 H1 f1 _ r1 a1 ⟨Fy, t, fr⟩ p1 => ?_⟩
      have p1 : postS T.c T.W T.mu σ Z H f (appOp i y s1[i]? s1) D := p1
      cases e1 : s1[i]? with
      | none => rw [e1] at p1; exact p1.elim
      | some o =>
        cases o with
        | none => rw [e1] at p1; exact p1.elim
        | some z =>
          cases z with
          | lst l =>
            rw [e1] at p1
            have p1 : postS T.c T.W T.mu σ Z H f (if l.length < lim then .nx (s1.set i (some (.lst (l ++ [y])))) else .stuck) D := p1
            split at p1
            · rename_i hz
              obtain ⟨a2, vs, F, s2, hf, hv, hxs, na, nd⟩ := r1.lst e1
              rw [s0] at s2; cases s2
              refine ⟨a0, vs, v, rfl, rfl, hv, by rw [← lim_eq, ← hxs.length]; exact hz, ?_⟩
              have haf : a0 ∈ f1 i := by rw [hf]; exact List.mem_cons_self
              have nz := r1.nz i a0 haf
              have naY : a0 ∉ Fy := fun z => t.nf a0 z ⟨i, haf⟩
              have dj : ∀ b ∈ F, b ∉ Fy := fun b hb z => t.nf b z ⟨i, by rw [hf]; exact List.mem_cons_of_mem _ hb⟩
              have hy := (RXs.cons t.rx .nil).stay (H' := upd H1 a0 (.lst (vs ++ [v]))) (by simpa using naY) nz ⟨_, hv, rfl⟩ upd_oth
              rw [List.append_nil] at hy
              have r2 := r1.relist (l' := l ++ [y]) (vs' := vs ++ [v]) (F2 := F ++ Fy) s0 hf hv ((hxs.stay na nz ⟨_, hv, rfl⟩ upd_oth).append hy)
                (List.nodup_append.mpr ⟨nd, t.nd, fun b hb d hd z => dj b hb (z ▸ hd)⟩) (by simp [na, naY])
                (fun b hb => (List.mem_append.mp hb).imp id fun z => ⟨t.nz b z, t.nf b z⟩)
              have fr2 : From H f (a0 :: (F ++ Fy)) := fun b hb => by
                have hs := From.slot (i := i) a1
                rw [hf] at hs
                rcases List.mem_cons.mp hb with rfl | hb
                · exact hs _ List.mem_cons_self
                · exact (List.mem_append.mp hb).elim (fun z => hs b (List.mem_cons_of_mem _ z)) (fr b)
              exact p1 σ Z1 _ _ r2 (a1.relist haf fr2 ⟨_, hv, rfl⟩) Same.refl
            · exact p1.elim
          | _ => rw [e1] at p1; exact p1.elim
    · exact q.elim
end
end Mp
set_option maxHeartbeats 1000000
/-! Ext: extend by a list, a tuple; insert; items set. -/
namespace PySem.AutoSeq1
open PySem.SeqRoads2
theorem mp_extend_tuple (l : Addr) (items : Array Value) (n : Nat) (b : Addr) (items2 : Array Value) (n2 : Nat) (dd : Option Addr) (sl : Array (Option Value)) (hs0 : ¬(!items.isEmpty && Builtin.List.listTooLong (items.size + items2.size)) = true) (hs1 : items.size ≤ sizeLine) (hs2 : items.size + items2.size ≤ sizeLine + 1) :
    Meets (Builtin.«list.extend» ⟨[.ref l, .ref b], []⟩) (fun _ R s => s.heap.get? l = some { cls := .type "list", dict := none, data := .seq items n, slots := #[] } ∧ s.heap.get? b = some { cls := .type "tuple", dict := dd, data := .seq items2 n2, slots := sl } ∧ R (.ok (.ret Value.none)) { s with heap := s.heap.update l (Obj.mapSeq fun x => x ++ items2), toks := s.toks }) :=
  .of_wp fun prog w A R s h => by
    obtain ⟨hp, g, d, tk, os⟩ := s; obtain ⟨hl, hb, h⟩ := h; have f1 := idx_int; have f2 := sub_tuple_tuple; have f3 := sub_list_list; have f4 := sub_tuple_list; have f5 := sub_list_tuple;
    have hz' : (items ++ items2).size ≤ sizeLine + 1 := by rw [Array.size_append]; exact hs2
    wp_walk using (wpAny_updateSeq hl rfl (hz := hs1) (_hz' := hz')), wpAny_loadPart' hl, wpAny_loadPart' hb; exact ⟨_, rfl, h⟩
end PySem.AutoSeq1
namespace Mp
open PySem PySem.Spec PyProof.Rows L2
def rExtQ (K : PySem.W.Frag) : V → List V → Hp → VK → Prop := fun x vs H Q => ∃ l b xs zs, x = .ref l ∧ vs = [.ref b] ∧ H l = some (.lst xs) ∧ (RdL K H b zs ∨ SqT K H b zs) ∧ xs.length + zs.length ≤ sizeLine ∧ Q .non (upd H l (.lst (xs ++ zs)))
theorem mt_extQ {X : Cx} : MtM X "list.extend" (rExtQ X.K) := by
  intro pins s σ H x vs v us Q I rx rv h
  obtain ⟨l, b, xs, zs, rfl, rfl, hH, hB, hz, q⟩ := h
  cases rx
  obtain ⟨u, rfl, ru⟩ := rv.one
  cases ru
  obtain ⟨z, its, n, r, hl, e⟩ := I.lstM hH
  have fin : ∀ its2 : List Value, Vals zs its2 → EP X pins σ Q .none { s with heap := s.heap.update l (Obj.mapSeq fun x => x ++ its2.toArray), toks := s.toks } := fun its2 r2 => by
    refine ⟨.non, _, I.lset (its' := its ++ its2) hH e (by simp) (r.append r2) ?_, rfl, q⟩
    rw [List.length_append]
    exact hz
  rcases hB with hB | hB
  · obtain ⟨z2, its2, n2, r2, e2⟩ := RdL.raw I hB
    have hl2 := r2.length
    have hsz : its.toArray.size + its2.toArray.size ≤ sizeLine := by rw [List.size_toArray, List.size_toArray]; omega
    have hlong : ¬ (!its.toArray.isEmpty && Builtin.List.listTooLong (its.toArray.size + its2.toArray.size)) = true := by
      rw [notLongL hsz, Bool.and_false]
      exact Bool.false_ne_true
    exact call_meets F.slot_list_extend ⟨_, e, rfl⟩ F.entry_list_extend (F.args_list_extend_2 _ _)
      (AutoSeq1.list_extend_list_list_0 l its.toArray n b its2.toArray n2 hlong (by rw [List.size_toArray]; omega) (by omega)) ⟨e, e2, fin its2 r2⟩
  · obtain ⟨its2, r2, ⟨o2, e2, c2, n2, d2⟩, z2⟩ := I.tuple hB
    obtain ⟨oc, od, dt, sl⟩ := o2
    simp only at c2 d2
    subst c2 d2
    have hl2 := r2.length
    have hsz : its.toArray.size + its2.toArray.size ≤ sizeLine := by rw [List.size_toArray, List.size_toArray]; omega
    have hlong : ¬ (!its.toArray.isEmpty && Builtin.List.listTooLong (its.toArray.size + its2.toArray.size)) = true := by
      rw [notLongL hsz, Bool.and_false]
      exact Bool.false_ne_true
    exact call_meets F.slot_list_extend ⟨_, e, rfl⟩ F.entry_list_extend (F.args_list_extend_2 _ _)
      (AutoSeq1.mp_extend_tuple l its.toArray n b its2.toArray n2 od sl hlong (by rw [List.size_toArray]; omega) (by omega)) ⟨e, e2, fin its2 r2⟩
section
variable {T : At} {e k : E} {a ka : Expr} {i : Nat} {x : Str} {p apos cpos pos : Pos}
theorem seqD_rd {c : Cf} {Z : Ad} {H : Hp} {y : Mp.X} {v : V} {F : List Addr} {ds : List D} (h : RX c Z H y v F) (e : seqD y = some ds) : ∃ b zs, v = .ref b ∧ (RdL c.K H b zs ∨ SqT c.K H b zs) ∧ RDs c (fun b => Z b ∨ b ∈ F) H ds zs := by
  have kp : Kp Z H (fun b => Z b ∨ b ∈ F) H := ⟨fun _ _ e _ _ => e, fun _ z => .inl z⟩
  cases y with
  | d y =>
    cases y with
    | tuple l =>
      cases e
      obtain ⟨a, vs, rfl, h1, h2⟩ := h.tup
      exact ⟨a, vs, rfl, .inr h1, h2.kp kp⟩
    | list l =>
      cases e
      obtain ⟨a, vs, rfl, h1, h2⟩ := h.isl (l := ds) rfl
      exact ⟨a, vs, rfl, .inl h1, h2.kp kp⟩
    | _ => cases e
  | lst ys =>
    cases h with
    | lst h1 h2 => exact ⟨_, _, rfl, .inl (.inl (.inl h1)), h2.frz kp e fun b hb => .inr (List.mem_cons_of_mem _ hb)⟩
  | _ => cases e
/-- xs.extend(e) -/
theorem ss_ext (hx : PE T.X (.Name x p) (tVar i)) (h : SE T e a) (hsw : swapsWith (.Call (.Attribute (.Name x p) "extend" apos) [a] [] cpos) none pos.line T.X.env = pure false)
    (hbase : attributeBase (.Name x p) "extend" T.X.env (eval (.Name x p) T.X.env) = eval (.Name x p) T.X.env)
    (hfew : ((backTo cpos (starEach [a] T.X.env)).all (fun x => !x.1) && (backToKw cpos (keywordEach [] T.X.env)).all (fun x => x.1.isSome) && decide ([a].length + ([] : List Keyword).length + (if ([] : List Keyword).isEmpty then 0 else 1) < 30)) = true)
    (hline : (apos.endLine == cpos.line) = true) (hs : starEach [a] T.X.env = [(false, eval a T.X.env)]) :
    SS T (.ext i e) (.Expr (.Call (.Attribute (.Name x p) "extend" apos) [a] [] cpos) pos) :=
  PS.imp (ps_expr (pe_bm F.plainAttrs_list F.slot_list_extend rfl mt_extQ hx (pa_cons h pa_nil hs) hbase hfew hline hs (by rw [show starEach ([] : List Expr) T.X.env = [] from rfl]; rfl)) hsw) fun D σ H ⟨Z, s, f, r, q⟩ => by
    have q : postS T.c T.W T.mu σ Z H f (if isLstAt s[i]? then (ev T.C T.G e s).fl (kExt i) else .stuck) D := q
    split at q
    · rename_i hl
      obtain ⟨l0, e0⟩ := isLst_some hl
      obtain ⟨a0, vs0, F0, s0, _, h0, _⟩ := r.lst e0
      refine ⟨.ref a0, s0, .inl ⟨rfl, vs0, .inl (.inl h0)⟩, Z, s, f, r, postS.fl (k := kExt i) q fun y s1 v Z1 H1 f1 _ r1 a1 ⟨Fy, t, fr⟩ p1 => ?_⟩
      have p1 : postS T.c T.W T.mu σ Z H f (extOp i s1[i]? (seqD y) s1) D := p1
      cases e1 : s1[i]? with
      | none => rw [e1] at p1; exact p1.elim
      | some o =>
        cases o with
        | none => rw [e1] at p1; exact p1.elim
        | some z =>
          cases z with
          | lst l =>
            rw [e1] at p1
            cases e2 : seqD y with
            | none => rw [e2] at p1; exact p1.elim
            | some ds =>
              rw [e2] at p1
              have p1 : postS T.c T.W T.mu σ Z H f (if l.length + ds.length ≤ lim then .nx (s1.set i (some (.lst (l ++ ds.map Mp.X.d)))) else .stuck) D := p1
              split at p1
              · rename_i hz
                obtain ⟨a2, vs, F, s2, hf, hv, hxs, na, nd⟩ := r1.lst e1
                rw [s0] at s2; cases s2
                obtain ⟨b, zs, rfl, hb, hds⟩ := seqD_rd t.rx e2
                refine ⟨a0, b, vs, zs, rfl, rfl, hv, hb, by rw [← lim_eq, ← hxs.length, ← hds.length]; exact hz, ?_⟩
                have haf : a0 ∈ f1 i := by rw [hf]; exact List.mem_cons_self
                -- what comes in is frozen
                have rz : Rel T.c (fun b => Z1 b ∨ b ∈ Fy) H1 s1 σ f1 := by
                  have kp : Kp Z1 H1 (fun b => Z1 b ∨ b ∈ Fy) H1 := ⟨fun _ _ e _ _ => e, fun _ z => .inl z⟩
                  exact ⟨r1.len, fun j y ej => let ⟨u, e3, e4⟩ := r1.at_ j y ej; ⟨u, e3, e4.kp kp fun _ _ _ e => e⟩, r1.nd, r1.dj, fun j a ha z => z.elim (r1.nz j a ha) fun z => t.nf a z ⟨j, ha⟩, r1.ow, fun a z => z.elim (r1.zo a) fun z => by
                    obtain ⟨o, e, _⟩ := t.rx.own a z
                    rw [e]; exact (fun z => nomatch z), r1.tb⟩
                have nz := rz.nz i a0 haf
                have hxs' : RXs T.c (fun b => Z1 b ∨ b ∈ Fy) H1 l vs F := hxs.kp ⟨fun _ _ e _ _ => e, fun _ z => .inl z⟩ fun _ _ _ e => e
                have r2 := rz.relist (l' := l ++ ds.map Mp.X.d) (vs' := vs ++ zs) (F2 := F ++ []) s0 hf hv ((hxs'.stay na nz ⟨_, hv, rfl⟩ upd_oth).append (hds.xs.stay (by simp) nz ⟨_, hv, rfl⟩ upd_oth))
                  (by simpa using nd) (by simpa using na) (fun b hb => .inl (by simpa using hb))
                have fr2 : From H f (a0 :: (F ++ [])) := fun b hb => by
                  have hs := From.slot (i := i) a1
                  rw [hf] at hs
                  exact hs b (by simpa using hb)
                exact p1 σ _ _ _ r2 ((a1.frz fr).relist haf fr2 ⟨_, hv, rfl⟩) Same.refl
              · exact p1.elim
          | _ => rw [e1] at p1; exact p1.elim
    · exact q.elim
end
end Mp
set_option maxHeartbeats 1000000
/-! Ext2: insert, items set, augmented assignments, pairs. -/
namespace Mp
open PySem PySem.Spec PyProof.Rows L2
theorem RXs.split {c : Cf} {Z : Ad} {H : Hp} : ∀ {l : List X} {vs : List V} {F : List Addr} (n : Nat), RXs c Z H l vs F → ∃ Fa Fb, F = Fa ++ Fb ∧ RXs c Z H (l.take n) (vs.take n) Fa ∧ RXs c Z H (l.drop n) (vs.drop n) Fb
  | _, _, F, 0, h => ⟨[], F, rfl, .nil, h⟩
  | _, _, _, _ + 1, .nil => ⟨[], [], rfl, .nil, .nil⟩
  | _, _, _, n + 1, @RXs.cons _ _ _ x v xs vs F F' h1 h2 => by
    obtain ⟨Fa, Fb, e, ha, hb⟩ := RXs.split n h2
    subst e
    exact ⟨F ++ Fa, Fb, by rw [List.append_assoc], .cons h1 ha, hb⟩
section
variable {T : At} {e k : E} {a ka : Expr} {i : Nat} {x : Str} {p apos cpos pos : Pos}
/-- xs.insert(k, e) -/
theorem ss_ins (hx : PE T.X (.Name x p) (tVar i)) (hk : SE T k ka) (h : SE T e a) (hsw : swapsWith (.Call (.Attribute (.Name x p) "insert" apos) [ka, a] [] cpos) none pos.line T.X.env = pure false)
    (hbase : attributeBase (.Name x p) "insert" T.X.env (eval (.Name x p) T.X.env) = eval (.Name x p) T.X.env)
    (hfew : ((backTo cpos (starEach [ka, a] T.X.env)).all (fun x => !x.1) && (backToKw cpos (keywordEach [] T.X.env)).all (fun x => x.1.isSome) && decide ([ka, a].length + ([] : List Keyword).length + (if ([] : List Keyword).isEmpty then 0 else 1) < 30)) = true)
    (hline : (apos.endLine == cpos.line) = true) (hs2 : starEach [ka, a] T.X.env = (false, eval ka T.X.env) :: starEach [a] T.X.env) (hs : starEach [a] T.X.env = [(false, eval a T.X.env)]) :
    SS T (.ins i k e) (.Expr (.Call (.Attribute (.Name x p) "insert" apos) [ka, a] [] cpos) pos) :=
  PS.imp (ps_expr (pe_bm F.plainAttrs_list F.slot_list_insert rfl mt_insert hx (pa_cons hk (pa_cons h pa_nil hs) hs2) hbase hfew hline hs2 (by rw [hs]; rfl)) hsw) fun D σ H ⟨Z, s, f, r, q⟩ => by
    have q : postS T.c T.W T.mu σ Z H f (if isLstAt s[i]? then (ev T.C T.G k s).fl (kIns1 T.C T.G i e) else .stuck) D := q
    split at q
    · rename_i hl
      obtain ⟨l0, e0⟩ := isLst_some hl
      obtain ⟨a0, vs0, F0, s0, _, h0, _⟩ := r.lst e0
      refine ⟨.ref a0, s0, .inl ⟨rfl, vs0, .inl (.inl h0)⟩, Z, s, f, r, postS.fl (k := kIns1 T.C T.G i e) q fun kx s1 kv Z1 H1 f1 _ r1 a1 ⟨Fk, tk, frk⟩ p0 => ?_⟩
      refine ⟨Z1, s1, f1, r1, postS.fl2 (k := kIns2 i kx) (r := ev T.C T.G e s1) p0 a1 fun y s2 v Z2 H2 f2 _ r2 a2 ⟨Fy, t, fr⟩ p1 => ?_⟩
      have p1 : postS T.c T.W T.mu σ Z H f (insOp i y s2[i]? kx s2) D := p1
      cases e1 : s2[i]? with
      | none => rw [e1] at p1; exact p1.elim
      | some o =>
        cases o with
        | none => rw [e1] at p1; exact p1.elim
        | some z =>
          cases z with
          | lst l =>
            rw [e1] at p1
            cases kx with
            | d kx =>
              cases kx with
              | int c =>
                have p1 : postS T.c T.W T.mu σ Z H f (if l.length < lim ∧ 0 ≤ c ∧ c ≤ l.length then .nx (s2.set i (some (.lst (l.take c.toNat ++ y :: l.drop c.toNat)))) else .stuck) D := p1
                split at p1
                · rename_i hz
                  obtain ⟨a3, vs, F, s3, hf, hv, hxs, na, nd⟩ := r2.lst e1
                  rw [s0] at s3; cases s3
                  have hlen := hxs.length
                  refine ⟨a0, vs, c, v, rfl, by rw [tk.rx.int], hv, by rw [← lim_eq, ← hlen]; exact hz.1, hz.2.1, by have := hz.1; have := hz.2.2; unfold lim at *; omega, ?_⟩
                  have haf : a0 ∈ f2 i := by rw [hf]; exact List.mem_cons_self
                  have nz := r2.nz i a0 haf
                  have naY : a0 ∉ Fy := fun z => t.nf a0 z ⟨i, haf⟩
                  have dj : ∀ b ∈ F, b ∉ Fy := fun b hb z => t.nf b z ⟨i, by rw [hf]; exact List.mem_cons_of_mem _ hb⟩
                  obtain ⟨Fa, Fb, hF, ra, rb⟩ := hxs.split c.toNat
                  subst hF
                  have na1 : a0 ∉ Fa := fun z => na (List.mem_append_left _ z)
                  have na2 : a0 ∉ Fb := fun z => na (List.mem_append_right _ z)
                  have hw : ∃ o, H2 a0 = some o ∧ own o = true := ⟨_, hv, rfl⟩
                  have nd' := List.nodup_append.mp nd
                  have r3 := r2.relist (l' := l.take c.toNat ++ y :: l.drop c.toNat) (vs' := vs.take c.toNat ++ [v] ++ vs.drop c.toNat) (F2 := Fa ++ (Fy ++ Fb)) s0 hf hv
                    (by
                      rw [List.append_assoc]
                      exact (ra.stay na1 nz hw upd_oth).append (RXs.cons (RX.kp ⟨fun b o e _ h => by
                        rw [upd_ne (fun z => by
                          subst z
                          rcases h with h | h
                          · obtain ⟨o', e', h'⟩ := hw
                            rw [e] at e'; cases e'
                            rw [h] at h'; cases h'
                          · exact nz h)]
                        exact e, fun _ z => z⟩ t.rx fun b hb o e => by rw [upd_ne (fun z => naY (by subst z; exact hb))]; exact e) (rb.stay na2 nz hw upd_oth)))
                    (List.nodup_append.mpr ⟨nd'.1, List.nodup_append.mpr ⟨t.nd, nd'.2.1, fun b hb d hd z => dj d (List.mem_append_right _ hd) (z ▸ hb)⟩, fun b hb d hd z => by
                      subst z
                      rcases List.mem_append.mp hd with hd | hd
                      · exact dj b (List.mem_append_left _ hb) hd
                      · exact nd'.2.2 b hb b hd rfl⟩)
                    (by simp [na1, na2, naY])
                    (fun b hb => by
                      rcases List.mem_append.mp hb with hb | hb
                      · exact .inl (List.mem_append_left _ hb)
                      · rcases List.mem_append.mp hb with hb | hb
                        · exact .inr ⟨t.nz b hb, t.nf b hb⟩
                        · exact .inl (List.mem_append_right _ hb))
                  have fr2 : From H f (a0 :: (Fa ++ (Fy ++ Fb))) := fun b hb => by
                    have hs := From.slot (i := i) (a1.trans a2)
                    rw [hf] at hs
                    rcases List.mem_cons.mp hb with rfl | hb
                    · exact hs _ List.mem_cons_self
                    · rcases List.mem_append.mp hb with hb | hb
                      · exact hs b (List.mem_cons_of_mem _ (List.mem_append_left _ hb))
                      · rcases List.mem_append.mp hb with hb | hb
                        · exact From.fr a1 fr b hb
                        · exact hs b (List.mem_cons_of_mem _ (List.mem_append_right _ hb))
                  exact p1 σ Z2 _ _ r3 ((a1.trans a2).relist haf fr2 ⟨_, hv, rfl⟩) Same.refl
                · exact p1.elim
              | _ => exact p1.elim
            | _ => exact p1.elim
          | _ => rw [e1] at p1; exact p1.elim
    · exact q.elim
end
end Mp
set_option maxHeartbeats 1000000
/-! Snd6: augmented assignment, pairs, raise, try, while. -/
namespace Mp
open PySem PySem.Spec PyProof.Rows L2
/-- a op= b with numbers, texts -/
def rIp (X : Cx) (L : Lay) (o : B) : TIp := fun x y H Q => ∃ Z a b F1 F2 r, RX (cf X L) Z H a x F1 ∧ RX (cf X L) Z H b y F2 ∧ (bop o a b).bind scalX = some r ∧ ResOk (cf X L) Z H r Q
section
variable {X : Cx} {L : Lay}
theorem scal_some {o : Option Mp.X} {r : Mp.X} (h : o.bind scalX = some r) : (∃ i, r = .d (.int i) ∧ o = some (.d (.int i))) ∨ ∃ z, r = .d (.str z) ∧ o = some (.d (.str z)) := by
  obtain ⟨x, rfl, e⟩ := Option.bind_eq_some_iff.mp h
  unfold scalX at e
  split at e
  · cases e; exact .inl ⟨_, rfl, rfl⟩
  · cases e; exact .inr ⟨_, rfl, rfl⟩
  · cases e
theorem ip_addX : PIp X .Add (rIp X L .add) := by
  intro pins s σ H x y v u Q I rx ry ⟨Z, a, b, F1, F2, r, h1, h2, e, q⟩
  have e0 : (bAdd a b).bind scalX = some r := e
  clear e
  unfold bAdd at e0
  split at e0
  · rename_i i j
    cases e0
    exact iop_add pins s σ H x y v u Q I rx ry ⟨i, j, h1.int, h2.int, res_int q⟩
  · rename_i i j
    obtain ⟨e1, k1⟩ := h1.str
    obtain ⟨e2, k2⟩ := h2.str
    split at e0
    · rename_i hl
      cases e0
      exact iop_add_str pins s σ H x y v u Q I rx ry ⟨i, j, e1, e2, by rw [← lim_eq]; exact hl, q.data (.str _ ⟨strOk_append k1.1 k2.1, strLen_append i j ▸ hl⟩)⟩
    · cases e0
  · split at e0 <;> cases e0
  · cases q1 : isl a with
    | none => rw [q1] at e0; cases e0
    | some l =>
      cases q2 : isl b with
      | none => rw [q1, q2] at e0; cases e0
      | some m =>
        rw [q1, q2] at e0
        have e0 : (if l.length + m.length ≤ lim then some (Mp.X.lst ((l ++ m).map Mp.X.d)) else none).bind scalX = some r := e0
        split at e0 <;> cases e0
theorem ip_subX : PIp X .Sub (rIp X L .sub) := by
  intro pins s σ H x y v u Q I rx ry ⟨Z, a, b, F1, F2, r, h1, h2, e, q⟩
  have e0 : (bSub a b).bind scalX = some r := e
  clear e
  unfold bSub at e0
  split at e0
  · rename_i i j
    cases e0
    exact iop_sub pins s σ H x y v u Q I rx ry ⟨i, j, h1.int, h2.int, res_int q⟩
  · cases e0
theorem ip_mulX : PIp X .Mult (rIp X L .mul) := by
  intro pins s σ H x y v u Q I rx ry ⟨Z, a, b, F1, F2, r, h1, h2, e, q⟩
  have e0 : (bMul a b).bind scalX = some r := e
  clear e
  unfold bMul at e0
  split at e0
  · rename_i i j
    split at e0
    · rename_i hj
      cases e0
      exact iop_mul pins s σ H x y v u Q I rx ry ⟨i, j, h1.int, h2.int, mulOk_ok hj, res_int q⟩
    · cases e0
  · cases e0
theorem ip_divX : PIp X .FloorDiv (rIp X L .fdiv) := by
  intro pins s σ H x y v u Q I rx ry ⟨Z, a, b, F1, F2, r, h1, h2, e, q⟩
  have e0 : (bDiv a b).bind scalX = some r := e
  clear e
  unfold bDiv at e0
  split at e0
  · rename_i i j
    split at e0
    · rename_i hj
      cases e0
      exact iop_fdiv pins s σ H x y v u Q I rx ry ⟨i, j, h1.int, h2.int, hj, res_int q⟩
    · cases e0
  · cases e0
theorem ip_modX : PIp X .Mod (rIp X L .mod) := by
  intro pins s σ H x y v u Q I rx ry ⟨Z, a, b, F1, F2, r, h1, h2, e, q⟩
  have e0 : (bMod a b).bind scalX = some r := e
  clear e
  unfold bMod at e0
  split at e0
  · rename_i i j
    split at e0
    · rename_i hj
      cases e0
      exact iop_mod pins s σ H x y v u Q I rx ry ⟨i, j, h1.int, h2.int, hj, res_int q⟩
    · cases e0
  · cases e0
end
section
variable {T : At} {e e1 e2 k : E} {a b ka : Expr} {i j : Nat} {x y : Str} {p apos cpos pos pos' : Pos} {o : B}
theorem peek_fl {s : S} {kk : Mp.X → S → Fl} {c : Cf} {W : WX} {mu : List Nat} {σ : L2.St} {Z : Ad} {H : Hp} {f : Fp} {D : Ends} (q : postS c W mu σ Z H f ((peek i s).fl kk) D) : ∃ z, s[i]? = some (some z) ∧ postS c W mu σ Z H f (kk z s) D := by
  cases h : peek i s with
  | ok z s' =>
    rw [h] at q
    obtain ⟨h1, h2⟩ := peek_ok h
    subst h2
    exact ⟨z, h1, q⟩
  | exc e s' => unfold peek at h; split at h <;> cases h
  | stuck => rw [h] at q; exact q.elim
/-- x op= e -/
theorem ss_aug {op : Operator} (hN : T.X.N.Nodup) (hi : T.X.N[i]? = some x) (hx : Loc T.X.env.scope x) (hf : T.X.fn x = true ∨ T.X.env.scope.names.lookup x = some .local) (hm : i ∉ T.mu) (hp : PIp T.X op (rIp T.X T.fa o)) (h : SE T e a) :
    SS T (.aug i o e) (.AugAssign (.Name x pos') op a pos) := ⟨fun pins s σ H D I q => (ps_aug hN hi hx h hp hf).run pins s σ H D I (by
  obtain ⟨Z, s0, f, r, q⟩ := q
  obtain ⟨z, e0, q⟩ := peek_fl (kk := kAug0 T.C T.G i o e) q
  obtain ⟨v, s0', _⟩ := r.at_ i z e0
  refine ⟨v, s0', Z, s0, f, r, postS.fl (k := kAug i o) q fun yv s1 yV Z1 H1 f1 _ r1 a1 ⟨Fy, t, fr⟩ p1 => ?_⟩
  obtain ⟨z1, e1, p1⟩ := peek_fl (kk := kAug2 i o yv) p1
  obtain ⟨v1, s1', rx⟩ := r1.at_ i z1 e1
  rw [s0'] at s1'; cases s1'
  have p1 : postS T.c T.W T.mu σ Z H f (augPut i s1 ((bop o z1 yv).bind scalX)) D := p1
  cases e2 : (bop o z1 yv).bind scalX with
  | none => rw [e2] at p1; exact p1.elim
  | some w =>
    rw [e2] at p1
    refine ⟨Z1, z1, yv, _, Fy, w, rx, t.rx, e2, fun wv H2 Fw ext rw' ndw frw => ?_⟩
    have hl : i < s1.length := (List.getElem?_eq_some_iff.mp e1).1
    have r2 := r1.fr ext
    have a2 : Fr Z1 H1 f1 Z1 H2 f1 := Fr.ext ext
    have hw : ∃ d, w = .d d := by
      rcases scal_some e2 with ⟨_, rfl, _⟩ | ⟨_, rfl, _⟩ <;> exact ⟨_, rfl⟩
    obtain ⟨d, rfl⟩ := hw
    cases rw' with
    | d hd => exact p1 _ Z1 H2 _ (r2.put hl (Tmp.d hd)) ((a1.trans a2).trans (Fr.put From.nil)) (Same.but But.set fun j hj => by simp at hj; subst hj; exact hm))⟩
/-- a, b = x, y with names -/
theorem ss_par {pt px py : Pos} {kt k2 pt2} (hc : T.X.calm = true) (hN : T.X.N.Nodup) (hi : T.X.N[i]? = some x) (hj : T.X.N[j]? = some y) (hij : i ≠ j) (hx : T.X.env.scope.names.lookup x = some .local) (hy : T.X.env.scope.names.lookup y = some .local) (hm : i ∉ T.mu) (hm2 : j ∉ T.mu)
    (ha : SA T [e1, e2] [a, b]) (hw : swappedStores [.Tuple [.Name x px, .Name y py] kt pt] (.Tuple [a, b] k2 pt2) T.X.env = pure (some [x, y]))
    (hs : swapsWithSole [.Tuple [.Name x px, .Name y py] kt pt] (.Tuple [a, b] k2 pt2) pos.line T.X.env = pure false) :
    SS T (.par [i, j] [e1, e2]) (.Assign [.Tuple [.Name x px, .Name y py] kt pt] (.Tuple [a, b] k2 pt2) pos) := ⟨fun pins s σ H D I q => (ps_par hc hN hi hj hij hx hy ha hw hs).run pins s σ H D I (by
  obtain ⟨Z, s0, f, r, q⟩ := q
  refine ⟨Z, s0, f, r, postS.fl (k := kPar [i, j]) (K := kXs T.c) q fun xs s1 vs Z1 H1 f1 _ r1 a1 ⟨F, t, fr⟩ p1 => ?_⟩
  have p1 : postS T.c T.W T.mu σ Z H f (if xs.length = 2 then .nx (putBack [i, j] xs s1) else .stuck) D := p1
  split at p1
  · rename_i hl
    obtain ⟨x1, x2, rfl⟩ : ∃ x1 x2, xs = [x1, x2] := by
      match xs, hl with
      | [x1, x2], _ => exact ⟨x1, x2, rfl⟩
    have ilt : i < s1.length := by rw [r1.len, I.len]; exact (List.getElem?_eq_some_iff.mp hi).1
    have jlt : j < s1.length := by rw [r1.len, I.len]; exact (List.getElem?_eq_some_iff.mp hj).1
    have nd := t.nd
    have nz := t.nz
    have nf := t.nf
    cases t.rx with
    | @cons _ v _ vs2 F1 F2 g1 g2 =>
      cases g2 with
      | @cons _ w _ vs3 F3 F4 g3 g4 =>
        cases g4
        rw [List.append_nil] at nd nz nf fr
        have nd' := List.nodup_append.mp nd
        have t1 : Tmp T.c Z1 H1 f1 x1 v F1 := ⟨g1, nd'.1, fun b hb => nz b (List.mem_append_left _ hb), fun b hb => nf b (List.mem_append_left _ hb)⟩
        have r2 := r1.put ilt t1
        have t2 : Tmp T.c Z1 H1 (fset f1 i F1) x2 w F3 := ⟨g3, nd'.2.1, fun b hb => nz b (List.mem_append_right _ hb), fun b hb ⟨l, hl⟩ => by
          by_cases e : l = i
          · subst e; rw [fset_same] at hl; exact nd'.2.2 b hl b hb rfl
          · rw [fset_ne e] at hl; exact nf b (List.mem_append_right _ hb) ⟨l, hl⟩⟩
        have r3 := r2.put (by rw [List.length_set]; exact jlt) t2
        refine ⟨v, w, rfl, p1 _ Z1 H1 _ r3 ⟨a1.keep, a1.zz, a1.znew, fun b ⟨l, hl⟩ => ?_, a1.live, a1.tb⟩ fun l hl => ?_⟩
        · by_cases e : l = j
          · subst e; rw [fset_same] at hl; exact fr b (List.mem_append_right _ hl)
          · rw [fset_ne e] at hl
            by_cases e : l = i
            · subst e; rw [fset_same] at hl; exact fr b (List.mem_append_left _ hl)
            · rw [fset_ne e] at hl; exact a1.fnew b ⟨l, hl⟩
        · rw [List.getElem?_set_ne (fun e : j = l => hm2 (by rw [e]; exact hl)), List.getElem?_set_ne (fun e : i = l => hm (by rw [e]; exact hl))]
  · exact p1.elim)⟩
/-! raise -/
theorem pmk_0 {X : Cx} {C : Addr} {bmB : List Value} {B newId initId : String} {x : Str} {p pos : Pos} (F : ExcBaseFacts B newId initId bmB) (q : PySem.W.excIn X.K C bmB newId = true) (gC : X.mg x = some (.ref C)) (kC : PySem.W.keepIn X.K (.ref C) = true) (r : Raises X (.ref C)) (hg : Gl X x)
    (hdb : (x == ("__debug__" : Str)) = false) : PMk X (.Call (.Name x p) [] [] pos) (fun _ H Q => Q (.ref C) none H) := by
  intro pins s σ H Q I h
  refine wpAny_Call_Name_kw (ld_glob I hg gC ?_ hdb)
  refine PySem.W.callWith_K0 I.kIn kC ?_
  show wpAny _ _ (PySem.call (.ref C) []) _ _ _
  obtain ⟨bm, N, nm, qn, bs, hdct, sn, sub, ab, col, dd, k0, k1, k2, k3, k5, mN, hC, hN, hni, T⟩ := exc_obj I.kIn q
  refine wpAny_call_exc_subT F T hC hN hni (fun h' e hm => ?_) (by show 0 ≤ sizeLine; omega)
  exact mk_of I hm r h (I.hok.gone hm.new)
theorem pmk_n {X : Cx} {C : Addr} {bmB : List Value} {B newId initId : String} {x : Str} {e : Expr} {es : List Expr} {t : TA} {p pos : Pos} (F : ExcBaseFacts B newId initId bmB) (q : PySem.W.excIn X.K C bmB newId = true) (gC : X.mg x = some (.ref C)) (kC : PySem.W.keepIn X.K (.ref C) = true) (r : Raises X (.ref C)) (hg : Gl X x)
    (hdb : (x == ("__debug__" : Str)) = false) (ha : PA X (e :: es) t) (he : starEach (e :: es) X.env = (false, eval e X.env) :: starEach es X.env) (hpl : (backTo pos (starEach es X.env)).any (·.1) = false) :
    PMk X (.Call (.Name x p) (e :: es) [] pos) (fun σ H Q => t σ H fun vs H1 => vs.length ≤ sizeLine ∧ Q (.ref C) none H1) := by
  intro pins s σ H Q I h
  refine wpAny_Call_Name_kw (ld_glob I hg gC ?_ hdb)
  refine PySem.W.callWith_K (h₀ := X.base) I.ok.mod.kin kC (thn (ha.run pos pins s σ H _ I h) fun us s1 ⟨vs, H1, I1, r1, hz, hq⟩ => ⟨I1.kIn, ?_⟩) he hpl
  show wpAny _ _ (PySem.call (.ref C) us) _ _ _
  obtain ⟨bm, N, nm, qn, bs, hdct, sn, sub, ab, col, dd, k0, k1, k2, k3, k5, mN, hC, hN, hni, T⟩ := exc_obj I1.kIn q
  refine wpAny_call_exc_subT F T hC hN hni (fun h' e hm => ?_) (by rw [← r1.length]; exact hz)
  exact mk_of I1 hm r hq (I1.hok.gone hm.new)
theorem ss_raise0 {cl : Nat} (hc : T.X.calm = true) (tk : Takes T.X T.W) (hf : T.fa.fld cl = []) (hk : PMk T.X a (fun _ H Q => Q (T.fa.cls cl) none H)) : SS T (.raise cl []) (.Raise (some a) none pos) := PS.imp (ps_raise hc tk hk) fun D σ H ⟨Z, s, f, r, p⟩ => by
  have p : postS T.c T.W T.mu σ Z H f (.exc ⟨cl, []⟩ s) D := p
  exact p σ Z H f none r Fr.refl Same.refl (.inl ⟨hf, rfl⟩)
theorem ss_raise {cl : Nat} {es : List E} {as : List Expr} (hc : T.X.calm = true) (tk : Takes T.X T.W) (hf : T.fa.fld cl = []) (hk : PMk T.X a (fun σ H Q => tAs T.c T.C T.G T.W es σ H fun vs H1 => vs.length ≤ sizeLine ∧ Q (T.fa.cls cl) none H1)) (hz : noStar es = true) (hl : es.length ≤ 100) : SS T (.raise cl es) (.Raise (some a) none pos) := PS.imp (ps_raise hc tk hk) fun D σ H ⟨Z, s, f, r, p⟩ =>
  ⟨Z, s, f, r, postS.fl (k := kRaise cl) (K := kXs T.c) p fun xs s1 vs Z1 H1 f1 e1 r1 a1 ⟨F, t, fr⟩ p1 => by
    have p1 : postS T.c T.W T.mu σ Z H f (raiseOp cl s1 (dats? xs)) D := p1
    have hlen : ∀ {es : List E} {s s1 : S} {xs : List Mp.X}, noStar es = true → evs T.C T.G es s = .ok xs s1 → xs.length = es.length := by
      intro es
      induction es with
      | nil => intro s s1 xs _ h; cases h; rfl
      | cons e es ih =>
        intro s s1 xs hn h
        by_cases hs : isStar e = true
        · cases e with
          | star z => cases hn
          | mu i => cases h
          | _ => cases hs
        · have hs : isStar e = false := by simpa using hs
          rw [evs_cons (h := hs)] at h
          obtain ⟨x, s2, _, h⟩ := bind_okE h
          obtain ⟨ys, s3, h1, h2⟩ := bind_okE (show (evs T.C T.G es s2).bind (kCons x) = .ok xs s1 from h)
          cases h2
          have hn' : noStar es = true := by
            cases e with
            | star z => cases hn
            | _ => exact hn
          simp [ih hn' h1]
    refine ⟨by rw [← t.rx.length, hlen hz e1, sizeLine_eq]; omega, ?_⟩
    cases q : dats? xs with
    | none => rw [q] at p1; exact p1.elim
    | some ds => rw [q] at p1; exact p1 σ Z1 H1 f1 none r1 a1 Same.refl (.inl ⟨hf, rfl⟩)⟩
/-! try -/
/-- the text within a try; in an except's suite; in a comprehension's block -/
abbrev At.tr (T : At) (pn : List (Addr × Obj)) (xe : Value → Shared → Prop) (W : WX) : At := { T with X := T.X.tr pn xe, W := W }
abbrev At.suite (T : At) (a : Addr) (pn : List (Addr × Obj)) : At := { T with X := T.X.suite a pn, W := fun _ _ _ _ => False }
/-- the clauses -/
inductive SHs (T : At) : List Hn → List ExceptHandler → List (Value × (Addr → Value → Option Addr → TS)) → Prop
  | nil : SHs T [] [] []
  | cons {cs : List Nat} {body : List St} {hs : List Hn} {x : Str} {c : Value} {b₀ : Stmt} {suite : List Stmt} {np pos' : Pos} {hds : List ExceptHandler} {l : List (Value × (Addr → Value → Option Addr → TS))} (hc : Names T.X x c)
      (hm : ∀ n, PySem.W.exmOne T.X.K (T.fa.cls n) c = some (cs.contains n)) (hx : ∀ s e s', exs T.C T.G body s ≠ .exc e s')
      (hsu : ∀ (a : Addr) (oe : Obj) (cls : Value) (d : Option Addr) (pn : List (Addr × Obj)), Zc cls d oe → (∃ vs, oe.data = .fields vs) → SSs (T.suite a ((a, oe) :: pn)) body (b₀ :: suite)) (r : SHs T hs hds l) :
      SHs T (.mk cs none body :: hs) (.ExceptHandler (some (.Name x np)) none (b₀ :: suite) pos' :: hds) ((c, fun _ _ _ => tSs T.c T.C T.G (fun _ _ _ _ => False) T.mu body) :: l)
theorem SHs.ok {hs : List Hn} {hds : List ExceptHandler} {l : List (Value × (Addr → Value → Option Addr → TS))} (h : SHs T hs hds l) : HdsOk T.X hds l := by
  induction h with
  | nil => exact .nil
  | cons hc hm hx hsu r ih => exact .cons hc hsu ih
theorem SHs.many {hs : List Hn} {hds : List ExceptHandler} {l : List (Value × (Addr → Value → Option Addr → TS))} {D : Ends} {e : Ex} {s : S} {σ σ' : L2.St} {Z Z' : Ad} {H H' : Hp} {f f' : Fp} {d : Option Addr} (h : SHs T hs hds l) (r : Rel T.c Z' H' s σ' f') (a : Fr Z H f Z' H' f') (b : Same T.mu σ σ') (hx : ExD T.c Z' H' e d)
    (p : postS T.c T.W T.mu σ Z H f (exh T.C T.G hs e s) D) : wMany T.X.K T.W D l (T.fa.cls e.cls) d σ' H' := by
  induction h with
  | nil => exact p σ' Z' H' f' d r a b hx
  | @cons cs body hs x c b₀ suite np pos' hds l hc hm hxx hsu rr ih =>
    refine ⟨cs.contains e.cls, hm e.cls, fun hb ad _ => ?_, fun hb => ?_⟩
    · have p : postS T.c T.W T.mu σ Z H f (if cs.contains e.cls then exs T.C T.G body s else exh T.C T.G hs e s) D := p
      rw [hb, if_pos rfl] at p
      refine ⟨Z', s, f', r, ?_⟩
      have p2 := p.shift a b
      cases q : exs T.C T.G body s with
      | exc e' s' => exact absurd q (hxx s e' s')
      | nx s' => rw [q] at p2; exact p2
      | bk s' => rw [q] at p2; exact p2
      | ct s' => rw [q] at p2; exact p2
      | rt x s' => rw [q] at p2; exact p2
      | stuck => rw [q] at p2; exact p2
    · have p : postS T.c T.W T.mu σ Z H f (if cs.contains e.cls then exs T.C T.G body s else exh T.C T.G hs e s) D := p
      rw [hb, if_neg (by simp)] at p
      exact ih p
theorem ss_try {body : List St} {ba : List Stmt} {h0 : ExceptHandler} {hs : List Hn} {hds : List ExceptHandler} {l : List (Value × (Addr → Value → Option Addr → TS))} (hst : T.X.stack = T.X.env :: T.X.outer) (hf : T.X.env.frame = some T.X.env.locals) (tk : Takes T.X T.W)
    (hb : ∀ (W : WX) (pn : List (Addr × Obj)) (xe : Value → Shared → Prop), Takes (T.X.tr pn xe) W → PassesOwn (model T.X.prog T.X.w) T.X.A T.X.env xe → SSs (T.tr pn xe W) body ba) (hh : SHs T hs (h0 :: hds) l) :
    SS T (.try_ body hs) (.Try ba (h0 :: hds) [] [] pos) := PS.imp (ps_try_many (tb := fun W => tSs T.c T.C T.G W T.mu body) hst hf tk hb hh.ok) fun D σ H ⟨Z, s, f, r, p⟩ => by
  have p : postS T.c T.W T.mu σ Z H f (match exs T.C T.G body s with
    | .exc e s => exh T.C T.G hs e s
    | o => o) D := p
  refine ⟨Z, s, f, r, ?_⟩
  cases q : exs T.C T.G body s with
  | exc e s' =>
    rw [q] at p
    exact fun σ' Z' H' f' d r' a' b' hx => hh.many r' a' b' hx p
  | nx s' => rw [q] at p; exact p
  | bk s' => rw [q] at p; exact p
  | ct s' => rw [q] at p; exact p
  | rt x s' => rw [q] at p; exact p
  | stuck => rw [q] at p; exact p
end
end Mp
set_option maxHeartbeats 1000000
/-! Ext3: items of a list set, augmented. -/
namespace Mp
open PySem PySem.Spec PyProof.Rows L2
theorem ixOf_ixN {n : Nat} {i : Int} {j : Nat} (h : ixOf n i = some j) : ixN n i = some j := by
  unfold ixOf at h
  unfold ixN
  split at h
  · rename_i h0
    split at h
    · rename_i h1
      cases h
      rw [if_pos h0, if_pos (by omega)]
    · cases h
  · rename_i h0
    split at h
    · rename_i h1
      cases h
      rw [if_neg h0, if_pos (by omega)]
    · cases h
theorem get_list {X : Cx} : PGet X (rIxL X.K) := by
  intro pins s σ H x y v u Q I rx ry h
  obtain ⟨p, xs, i, z, rfl, rfl, hq, he, q⟩ := h
  cases rx
  obtain ⟨t, rfl⟩ := ry
  obtain ⟨its, r, pl, hz⟩ := I.list hq
  obtain ⟨j, h1, h2, h3, h4, h5⟩ := atI_get he
  obtain ⟨w, ew, rw'⟩ := r.get h2
  have hl := r.length
  have hn := line63
  have fin : EP X pins σ Q w s := ⟨z, H, I, rw', q⟩
  by_cases h0 : 0 ≤ i
  · have hj : i.toNat = j := by
      rw [seqIndex_of h0 h5] at h1
      exact Option.some.inj h1
    exact wpAny_getItem_list pl.isList h0 (by omega) (by rw [hj]; simpa using ew) fin
  · have hj : (i + (its.toArray.size : Int)).toNat = j := by
      rw [seqIndex_neg (by omega) h4] at h1
      rw [List.size_toArray, ← hl]
      exact Option.some.inj h1
    exact wpAny_getItem_list_neg pl.isList (by omega) (by rw [List.size_toArray] <;> omega) (by omega) (by rw [hj]; simpa using ew) fin
theorem RXs.set {c : Cf} {Z : Ad} {H : Hp} {y : X} {v : V} {Fy : List Addr} (hy : RX c Z H y v Fy) : ∀ {l : List X} {vs : List V} {F : List Addr} (j : Nat), RXs c Z H l vs F → F.Nodup → Fy.Nodup → (∀ a ∈ F, a ∉ Fy) →
    ∃ F2, RXs c Z H (l.set j y) (vs.set j v) F2 ∧ F2.Nodup ∧ ∀ a ∈ F2, a ∈ F ∨ a ∈ Fy
  | _, _, _, _, .nil, _, _, _ => ⟨[], .nil, List.nodup_nil, fun _ h => nomatch h⟩
  | _, _, _, 0, @RXs.cons _ _ _ x w xs ws F F' h1 h2, nd, ny, dj => by
    have nd' := List.nodup_append.mp nd
    exact ⟨Fy ++ F', .cons hy h2, List.nodup_append.mpr ⟨ny, nd'.2.1, fun a ha b hb e => dj b (List.mem_append_right _ hb) (e ▸ ha)⟩, fun a ha => (List.mem_append.mp ha).elim .inr fun z => .inl (List.mem_append_right _ z)⟩
  | _, _, _, j + 1, @RXs.cons _ _ _ x w xs ws F F' h1 h2, nd, ny, dj => by
    have nd' := List.nodup_append.mp nd
    obtain ⟨F2, g1, g2, g3⟩ := RXs.set hy j h2 nd'.2.1 ny fun a ha => dj a (List.mem_append_right _ ha)
    refine ⟨F ++ F2, .cons h1 g1, List.nodup_append.mpr ⟨nd'.1, g2, fun a ha b hb e => ?_⟩, fun a ha => ?_⟩
    · subst e
      rcases g3 a hb with z | z
      · exact nd'.2.2 a ha a z rfl
      · exact dj a (List.mem_append_left _ ha) z
    · rcases List.mem_append.mp ha with z | z
      · exact .inl (List.mem_append_left _ z)
      · exact (g3 a z).imp (List.mem_append_right _) id
section
variable {T : At} {e k : E} {a ka : Expr} {i : Nat} {x : Str} {p tpos pos : Pos} {o : B}
/-- the store at the end -/
theorem set_end {Z Z2 : Ad} {H H2 : Hp} {f f2 : Fp} {σ : L2.St} {s2 : S} {y kx : Mp.X} {v kv v0 : V} {Fy Fk : List Addr} {D : Ends} (r2 : Rel T.c Z2 H2 s2 σ f2) (a2 : Fr Z H f Z2 H2 f2) (t : Tmp T.c Z2 H2 f2 y v Fy) (fr : From H f Fy) (tk : RX T.c Z2 H2 kx kv Fk) (s0 : σ[i]? = some (some v0))
    (p1 : postS T.c T.W T.mu σ Z H f (setOp i y s2[i]? kx s2) D) : rSetL v0 kv v H2 fun H3 => D.nx σ H3 := by
  cases e1 : s2[i]? with
  | none => rw [e1] at p1; exact p1.elim
  | some o =>
    cases o with
    | none => rw [e1] at p1; exact p1.elim
    | some z =>
      cases z with
      | lst l =>
        rw [e1] at p1
        cases kx with
        | d kx =>
          cases kx with
          | int c =>
            have p1 : postS T.c T.W T.mu σ Z H f (setPut i l y s2 (ixOf l.length c)) D := p1
            cases q : ixOf l.length c with
            | none => rw [q] at p1; exact p1.elim
            | some j =>
              rw [q] at p1
              obtain ⟨a0, vs, F, s3, hf, hv, hxs, na, nd⟩ := r2.lst e1
              rw [s0] at s3; cases s3
              refine ⟨a0, vs, c, j, rfl, by rw [tk.int], hv, by rw [← hxs.length]; exact ixOf_ixN q, ?_⟩
              have haf : a0 ∈ f2 i := by rw [hf]; exact List.mem_cons_self
              have nz := r2.nz i a0 haf
              have naY : a0 ∉ Fy := fun z => t.nf a0 z ⟨i, haf⟩
              have dj : ∀ b ∈ F, b ∉ Fy := fun b hb z => t.nf b z ⟨i, by rw [hf]; exact List.mem_cons_of_mem _ hb⟩
              obtain ⟨F2, g1, g2, g3⟩ := RXs.set t.rx j hxs nd t.nd dj
              have na2 : a0 ∉ F2 := fun z => (g3 a0 z).elim na naY
              have r3 := r2.relist (l' := l.set j y) (vs' := vs.set j v) (F2 := F2) s0 hf hv (g1.stay na2 nz ⟨_, hv, rfl⟩ upd_oth) g2 na2 fun b hb => (g3 b hb).imp id fun z => ⟨t.nz b z, t.nf b z⟩
              have fr2 : From H f (a0 :: F2) := fun b hb => by
                have hs := From.slot (i := i) a2
                rw [hf] at hs
                rcases List.mem_cons.mp hb with rfl | hb
                · exact hs _ List.mem_cons_self
                · exact (g3 b hb).elim (fun z => hs b (List.mem_cons_of_mem _ z)) (fr b)
              exact p1 σ Z2 _ _ r3 (a2.relist haf fr2 ⟨_, hv, rfl⟩) Same.refl
          | _ => exact p1.elim
        | _ => exact p1.elim
      | _ => rw [e1] at p1; exact p1.elim
/-- xs[k] = e -/
theorem ss_setix (hx : PE T.X (.Name x p) (tVar i)) (hk : SE T k ka) (h : SE T e a) (ha : ∀ v, assign (.Subscript (.Name x p) ka tpos) T.X.env v = (do
      let ov ← holding [v] (eval (.Name x p) T.X.env)
      let iv ← holding [v, ov] (eval ka T.X.env)
      standAt tpos
      holding [v, ov, iv] (setItem ov iv v)
      release [v, ov, iv] [])) (hs : swapsWithSole [.Subscript (.Name x p) ka tpos] a pos.line T.X.env = pure false) (hw : swappedStores [.Subscript (.Name x p) ka tpos] a T.X.env = pure none)
    (h1 : (assignEach [.Subscript (.Name x p) ka tpos] T.X.env).map (·.2) = [assign (.Subscript (.Name x p) ka tpos) T.X.env]) : SS T (.setix i k e) (.Assign [.Subscript (.Name x p) ka tpos] a pos) :=
  PS.imp (ps_asg h (pg_sub hx hk set_list ha) hs hw h1) fun D σ H ⟨Z, s, f, r, q⟩ =>
    ⟨Z, s, f, r, postS.fl (k := kSi1 T.C T.G i k) q fun y s1 v Z1 H1 f1 _ r1 a1 ⟨Fy, t, fr⟩ p0 => by
      obtain ⟨z, e0, p0⟩ := peek_fl (kk := kSi0 T.C T.G i k y) p0
      obtain ⟨v0, s0, _⟩ := r1.at_ i z e0
      refine ⟨v0, s0, Z1, s1, f1, r1, postS.fl2 (k := kSi2 i y) (r := ev T.C T.G k s1) p0 a1 fun kx s2 kv Z2 H2 f2 _ r2 a2 ⟨Fk, tk, _⟩ p1 => ?_⟩
      exact set_end r2 (a1.trans a2) (t.fr r1 a2) fr tk.rx s0 p1⟩
/-- xs[k] op= e -/
theorem ss_augix {op : Operator} (hx : PE T.X (.Name x p) (tVar i)) (hk : SE T k ka) (h : SE T e a) (hp : PIp T.X op (rIp T.X T.fa o))
    (ha : ∀ ov iv new, augStore ka ov iv new = (do holding [new, ov, iv] (setItem ov iv new); release [new, ov, iv] []; pure .next)) (hpk : ∀ s, ∃ z, ev T.C T.G k s = .ok z s) : SS T (.augix i k o e) (.AugAssign (.Subscript (.Name x p) ka tpos) op a pos) :=
  PS.imp (ps_augS hx hk get_list h hp set_list ha) fun D σ H ⟨Z, s, f, r, q⟩ => by
    have q : postS T.c T.W T.mu σ Z H f ((ev T.C T.G k s).fl (kAi1 T.C T.G i o e)) D := q
    obtain ⟨kz, hkz⟩ := hpk s
    have q' := q
    rw [hkz] at q'
    have q' : postS T.c T.W T.mu σ Z H f ((ofO (itemAt s[i]? kz) s).fl (kAi2 T.C T.G i o e kz)) D := q'
    have hv : ∃ z, s[i]? = some (some z) := by
      cases e1 : s[i]? with
      | none => rw [e1] at q'; exact q'.elim
      | some o =>
        cases o with
        | none => rw [e1] at q'; exact q'.elim
        | some z => exact ⟨z, rfl⟩
    obtain ⟨z, e0⟩ := hv
    obtain ⟨v0, s0, _⟩ := r.at_ i z e0
    refine ⟨v0, s0, Z, s, f, r, postS.fl (k := kAi1 T.C T.G i o e) q fun kx s1 kv Z1 H1 f1 _ r1 a1 ⟨Fk, tk, _⟩ p0 => ?_⟩
    have p0 : postS T.c T.W T.mu σ Z H f ((ofO (itemAt s1[i]? kx) s1).fl (kAi2 T.C T.G i o e kx)) D := p0
    cases e1 : s1[i]? with
    | none => rw [e1] at p0; exact p0.elim
    | some oo =>
      cases oo with
      | none => rw [e1] at p0; exact p0.elim
      | some z1 =>
        cases z1 with
        | lst l =>
          rw [e1] at p0
          cases kx with
          | d kx =>
            cases kx with
            | int c =>
              have p0 : postS T.c T.W T.mu σ Z H f ((ofO ((ixOf l.length c).bind fun j => l[j]?.bind dataX) s1).fl (kAi2 T.C T.G i o e (.d (.int c)))) D := p0
              cases q1 : ((ixOf l.length c).bind fun j => l[j]?.bind dataX) with
              | none => rw [q1] at p0; exact p0.elim
              | some w =>
                rw [q1] at p0
                obtain ⟨j, j1, j2⟩ := Option.bind_eq_some_iff.mp q1
                obtain ⟨w', j3, j4⟩ := Option.bind_eq_some_iff.mp j2
                obtain ⟨a0, vs, F, s3, hf, hv, hxs, na, nd⟩ := r1.lst e1
                rw [s0] at s3; cases s3
                obtain ⟨wv, F', j5, hw⟩ := hxs.get j3
                cases w' with
                | d d =>
                  cases j4
                  cases hw with
                  | d hd =>
                    refine ⟨a0, vs, c, wv, rfl, by rw [tk.rx.int], .inl (.inl hv), ixOf_atI (by rw [← hxs.length]; exact j1) j5, Z1, s1, f1, r1, ?_⟩
                    have p0 : postS T.c T.W T.mu σ Z H f ((ev T.C T.G e s1).fl (kAi3 i o (.d (.int c)) (.d d))) D := p0
                    refine postS.fl2 (k := kAi3 i o (.d (.int c)) (.d d)) p0 a1 fun y s2 yv Z2 H2 f2 _ r2 a2 ⟨Fy, t, _⟩ p1 => ?_
                    have p1 : postS T.c T.W T.mu σ Z H f ((ofO ((bop o (.d d) y).bind scalX) s2).fl (kAi4 i (.d (.int c)))) D := p1
                    cases q2 : (bop o (.d d) y).bind scalX with
                    | none => rw [q2] at p1; exact p1.elim
                    | some zz =>
                      rw [q2] at p1
                      refine ⟨Z2, .d d, y, [], Fy, zz, .d (hd.kp (a2.kp r1)), t.rx, q2, fun zv H3 Fz ext rz ndz frz => ?_⟩
                      have r3 := r2.fr ext
                      have a3 : Fr Z2 H2 f2 Z2 H3 f2 := Fr.ext ext
                      have hz : ∃ d, zz = .d d := by
                        rcases scal_some q2 with ⟨_, rfl, _⟩ | ⟨_, rfl, _⟩ <;> exact ⟨_, rfl⟩
                      obtain ⟨d2, rfl⟩ := hz
                      cases rz with
                      | d hd2 => exact set_end r3 ((a1.trans a2).trans a3) (Tmp.d hd2) From.nil ((tk.rx.kp (a2.kp r1) fun b hb o e => a2.keep b o e (own_at (tk.rx.own b hb) e) (tk.nf b hb)).kp (a3.kp r2) fun b hb o e => ext b o e) s0 p1
                | _ => cases j4
            | _ => exact p0.elim
          | _ => exact p0.elim
        | _ => rw [e1] at p0; exact p0.elim
end
end Mp
set_option maxHeartbeats 1000000
/-! Dct: dicts, their keys tuples. -/
namespace Mp
open PySem PySem.Spec PyProof.Rows L2
/-! ### keys -/
mutual
theorem eqv_nk : ∀ (a b : D), okLeaf a = true → okLeaf b = true → PyData.eqv a b = NestedKey.beq (nk a) (nk b)
  | .tuple l, .tuple m, ha, hb => by
    rw [eqv_tup, nk, nk, NestedKey.beq]
    exact eqv_nks l m (by simpa [okLeaf] using ha) (by simpa [okLeaf] using hb)
  | .int i, b, _, hb => by cases b <;> simp_all [okLeaf, nk, NestedKey.beq, PyData.eqv] <;> rfl
  | .str i, b, _, hb => by cases b <;> simp_all [okLeaf, nk, NestedKey.beq, PyData.eqv] <;> rfl
  | .none, b, _, hb => by cases b <;> simp_all [okLeaf, nk, NestedKey.beq, PyData.eqv]
  | .tuple l, .int _, _, _ => by simp [nk, NestedKey.beq, PyData.eqv]
  | .tuple l, .str _, _, _ => by simp [nk, NestedKey.beq, PyData.eqv]
  | .tuple l, .none, _, _ => by simp [nk, NestedKey.beq, PyData.eqv]
  | .tuple l, .bool _, _, hb => by simp [okLeaf] at hb
  | .tuple l, .list _, _, hb => by simp [okLeaf] at hb
  | .tuple l, .dict _, _, hb => by simp [okLeaf] at hb
  | .bool _, _, ha, _ => by simp [okLeaf] at ha
  | .list _, _, ha, _ => by simp [okLeaf] at ha
  | .dict _, _, ha, _ => by simp [okLeaf] at ha
theorem eqv_nks : ∀ (a b : List D), okLeaves a = true → okLeaves b = true → PyData.eqvAll a b = NestedKey.beqAll (nks a) (nks b)
  | [], [], _, _ => by simp [nks, NestedKey.beqAll]
  | [], _ :: _, _, _ => by simp [nks, NestedKey.beqAll]
  | _ :: _, [], _, _ => by simp [nks, NestedKey.beqAll]
  | x :: l, y :: m, ha, hb => by
    have ha : okLeaf x = true ∧ okLeaves l = true := by simpa [okLeaves] using ha
    have hb : okLeaf y = true ∧ okLeaves m = true := by simpa [okLeaves] using hb
    rw [eqvs_cc, nks, nks, NestedKey.beqAll, eqv_nk x y ha.1 hb.1, eqv_nks l m ha.2 hb.2]
end
mutual
theorem nk_depth : ∀ d : D, okLeaf d = true → (nk d).depth ≤ d.depth
  | .tuple l, h => by
    have := nks_depth l (by simpa [okLeaf] using h)
    simp only [nk, NestedKey.depth, PyData.depth]
    omega
  | .int _, _ => by simp [nk, NestedKey.depth]
  | .str _, _ => by simp [nk, NestedKey.depth]
  | .none, _ => by simp [nk, NestedKey.depth]
  | .bool _, h => by simp [okLeaf] at h
  | .list _, h => by simp [okLeaf] at h
  | .dict _, h => by simp [okLeaf] at h
theorem nks_depth : ∀ d : List D, okLeaves d = true → NestedKey.depthAll (nks d) ≤ PyData.depthAll d
  | [], _ => by simp [nks, NestedKey.depthAll]
  | x :: l, h => by
    have h : okLeaf x = true ∧ okLeaves l = true := by simpa [okLeaves] using h
    have := nk_depth x h.1
    have := nks_depth l h.2
    simp only [nks, NestedKey.depthAll, PyData.depthAll]
    omega
end
mutual
theorem reads_nk {h : Heap} : ∀ {d : D} {v : Value} {as : List Addr}, Reads h v d as → okLeaf d = true → NestedIs h (nk d) v
  | _, _, _, .none, _ => .none
  | _, _, _, .bool _, h => by simp [okLeaf] at h
  | _, _, _, .int i t, _ => .int i t
  | _, _, _, .str x t, _ => .text x t
  | _, _, _, .list _ _ _ _, h => by simp [okLeaf] at h
  | _, _, _, .tuple h1 h2 h3 h4, h => by
    rw [nk]
    exact .tup h1 h2 h3 (reads_nks h4 (by simpa [okLeaf] using h))
  | _, _, _, .dict _ _ _ _ _, h => by simp [okLeaf] at h
theorem reads_nks {h : Heap} : ∀ {d : List D} {v : List Value} {as : List Addr}, ReadsAll h v d as → okLeaves d = true → NestedAll h (nks d) v
  | _, _, _, .nil, _ => by rw [nks]; exact .nil
  | _, _, _, .cons h1 h2, h => by
    rw [nks]
    simp only [okLeaves, Bool.and_eq_true] at h
    exact .cons (reads_nk h1 h.1) (reads_nks h2 h.2)
end
theorem kindK_eq (l : List D) : kindK (.tuple l) = if okLeaves l = true ∧ (PyData.tuple l).depth ≤ 8 then some false else none := rfl
theorem kindK_tup {k : D} (h : kindK k = some false) : ∃ l, k = .tuple l ∧ okLeaf k = true ∧ k.depth ≤ 8 := by
  cases k with
  | tuple l =>
    rw [kindK_eq] at h
    by_cases q : okLeaves l = true ∧ (PyData.tuple l).depth ≤ 8
    · exact ⟨l, rfl, by simpa [okLeaf] using q.1, q.2⟩
    · rw [if_neg q] at h; cases h
  | _ => cases h
theorem okIn_kind {β : Type} {k : D} {l : List (D × β)} (h : okIn k l = true) : kindK k = some false := by
  have this : (kindK k).isSome = true := by
    cases l with
    | nil => exact h
    | cons p r =>
      unfold okIn at h
      exact (Bool.and_eq_true _ _ ▸ h : _ ∧ _).1
  cases k with
  | tuple l =>
    rw [kindK_eq] at *
    by_cases q : okLeaves l = true ∧ (PyData.tuple l).depth ≤ 8
    · rw [if_pos q]
    · rw [if_neg q] at this; cases this
  | _ => cases this
section
variable {X : Cx} {fa : Lay} {Z : Ad} {H : Hp} {pins : List (Addr × Obj)} {σ : L2.St} {s : Shared}
theorem key_is {k : D} {v : V} {u : Value} (h : RD (cf X fa) Z H k v) (r : RelV v u) (hk : kindK k = some false) (I : Inv X pins σ H s) : ∃ a, u = .ref a ∧ v = .ref a ∧ (nestedKind X.prog X.w).is s.heap (nk k) a := by
  obtain ⟨l, rfl, ok, dp⟩ := kindK_tup hk
  obtain ⟨as, rd⟩ := Dp.reads I _ v u h.dp.1 r
  obtain ⟨a, vs, rfl, _, _⟩ := h.sq
  cases r
  refine ⟨a, rfl, rfl, reads_nk rd ok, ?_⟩
  have := nk_depth _ ok
  omega
end
/-! ### entries -/
def refOf (v : Value) : Addr := match v with
  | .ref a => a
  | _ => 0
def xsOf : List (D × X) → List DictEntry → List (NestedKey × Addr × Value)
  | (k, _) :: r, e :: es => (nk k, refOf e.key, e.val) :: xsOf r es
  | _, _ => []
section
variable {c : Cf} {Z : Ad} {H : Hp}
theorem REs.length : ∀ {kvs : List (D × X)} {es : List DictEntry} {F : List Addr}, REs c Z H kvs es F → kvs.length = es.length
  | _, _, _, .nil => rfl
  | _, _, _, .cons _ _ _ _ _ h => by simp [REs.length h]
theorem REs.xs_len : ∀ {kvs : List (D × X)} {es : List DictEntry} {F : List Addr}, REs c Z H kvs es F → (xsOf kvs es).length = kvs.length
  | _, _, _, .nil => rfl
  | _, _, _, .cons _ _ _ _ _ h => by simp [xsOf, REs.xs_len h]
theorem REs.keys : ∀ {kvs : List (D × X)} {es : List DictEntry} {F : List Addr}, REs c Z H kvs es F → (xsOf kvs es).map (·.1) = kvs.map fun p => nk p.1
  | _, _, _, .nil => rfl
  | _, _, _, .cons _ _ _ _ _ h => by simp [xsOf, REs.keys h]
theorem REs.ents {P : Program} : ∀ {kvs : List (D × X)} {es : List DictEntry} {F : List Addr}, REs c Z H kvs es F → (∀ p ∈ kvs, kindK p.1 = some false) → es = (xsOf kvs es).map (entryOfKey (nestedKind P c.w))
  | _, _, _, .nil, _ => rfl
  | _, _, _, .cons (k := k) (e := e) h1 h2 h3 h4 h5 h, hk => by
    obtain ⟨l, hl, _, _⟩ := kindK_tup (hk _ List.mem_cons_self)
    have hl : k = .tuple l := hl
    subst hl
    obtain ⟨a, vs, rfl, _, _⟩ := h1.sq
    have ek : e.key = .ref a := h2
    simp only [xsOf, List.map_cons]
    rw [← REs.ents h fun p hp => hk p (List.mem_cons_of_mem _ hp)]
    refine congrArg (· :: _) ?_
    obtain ⟨hh, ky, vl⟩ := e
    have ek : ky = .ref a := ek
    subst ek
    have h3 : hh = _ := h3
    subst h3
    rfl
theorem atKey_cons {K : Type} [DecidableEq K] {x : K × Addr × Value} {xs : List (K × Addr × Value)} {k : K} : atKey (x :: xs) k = if x.1 = k then some x.2 else atKey xs k := by
  unfold atKey
  by_cases h : x.1 = k
  · simp [h]
  · simp [h]
theorem nk_eq {a b : D} (ha : okLeaf a = true) (hb : okLeaf b = true) : nk a = nk b ↔ PyData.eqv a b = true := by
  rw [eqv_nk a b ha hb, ← NestedKey.decide_eq, decide_eq_true_eq]
theorem kind_leaf {k : D} (h : kindK k = some false) : okLeaf k = true := let ⟨_, _, h, _⟩ := kindK_tup h; h
/-- what a look finds -/
theorem REs.find {k : D} (hk : kindK k = some false) : ∀ {kvs : List (D × X)} {es : List DictEntry} {F : List Addr}, REs c Z H kvs es F → (∀ p ∈ kvs, kindK p.1 = some false) →
    (lookD k kvs = none ∧ atKey (xsOf kvs es) (nk k) = none) ∨ ∃ x b u v F', lookD k kvs = some x ∧ atKey (xsOf kvs es) (nk k) = some (b, u) ∧ RelV v u ∧ RX c Z H x v F' ∧ ∀ a ∈ F', a ∈ F
  | _, _, _, .nil, _ => .inl ⟨rfl, rfl⟩
  | _, _, _, .cons (k := j) (x := x) (v := v) (e := e) (F := F1) h1 h2 h3 h4 h5 h, hj => by
    have kj := kind_leaf (hj _ List.mem_cons_self)
    have kk := kind_leaf hk
    have q := nk_eq (a := j) (b := k) kj kk
    unfold lookD
    rw [xsOf, atKey_cons]
    by_cases e1 : nk j = nk k
    · rw [if_pos (q.mp e1), if_pos e1]
      exact .inr ⟨x, _, _, v, F1, rfl, rfl, h5, h4, fun a ha => List.mem_append_left _ ha⟩
    · rw [if_neg (fun z => e1 (q.mpr z)), if_neg e1]
      rcases REs.find hk h fun p hp => hj p (List.mem_cons_of_mem _ hp) with ⟨a, b⟩ | ⟨x', b, u, v', F', a1, a2, a3, a4, a5⟩
      · exact .inl ⟨a, b⟩
      · exact .inr ⟨x', b, u, v', F', a1, a2, a3, a4, fun a ha => List.mem_append_right _ (a5 a ha)⟩
def putX {K : Type} [DecidableEq K] (k : K) (a : Addr) (v : Value) : List (K × Addr × Value) → List (K × Addr × Value)
  | [] => [(k, a, v)]
  | x :: r => if x.1 = k then (x.1, x.2.1, v) :: r else x :: putX k a v r
theorem stored_put {K : Type} [DecidableEq K] {k : K} {a : Addr} {v : Value} : ∀ {xs : List (K × Addr × Value)}, (xs.map (·.1)).Nodup → storedH xs k a v = putX k a v xs
  | [], _ => rfl
  | x :: r, hn => by
    rw [List.map_cons, List.nodup_cons] at hn
    have ih := stored_put (k := k) (a := a) (v := v) hn.2
    unfold putX
    unfold storedH at *
    rw [atKey_cons]
    by_cases e : x.1 = k
    · rw [if_pos e, if_pos e, if_pos (by rfl), List.map_cons, map_putAt_of_not_mem r k v (by rw [← e]; exact hn.1)]
      unfold putAt
      rw [if_pos e]
    · rw [if_neg e, if_neg e, ← ih]
      split
      · rw [List.map_cons]
        congr 1
        unfold putAt
        rw [if_neg e]
      · rfl
theorem putD_keys {k : D} {y : X} (hk : kindK k = some false) : ∀ {kvs : List (D × X)}, (∀ p ∈ kvs, kindK p.1 = some false) → (∀ p ∈ putD k y kvs, kindK p.1 = some false)
  | [], _ => fun p hp => by
    rw [List.mem_singleton.mp hp]; exact hk
  | (j, x) :: r, h => fun p hp => by
    unfold putD at hp
    split at hp
    · rcases List.mem_cons.mp hp with rfl | hp
      · exact h (j, x) List.mem_cons_self
      · exact h p (List.mem_cons_of_mem _ hp)
    · rcases List.mem_cons.mp hp with rfl | hp
      · exact h (j, x) List.mem_cons_self
      · exact putD_keys hk (fun p hp => h p (List.mem_cons_of_mem _ hp)) p hp
theorem putD_nd {k : D} {y : X} (hk : kindK k = some false) : ∀ {kvs : List (D × X)}, (∀ p ∈ kvs, kindK p.1 = some false) → (kvs.map fun p => nk p.1).Nodup →
    ((putD k y kvs).map fun p => nk p.1).Nodup ∧ ∀ z, z ∈ (putD k y kvs).map (fun p => nk p.1) → z = nk k ∨ z ∈ kvs.map fun p => nk p.1
  | [], _, _ => ⟨by simp [putD], fun z hz => .inl (by simpa [putD] using hz)⟩
  | (j, x) :: r, h, hn => by
    have kj := kind_leaf (h _ List.mem_cons_self)
    have q := nk_eq (a := j) (b := k) kj (kind_leaf hk)
    rw [List.map_cons, List.nodup_cons] at hn
    unfold putD
    split
    · exact ⟨by rw [List.map_cons, List.nodup_cons]; exact hn, fun z hz => .inr hz⟩
    · rename_i e
      obtain ⟨a, b⟩ := putD_nd (k := k) (y := y) hk (fun p hp => h p (List.mem_cons_of_mem _ hp)) hn.2
      refine ⟨?_, fun z hz => ?_⟩
      · rw [List.map_cons, List.nodup_cons]
        refine ⟨fun z => ?_, a⟩
        rcases b _ z with z | z
        · exact e (q.mp z)
        · exact hn.1 z
      · rw [List.map_cons] at hz
        rcases List.mem_cons.mp hz with rfl | hz
        · exact .inr (by rw [List.map_cons]; exact List.mem_cons_self)
        · exact (b z hz).imp id fun z => by rw [List.map_cons]; exact List.mem_cons_of_mem _ z
theorem DK.put {k : D} {y : X} {kvs : List (D × X)} (d : DK kvs) (hk : kindK k = some false) : DK (putD k y kvs) := ⟨putD_keys hk d.kd, (putD_nd hk d.kd d.nd).1⟩
theorem DK.nil : DK [] := ⟨fun p hp => absurd hp (by simp), List.nodup_nil⟩
theorem putD_len {k : D} {y : X} : ∀ {kvs : List (D × X)}, (putD k y kvs).length ≤ kvs.length + 1
  | [] => Nat.le_refl _
  | (j, x) :: r => by
    unfold putD
    split
    · simp
    · have := putD_len (k := k) (y := y) (kvs := r)
      simp only [List.length_cons]
      omega
/-- an entry is put in -/
theorem REs.put {P : Program} {k : D} {y : X} {kv v : V} {b : Addr} {u : Value} {Fy : List Addr} (hk : kindK k = some false) (hkv : RD c Z H k (.ref b)) (hy : RX c Z H y v Fy) (ru : RelV v u) (ndy : Fy.Nodup) :
    ∀ {kvs : List (D × X)} {es : List DictEntry} {F : List Addr}, REs c Z H kvs es F → (∀ p ∈ kvs, kindK p.1 = some false) → F.Nodup → (∀ a ∈ F, a ∉ Fy) →
      ∃ F', REs c Z H (putD k y kvs) ((putX (nk k) b u (xsOf kvs es)).map (entryOfKey (nestedKind P c.w))) F' ∧ F'.Nodup ∧ ∀ a ∈ F', a ∈ F ∨ a ∈ Fy
  | _, _, _, .nil, _, _, _ => ⟨Fy ++ [], .cons hkv rfl rfl hy ru .nil, by simpa using ndy, fun a ha => .inr (by simpa using ha)⟩
  | _, _, _, .cons (k := j) (x := x) (v := v1) (e := e) (r := r) (es := es) (F := F1) (F' := F2) h1 h2 h3 h4 h5 h, hj, nd, dj => by
    have kj := kind_leaf (hj _ List.mem_cons_self)
    have q := nk_eq (a := j) (b := k) kj (kind_leaf hk)
    have hents := REs.ents (P := P) (REs.cons h1 h2 h3 h4 h5 h) hj
    have hr := REs.ents (P := P) h fun p hp => hj p (List.mem_cons_of_mem _ hp)
    obtain ⟨n1, n2, n3⟩ := List.nodup_append.mp nd
    simp only [xsOf, List.map_cons] at hents
    have he : e = entryOfKey (nestedKind P c.w) (nk j, refOf e.key, e.val) := (List.cons.inj hents).1
    unfold putD
    rw [xsOf]
    unfold putX
    by_cases e1 : nk j = nk k
    · rw [if_pos (q.mp e1), if_pos e1, List.map_cons, ← hr]
      refine ⟨Fy ++ F2, .cons h1 ?_ ?_ hy ru h, ?_, fun a ha => ?_⟩
      · rw [he] at h2; exact h2
      · rfl
      · exact List.nodup_append.mpr ⟨ndy, n2, fun a ha b hb z => dj b (List.mem_append_right _ hb) (z ▸ ha)⟩
      · exact (List.mem_append.mp ha).elim .inr fun z => .inl (List.mem_append_right _ z)
    · rw [if_neg (fun z => e1 (q.mpr z)), if_neg e1, List.map_cons, ← he]
      obtain ⟨F', a1, a2, a3⟩ := REs.put (kv := kv) hk hkv hy ru ndy h (fun p hp => hj p (List.mem_cons_of_mem _ hp)) n2 fun a ha => dj a (List.mem_append_right _ ha)
      refine ⟨F1 ++ F', .cons h1 h2 h3 h4 h5 a1, List.nodup_append.mpr ⟨n1, a2, fun a ha b hb z => ?_⟩, fun a ha => ?_⟩
      · subst z
        rcases a3 a hb with w | w
        · exact n3 a ha a w rfl
        · exact dj a (List.mem_append_left _ ha) w
      · rcases List.mem_append.mp ha with ha | ha
        · exact .inl (List.mem_append_left _ ha)
        · exact (a3 a ha).imp (fun z => List.mem_append_right _ z) id
end
end Mp
set_option maxHeartbeats 1000000
/-! Snd7: list comprehensions. -/
namespace Mp
open PySem PySem.Spec PyProof.Rows L2
abbrev At.blk (T : At) (s : Shared) (H : Hp) (scope : Scope) (cenv : Env) (fp : List Addr) : At := { T with X := T.X.blk s H scope cenv fp, W := fun _ _ _ _ => False }
section
variable {c : Cf} {Z Z' : Ad} {H H' : Hp} {f f' : Fp} {s t : S} {σ σ' : L2.St} {own : List Nat}
theorem kills_len : ∀ {l : List Nat} {s : S}, (kills l s).length = s.length
  | [], _ => rfl
  | i :: l, s => by show (kills l (s.set i none)).length = _; rw [kills_len, List.length_set]
theorem kills_out : ∀ {l : List Nat} {s : S} {i : Nat}, i ∉ l → (kills l s)[i]? = s[i]?
  | [], _, _, _ => rfl
  | j :: l, s, i, h => by
    show (kills l (s.set j none))[i]? = _
    rw [kills_out (fun z => h (List.mem_cons_of_mem _ z)), List.getElem?_set_ne (fun e => h (by simp [e]))]
theorem kills_in : ∀ {l : List Nat} {s : S} {i : Nat} {x : X}, (kills l s)[i]? = some (some x) → s[i]? = some (some x) ∧ i ∉ l
  | [], _, _, _, h => ⟨h, by simp⟩
  | j :: l, s, i, x, h => by
    obtain ⟨h1, h2⟩ := kills_in (l := l) (s := s.set j none) h
    by_cases e : j = i
    · subst e
      by_cases hl : j < s.length
      · rw [List.getElem?_set_self hl] at h1; cases h1
      · rw [List.getElem?_eq_none (by simpa using hl)] at h1; cases h1
    · rw [List.getElem?_set_ne e] at h1
      exact ⟨h1, fun z => (List.mem_cons.mp z).elim (fun z => e z.symm) h2⟩
def fkill (own : List Nat) (f : Fp) : Fp := fun i => if i ∈ own then [] else f i
theorem fkill_in {i : Nat} (h : i ∈ own) : fkill own f i = [] := if_pos h
theorem fkill_out {i : Nat} (h : i ∉ own) : fkill own f i = f i := if_neg h
theorem fkill_mem {i : Nat} {b : Addr} (h : b ∈ fkill own f i) : i ∉ own ∧ b ∈ f i := by
  by_cases e : i ∈ own
  · rw [fkill_in e] at h; cases h
  · rw [fkill_out e] at h; exact ⟨e, h⟩
theorem fkill_inF {b : Addr} (h : inF (fkill own f) b) : inF f b := let ⟨i, hi⟩ := h; ⟨i, (fkill_mem hi).2⟩
/-- the own slots forgotten, on both sides -/
theorem Rel.killsW (r : Rel c Z H s σ f) : Rel c Z H (Mp.kills own s) (wipe σ own) (fkill own f) where
  len := by rw [kills_len, wipe_length]; exact r.len
  at_ := fun i x e => by
    obtain ⟨h1, h2⟩ := kills_in e
    obtain ⟨v, e1, e2⟩ := r.at_ i x h1
    exact ⟨v, by rw [wipe_out h2]; exact e1, by rw [fkill_out h2]; exact e2⟩
  nd := fun i => by
    by_cases e : i ∈ own
    · rw [fkill_in e]; exact List.nodup_nil
    · rw [fkill_out e]; exact r.nd i
  dj := fun i j hij b h1 h2 => r.dj i j hij b (fkill_mem h1).2 (fkill_mem h2).2
  nz := fun i b h => r.nz i b (fkill_mem h).2
  ow := fun i b h => r.ow i b (fkill_mem h).2
  zo := r.zo
  tb := r.tb
theorem Fr.kills : Fr Z H f Z H (fkill own f) := ⟨fun _ _ e _ _ => e, fun _ z => z, fun _ z => .inl z, fun _ z => .inl (fkill_inF z), fun _ z => z, fun _ z => z⟩
theorem wipe_but (hl : σ'.length = σ.length) (b : But own σ σ') : wipe σ' own = wipe σ own := by
  apply List.ext_getElem?
  intro i
  by_cases h : i ∈ own
  · cases q : (wipe σ' own)[i]? with
    | none =>
      have : σ.length ≤ i := by rw [List.getElem?_eq_none_iff, wipe_length, hl] at q; exact q
      rw [List.getElem?_eq_none (by rw [wipe_length]; exact this)]
    | some o =>
      cases o with
      | some v => exact absurd h (wipe_some q).2
      | none =>
        have hi : i < σ.length := by
          have := (List.getElem?_eq_some_iff.mp q).1
          rw [wipe_length, hl] at this; exact this
        cases q2 : (wipe σ own)[i]? with
        | none => rw [List.getElem?_eq_none_iff, wipe_length] at q2; omega
        | some o =>
          cases o with
          | some v => exact absurd h (wipe_some q2).2
          | none => rfl
  · rw [wipe_out h, wipe_out h, b i h]
theorem wipe_wipe : wipe (wipe σ own) own = wipe σ own := wipe_but (wipe_length σ own) fun i hi => wipe_out hi
theorem back_len : ∀ {own : List Nat} {s t : S}, (back own s t).length = t.length := by
  intro own s
  induction own with
  | nil => intro t; rfl
  | cons i r ih =>
    intro t
    show (back r s (t.set i (s[i]?.getD none))).length = _
    rw [ih, List.length_set]
theorem back_out : ∀ {own : List Nat} {s t : S} {i : Nat}, i ∉ own → (back own s t)[i]? = t[i]? := by
  intro own s
  induction own with
  | nil => intro t i _; rfl
  | cons j r ih =>
    intro t i h
    show (back r s (t.set j (s[j]?.getD none)))[i]? = _
    rw [ih (fun z => h (List.mem_cons_of_mem _ z)), List.getElem?_set_ne (fun e => h (by simp [e]))]
theorem back_in : ∀ {own : List Nat} {s t : S} {i : Nat} {x : X}, i ∈ own → (back own s t)[i]? = some (some x) → s[i]? = some (some x) := by
  intro own s
  induction own with
  | nil => intro t i x h; cases h
  | cons j r ih =>
    intro t i x h e
    have e : (back r s (t.set j (s[j]?.getD none)))[i]? = some (some x) := e
    by_cases hr : i ∈ r
    · exact ih hr e
    · rw [back_out hr] at e
      rcases List.mem_cons.mp h with h | h
      · subst h
        by_cases hl : i < t.length
        · rw [List.getElem?_set_self hl] at e
          cases q : s[i]? with
          | none => rw [q] at e; cases e
          | some o => rw [q] at e; cases e; rfl
        · rw [List.getElem?_eq_none (by simpa using hl)] at e; cases e
      · exact absurd h hr
/-- the own slots as they were -/
theorem Rel.back (r : Rel c Z H s σ f) (r' : Rel c Z' H' t (wipe σ own) f') (a : Fr Z H (fkill own f) Z' H' f') :
    Rel c Z' H' (Mp.back own s t) σ (fun i => if i ∈ own then f i else f' i) ∧ Fr Z H f Z' H' (fun i => if i ∈ own then f i else f' i) := by
  have off : ∀ i b, i ∈ own → b ∈ f i → ¬ inF (fkill own f) b := fun i b hi hb ⟨j, hj⟩ => by
    obtain ⟨h1, h2⟩ := fkill_mem hj
    exact r.dj i j (fun e => h1 (e ▸ hi)) b hb h2
  have kpW := a.kp (r.killsW (own := own))
  have cross : ∀ i j b, i ∈ own → j ∉ own → b ∈ f i → b ∉ f' j := fun i j b hi hj h1 h2 => by
    rcases a.fnew b ⟨j, h2⟩ with z | z
    · exact off i b hi h1 z
    · obtain ⟨o, e, _⟩ := r.ow i b h1
      rw [z] at e; cases e
  refine ⟨⟨by rw [back_len, r'.len, wipe_length], fun i x e => ?_, fun i => ?_, fun i j hij b h1 h2 => ?_, fun i b hb => ?_, fun i b hb => ?_, r'.zo, r'.tb⟩, ⟨fun b o e ht n => a.keep b o e ht fun z => n (fkill_inF z), a.zz, fun b z => (a.znew b z).imp id fun z => z.imp fkill_inF id, fun b ⟨i, hi⟩ => ?_, a.live, a.tb⟩⟩
  · by_cases h : i ∈ own
    · obtain ⟨v, e1, e2⟩ := r.at_ i x (back_in h e)
      refine ⟨v, e1, ?_⟩
      simp only [if_pos h]
      exact e2.kp kpW fun b hb o e => a.keep b o e (own_at (r.ow i b hb) e) (off i b h hb)
    · rw [back_out h] at e
      obtain ⟨v, e1, e2⟩ := r'.at_ i x e
      rw [wipe_out h] at e1
      refine ⟨v, e1, ?_⟩
      simp only [if_neg h]
      exact e2
  · by_cases h : i ∈ own
    · simp only [if_pos h]; exact r.nd i
    · simp only [if_neg h]; exact r'.nd i
  · by_cases h : i ∈ own
    · simp only [if_pos h] at h1
      by_cases h' : j ∈ own
      · simp only [if_pos h'] at h2; exact r.dj i j hij b h1 h2
      · simp only [if_neg h'] at h2; exact cross i j b h h' h1 h2
    · simp only [if_neg h] at h1
      by_cases h' : j ∈ own
      · simp only [if_pos h'] at h2; exact cross j i b h' h h2 h1
      · simp only [if_neg h'] at h2; exact r'.dj i j hij b h1 h2
  · by_cases h : i ∈ own
    · simp only [if_pos h] at hb
      intro z
      rcases a.znew b z with z | z | z
      · exact r.nz i b hb z
      · exact off i b h hb z
      · obtain ⟨o, e, _⟩ := r.ow i b hb
        rw [z] at e; cases e
    · simp only [if_neg h] at hb; exact r'.nz i b hb
  · by_cases h : i ∈ own
    · simp only [if_pos h] at hb
      obtain ⟨o, e, ho⟩ := r.ow i b hb
      exact ⟨o, a.keep b o e (own_nt ho) (off i b h hb), ho⟩
    · simp only [if_neg h] at hb; exact r'.ow i b hb
  · by_cases h : i ∈ own
    · simp only [if_pos h] at hi; exact .inl ⟨i, hi⟩
    · simp only [if_neg h] at hi
      exact (a.fnew b ⟨i, hi⟩).imp fkill_inF id
end
/-! the ifs -/
def tTs (c : Cf) (C : Calls) (G : List D) (W : WX) (es : List E) : TT := fun σ H Q => ∃ Z s f, Rel c Z H s σ f ∧ post c W σ Z H f kP (tsts C G es s) Q
def SPT (T : At) (es : List E) (as : List Expr) : Prop := PTs T.X as (tTs T.c T.C T.G T.W es)
theorem spt_nil {T : At} : SPT T [] [] := ⟨fun pins s σ H Q I ⟨Z, s0, f, r, p⟩ => pts_nil.run pins s σ H Q I (p true Z H f r Fr.refl rfl)⟩
theorem spt_one {T : At} {e : E} {a : Expr} (h : ST T e a) : SPT T [e] [a] := ⟨fun pins s σ H Q I ⟨Z, s0, f, r, p⟩ => (pts_one h).run pins s σ H Q I (show tT T.c T.C T.G T.W e σ H Q from
  ⟨Z, s0, f, r, post.bind (k := kTs T.C T.G []) (K' := kP) (Q := Q) p fun x s1 v Z1 H1 f1 _ r1 a1 hv p1 => by
    rw [show v = x from hv]
    cases x with
    | true => exact p1 true Z1 H1 f1 r1 a1 rfl
    | false => exact p1 false Z1 H1 f1 r1 a1 rfl⟩)⟩
mutual
theorem asg_len : ∀ {t : Tg} {x : X} {s s' : S}, asg t x s = some s' → s'.length = s.length
  | .n i, x, s, s', h => by cases h; exact List.length_set
  | .t l, x, s, s', h => by
    cases x with
    | d x =>
      cases x with
      | tuple vs => exact asgs_len (show asgs l vs s = some s' from h)
      | _ => cases h
    | _ => cases h
theorem asgs_len : ∀ {ts : List Tg} {vs : List D} {s s' : S}, asgs ts vs s = some s' → s'.length = s.length
  | [], [], s, s', h => by cases h; rfl
  | [], _ :: _, s, s', h => by cases h
  | _ :: _, [], s, s', h => by cases h
  | t :: ts, v :: vs, s, s', h => by
    obtain ⟨s1, h1, h2⟩ := Option.bind_eq_some_iff.mp (show (asg t (.d v) s).bind (asgs ts vs) = some s' from h)
    rw [asgs_len h2, asg_len h1]
end
/-! the comprehension -/
section
variable {T : At} {own : List Nat} {e it : E} {tg : Tg} {ifs : List E} {elt ta ia : Expr} {ifa : List Expr} {scope : Scope} {ownA : List (Str × Nat)} {pos : Pos}
theorem imp_lc {σ : L2.St} {H : Hp} {Q : VK} (hsl : ∀ i ∈ slots tg, i ∈ own) (h : tE T.c T.C T.G T.W (.lc own e tg it ifs) σ H Q) :
    tLc (tI T.c T.C T.G T.W it) (gT T.c tg) (tTs T.c T.C T.G (fun _ _ _ _ => False) ifs) (tE T.c T.C T.G (fun _ _ _ _ => False) e) own σ H Q := by
  obtain ⟨Z, s, f, r, p⟩ := h
  have p : post T.c T.W σ Z H f (kX T.c) ((ev T.C T.G it s).bind (kLc1 T.C T.G own e tg ifs)) Q := p
  refine ⟨Z, s, f, r, ?_⟩
  cases q : ev T.C T.G it s with
  | exc e s' => rw [q] at p; exact p
  | stuck => rw [q] at p; exact p
  | ok x s1 =>
    rw [q] at p
    have p : post T.c T.W σ Z H f (kX T.c) ((ofO ((itemsD x).map fun l => l.map Mp.X.d) s1).bind (kLc2 T.C T.G own e tg ifs)) Q := p
    cases q2 : itemsD x with
    | none => rw [q2] at p; exact p.elim
    | some ds =>
      rw [q2] at p
      have p : post T.c T.W σ Z H f (kX T.c) ((lcL (lcT T.C T.G own e tg ifs) (ds.map Mp.X.d) [] (kills own s1)).bind (kLc3 own s1)) Q := p
      refine ⟨ds, q2, fun J Z1 H1 f1 r1 a1 yl Dd hD => ?_⟩
      have rw1 := r1.killsW (own := own)
      have zD : ¬ Z1 Dd := fun z => r1.zo Dd z hD
      have fD : ¬ inF (fkill own f1) Dd := fun ⟨i, hi⟩ => by
        obtain ⟨o, e, _⟩ := rw1.ow i Dd hi
        rw [hD] at e; cases e
      refine ⟨fun i m H' => m = ds.length - i ∧ i ≤ ds.length ∧ ∃ Z' s' f' ys F, Rel T.c Z' H' s' (wipe σ own) f' ∧ Fr Z1 H1 (fkill own f1) Z' H' f' ∧ Tmp T.c Z' H' f' (.lst ys) (.ref Dd) (Dd :: F) ∧ From H1 (fkill own f1) (Dd :: F) ∧
        post T.c T.W σ Z H f (kX T.c) ((lcL (lcT T.C T.G own e tg ifs) ((ds.drop i).map Mp.X.d) ys s').bind (kLc3 own s1)) Q, ⟨ds.length, by simp, Nat.zero_le _, Z1, _, _, [], [], rw1.laid hD, Fr.laid hD, ⟨.lst upd_same .nil, by simp, fun a ha => ?_, fun a ha => ?_⟩, fun a ha => ?_, by simpa using p⟩, ?_⟩
      · rw [List.mem_singleton.mp ha]; exact zD
      · rw [List.mem_singleton.mp ha]; exact fD
      · rw [List.mem_singleton.mp ha]; exact .inr hD
      rintro i m H' ⟨rfl, hi, Z', s', f', ys, F, r', a', t', fr', p'⟩
      have k' := a'.kp rw1
      obtain ⟨y1, y2⟩ := yl Z' H' k'
      by_cases hlt : i < ds.length
      · refine .inr ?_
        have hd : ds[i]? = some ds[i] := List.getElem?_eq_getElem hlt
        obtain ⟨go, yy⟩ := y1 i _ hd
        rw [List.drop_eq_getElem_cons hlt, List.map_cons] at p'
        have p' : post T.c T.W σ Z H f (kX T.c) (((lcT T.C T.G own e tg ifs (.d ds[i]) s').calm.bind fun y s' => match y with
          | none => lcL (lcT T.C T.G own e tg ifs) ((ds.drop (i + 1)).map Mp.X.d) ys s'
          | some y => if ys.length < lim then lcL (lcT T.C T.G own e tg ifs) ((ds.drop (i + 1)).map Mp.X.d) (ys ++ [y]) s' else .stuck).bind (kLc3 own s1)) Q := p'
        refine ⟨go, fun H3 => ds.length - (i + 1) < ds.length - i ∧ i + 1 ≤ ds.length ∧ ∃ Z' s' f' ys F, Rel T.c Z' H3 s' (wipe σ own) f' ∧ Fr Z1 H1 (fkill own f1) Z' H3 f' ∧ Tmp T.c Z' H3 f' (.lst ys) (.ref Dd) (Dd :: F) ∧ From H1 (fkill own f1) (Dd :: F) ∧
          post T.c T.W σ Z H f (kX T.c) ((lcL (lcT T.C T.G own e tg ifs) ((ds.drop (i + 1)).map Mp.X.d) ys s').bind (kLc3 own s1)) Q, fun H3 ⟨h1, h2, h3⟩ => ⟨_, h1, rfl, h2, h3⟩, fun v H3 yv => ?_⟩
        obtain ⟨ext, rd⟩ := yy v H3 yv
        have r3 := r'.fr ext
        have a3 : Fr Z' H' f' Z' H3 f' := Fr.ext ext
        refine ⟨Z', s', f', ds[i], r3, rd, ?_⟩
        unfold lcT at p'
        cases qa : asg tg (.d ds[i]) s' with
        | none => rw [qa] at p'; exact p'.elim
        | some s4 =>
          rw [qa] at p'
          intro σ4 f4 r4 a4 b4
          have b4' : But own (wipe σ own) σ4 := fun i hi => b4 i fun z => hi (hsl i z)
          have w4 : wipe σ4 own = wipe σ own := by
            rw [wipe_but (σ := wipe σ own) (by rw [← r4.len, ← r3.len, asg_len qa]) b4', wipe_wipe]
          refine ⟨w4, Z', s4, f4, r4, ?_⟩
          have p' : post T.c T.W σ Z H f (kX T.c) ((((tsts T.C T.G ifs s4).bind (kElt T.C T.G own e)).calm.bind fun y s' => match y with
            | none => lcL (lcT T.C T.G own e tg ifs) ((ds.drop (i + 1)).map Mp.X.d) ys s'
            | some y => if ys.length < lim then lcL (lcT T.C T.G own e tg ifs) ((ds.drop (i + 1)).map Mp.X.d) (ys ++ [y]) s' else .stuck).bind (kLc3 own s1)) Q := p'
          cases qt : tsts T.C T.G ifs s4 with
          | exc e' s5 => rw [qt] at p'; exact p'.elim
          | stuck => rw [qt] at p'; exact p'.elim
          | ok b s5 =>
            rw [qt] at p'
            intro b' Z5 H5 f5 r5 a5 hb
            rw [show b' = b from hb]
            have a05 := ((a3.trans a4).trans a5)
            have t5 := t'.fr r' a05
            have aa5 := a'.trans a05
            cases b with
            | false =>
              rw [if_neg (by simp)]
              have p' : post T.c T.W σ Z H f (kX T.c) ((lcL (lcT T.C T.G own e tg ifs) ((ds.drop (i + 1)).map Mp.X.d) ys (kills own s5)).bind (kLc3 own s1)) Q := p'
              have r6 := r5.killsW (own := own)
              rw [w4] at r6
              exact ⟨by omega, hlt, Z5, _, _, ys, F, r6, aa5.trans Fr.kills, t5.fr r5 Fr.kills, fr', p'⟩
            | true =>
              rw [if_pos rfl]
              have p' : post T.c T.W σ Z H f (kX T.c) ((((ev T.C T.G e s5).bind (kSome own)).calm.bind fun y s' => match y with
                | none => lcL (lcT T.C T.G own e tg ifs) ((ds.drop (i + 1)).map Mp.X.d) ys s'
                | some y => if ys.length < lim then lcL (lcT T.C T.G own e tg ifs) ((ds.drop (i + 1)).map Mp.X.d) (ys ++ [y]) s' else .stuck).bind (kLc3 own s1)) Q := p'
              refine ⟨Z5, s5, f5, r5, ?_⟩
              cases qe : ev T.C T.G e s5 with
              | exc e' s6 => rw [qe] at p'; exact p'.elim
              | stuck => rw [qe] at p'; exact p'.elim
              | ok y s6 =>
                rw [qe] at p'
                have p' : post T.c T.W σ Z H f (kX T.c) ((if ys.length < lim then lcL (lcT T.C T.G own e tg ifs) ((ds.drop (i + 1)).map Mp.X.d) (ys ++ [y]) (kills own s6) else .stuck).bind (kLc3 own s1)) Q := p'
                intro yv Z6 H6 f6 r6 a6 ⟨Fy, ty, fy⟩
                split at p'
                · rename_i hz
                  have t6 := t5.fr r5 a6
                  have apart := Tmp.apart t5 fy
                  have rx6 := t6.rx
                  have nd6 := t6.nd
                  have nz6 := t6.nz
                  have nf6 := t6.nf
                  generalize hFF : Dd :: F = FF at rx6 nd6 nz6 nf6 apart fr'
                  cases rx6 with
                  | @lst _ vs _ F' hDd hys =>
                    cases hFF
                    have nDF := (List.nodup_cons.mp nd6).1
                    have nDy : Dd ∉ Fy := apart Dd List.mem_cons_self
                    have hw : ∃ o, H6 Dd = some o ∧ Mp.own o = true := ⟨_, hDd, rfl⟩
                    refine ⟨vs, hDd, by rw [← lim_eq, ← hys.length]; exact hz, by omega, hlt, Z6, kills own s6, fkill own f6, ys ++ [y], F ++ Fy, ?_, ?_, ?_, ?_, p'⟩
                    · have r7 := r6.killsW (own := own)
                      rw [w4] at r7
                      exact r7.other (fun z => nf6 Dd List.mem_cons_self (fkill_inF z)) (nz6 Dd List.mem_cons_self) hw
                    · have aa6 := (aa5.trans a6).trans (Fr.kills (own := own))
                      exact aa6.other (.inr hD) hw
                    · refine ⟨.lst upd_same ?_, ?_, fun b hb => ?_, fun b hb z => ?_⟩
                      · have h1 := hys.stay nDF (nz6 Dd List.mem_cons_self) hw (H' := upd H6 Dd (.lst (vs ++ [yv]))) upd_oth
                        have h2 := (RXs.cons ty.rx .nil).stay (H' := upd H6 Dd (.lst (vs ++ [yv]))) (by simpa using nDy) (nz6 Dd List.mem_cons_self) hw upd_oth
                        rw [List.append_nil] at h2
                        exact h1.append h2
                      · refine List.nodup_cons.mpr ⟨by simp [nDF, nDy], List.nodup_append.mpr ⟨(List.nodup_cons.mp nd6).2, ty.nd, fun b hb d hd z => apart b (List.mem_cons_of_mem _ hb) (z ▸ hd)⟩⟩
                      · rcases List.mem_cons.mp hb with rfl | hb
                        · exact nz6 b List.mem_cons_self
                        · exact (List.mem_append.mp hb).elim (fun z => nz6 b (List.mem_cons_of_mem _ z)) (ty.nz b)
                      · have z := fkill_inF z
                        rcases List.mem_cons.mp hb with rfl | hb
                        · exact nf6 b List.mem_cons_self z
                        · exact (List.mem_append.mp hb).elim (fun w => nf6 b (List.mem_cons_of_mem _ w) z) (fun w => ty.nf b w z)
                    · have fy' : From H1 (fkill own f1) Fy := From.fr aa5 fy
                      intro b hb
                      rcases List.mem_cons.mp hb with rfl | hb
                      · exact fr' b List.mem_cons_self
                      · exact (List.mem_append.mp hb).elim (fun z => fr' b (List.mem_cons_of_mem _ z)) (fy' b)
                · exact p'.elim
      · have e : i = ds.length := by omega
        subst e
        refine .inl ⟨y2, ?_⟩
        rw [List.drop_length] at p'
        have p' : post T.c T.W σ Z H f (kX T.c) (.ok (.lst ys) (back own s1 s')) Q := p'
        obtain ⟨rb, ab⟩ := r1.back r' a'
        refine p' (.ref Dd) Z' H' _ rb (a1.trans ab) ⟨Dd :: F, ⟨t'.rx, t'.nd, t'.nz, fun b hb ⟨j, hj⟩ => ?_⟩, From.fr a1 fun b hb => (fr' b hb).imp fkill_inF id⟩
        by_cases h : j ∈ own
        · simp only [if_pos h] at hj
          rcases fr' b hb with ⟨l, hl⟩ | z
          · obtain ⟨h1, h2⟩ := fkill_mem hl
            exact r1.dj j l (fun e => h1 (e ▸ h)) b hj h2
          · obtain ⟨o, e, _⟩ := r1.ow j b hj
            rw [z] at e; cases e
        · simp only [if_neg h] at hj; exact t'.nf b hb ⟨j, hj⟩
theorem se_lc (hc : T.X.calm = true) (hN : T.X.N.Nodup) (hi : SI T ta it ia) (ok : BlkOk T.X.N T.X.env.scope scope ownA) (ho : ownA.map (·.2) = own) (hsl : ∀ i ∈ slots tg, i ∈ own)
    (hg : ∀ (s : Shared) (H : Hp) (C : Addr) (cl : List (Str × Addr)) (fp : List Addr), SGt (T.blk s H scope (compEnvC scope cl C T.X.env) fp) tg ta)
    (ht : ∀ (s : Shared) (H : Hp) (C : Addr) (cl : List (Str × Addr)) (fp : List Addr), SPT (T.blk s H scope (compEnvC scope cl C T.X.env) fp) ifs ifa)
    (he : ∀ (s : Shared) (H : Hp) (C : Addr) (cl : List (Str × Addr)) (fp : List Addr), SE (T.blk s H scope (compEnvC scope cl C T.X.env) fp) e elt) (hs : ∀ x, foldedSetIterable ia T.X.env x = pure x) :
    SE T (.lc own e tg it ifs) (.ListComp elt [⟨ta, ia, ifa, 0⟩] scope pos) := PE.imp (pe_lc (wi := tI T.c T.C T.G T.W it) (g := gT T.c tg) (tt := tTs T.c T.C T.G (fun _ _ _ _ => False) ifs) (te := tE T.c T.C T.G (fun _ _ _ _ => False) e) hc hN hi ok hg ht he hs) fun σ H Q h => by
  rw [ho]
  exact imp_lc hsl h
/-- name = [..], all on one line -/
theorem ss_setLc {i : Nat} {y : Str} {py spos : Pos} (hc : T.X.calm = true) (hN : T.X.N.Nodup) (hy : T.X.N[i]? = some y) (hyl : T.X.env.scope.names.lookup y = some .local) (hm : i ∉ T.mu)
    (hsw : swapsWith (.ListComp elt [⟨ta, ia, ifa, 0⟩] scope pos) (some (.Name y py)) spos.line T.X.env = pure true) (hi : SI T ta it ia) (ok : BlkOk T.X.N T.X.env.scope scope ownA) (ho : ownA.map (·.2) = own) (hsl : ∀ i ∈ slots tg, i ∈ own)
    (hg : ∀ (s : Shared) (H : Hp) (C : Addr) (cl : List (Str × Addr)) (fp : List Addr), SGt (T.blk s H scope (compEnvC scope cl C T.X.env) fp) tg ta)
    (ht : ∀ (s : Shared) (H : Hp) (C : Addr) (cl : List (Str × Addr)) (fp : List Addr), SPT (T.blk s H scope (compEnvC scope cl C T.X.env) fp) ifs ifa)
    (he : ∀ (s : Shared) (H : Hp) (C : Addr) (cl : List (Str × Addr)) (fp : List Addr), SE (T.blk s H scope (compEnvC scope cl C T.X.env) fp) e elt) (hs : ∀ x, foldedSetIterable ia T.X.env x = pure x) :
    SS T (.set (.n i) (.lc own e tg it ifs)) (.Assign [.Name y py] (.ListComp elt [⟨ta, ia, ifa, 0⟩] scope pos) spos) := ⟨fun pins s σ H D I q =>
  (ps_setLc (wi := tI T.c T.C T.G T.W it) (g := gT T.c tg) (tt := tTs T.c T.C T.G (fun _ _ _ _ => False) ifs) (te := tE T.c T.C T.G (fun _ _ _ _ => False) e) hc hN hy hyl hsw hi ok hg ht he hs).run pins s σ H D I (by
    rw [ho]
    exact imp_lc hsl (imp_set (List.getElem?_eq_some_iff.mp hy).1 I.len hm q))⟩
end
end Mp
set_option maxHeartbeats 1000000
/-! Lc2: list comprehensions of two fors. -/
namespace Mp
open PySem PySem.Spec PyProof.Rows L2
section
variable {c : Cf} {Z1 Z' Z2 Z3 Z5 Z6 : Ad} {H1 H' H2 H3 H5 H6 : Hp} {f1 f5 f6 : Fp} {Dd : Addr} {σ σ6 : L2.St} {s s6 : S} {ys : List Mp.X} {own own2 : List Nat}
theorem Kp.trans (a : Kp Z1 H1 Z2 H2) (b : Kp Z2 H2 Z3 H3) : Kp Z1 H1 Z3 H3 := ⟨fun x o e ht h => b.keep x o (a.keep x o e ht h) ht (h.imp id (a.zz x)), fun x z => b.zz x (a.zz x z)⟩
/-- the list in the making, between two turns -/
def LcI (c : Cf) (Z1 : Ad) (H1 : Hp) (f1 : Fp) (Dd : Addr) (σ : L2.St) (s : S) (ys : List Mp.X) (Z' : Ad) (H' : Hp) : Prop :=
  ∃ f' F, Rel c Z' H' s σ f' ∧ Fr Z1 H1 f1 Z' H' f' ∧ Tmp c Z' H' f' (.lst ys) (.ref Dd) (Dd :: F) ∧ From H1 f1 (Dd :: F)
theorem LcI.kills (h : LcI c Z1 H1 f1 Dd σ s ys Z' H') : LcI c Z1 H1 f1 Dd (wipe σ own) (Mp.kills own s) ys Z' H' := by
  obtain ⟨f', F, r, a, t, fr⟩ := h
  exact ⟨fkill own f', F, r.killsW, a.trans Fr.kills, t.fr r Fr.kills, fr⟩
/-- one more comes to it -/
theorem LcI.app {F Fy : List Addr} {y : Mp.X} {yv : V} (hD : H1 Dd = none) (aa5 : Fr Z1 H1 f1 Z5 H5 f5) {s5 : S} {σ5 : L2.St} (r5 : Rel c Z5 H5 s5 σ5 f5) (t5 : Tmp c Z5 H5 f5 (.lst ys) (.ref Dd) (Dd :: F)) (fr' : From H1 f1 (Dd :: F))
    (r6 : Rel c Z6 H6 s6 σ6 f6) (a6 : Fr Z5 H5 f5 Z6 H6 f6) (ty : Tmp c Z6 H6 f6 y yv Fy) (fy : From H5 f5 Fy) (hz : ys.length < lim) :
    ∃ acc, H6 Dd = some (.lst acc) ∧ acc.length < sizeLine ∧ LcI c Z1 H1 f1 Dd (wipe σ6 own) (Mp.kills own s6) (ys ++ [y]) Z6 (upd H6 Dd (.lst (acc ++ [yv]))) ∧ Kp Z5 H5 Z6 (upd H6 Dd (.lst (acc ++ [yv]))) := by
  have t6 := t5.fr r5 a6
  have apart := Tmp.apart t5 fy
  have rx6 := t6.rx
  have nd6 := t6.nd
  have nz6 := t6.nz
  have nf6 := t6.nf
  have nz5 := t5.nz
  have ow5 := t5.rx.own
  generalize hFF : Dd :: F = FF at rx6 nd6 nz6 nf6 apart fr' nz5 ow5
  cases rx6 with
  | @lst _ vs _ F' hDd hys =>
    cases hFF
    have nDF := (List.nodup_cons.mp nd6).1
    have nDy : Dd ∉ Fy := apart Dd List.mem_cons_self
    have hw : ∃ o, H6 Dd = some o ∧ Mp.own o = true := ⟨_, hDd, rfl⟩
    refine ⟨vs, hDd, by rw [← lim_eq, ← hys.length]; exact hz, ⟨fkill own f6, F ++ Fy, ?_, ?_, ?_, ?_⟩, ⟨fun b o e ht h => ?_, a6.zz⟩⟩
    · exact (r6.killsW (own := own)).other (fun z => nf6 Dd List.mem_cons_self (fkill_inF z)) (nz6 Dd List.mem_cons_self) hw
    · have aa6 := (aa5.trans a6).trans (Fr.kills (own := own))
      exact aa6.other (.inr hD) hw
    · refine ⟨.lst upd_same ?_, ?_, fun b hb => ?_, fun b hb z => ?_⟩
      · have h1 := hys.stay nDF (nz6 Dd List.mem_cons_self) hw (H' := upd H6 Dd (.lst (vs ++ [yv]))) upd_oth
        have h2 := (RXs.cons ty.rx .nil).stay (H' := upd H6 Dd (.lst (vs ++ [yv]))) (by simpa using nDy) (nz6 Dd List.mem_cons_self) hw upd_oth
        rw [List.append_nil] at h2
        exact h1.append h2
      · refine List.nodup_cons.mpr ⟨by simp [nDF, nDy], List.nodup_append.mpr ⟨(List.nodup_cons.mp nd6).2, ty.nd, fun b hb d hd z => apart b (List.mem_cons_of_mem _ hb) (z ▸ hd)⟩⟩
      · rcases List.mem_cons.mp hb with rfl | hb
        · exact nz6 b List.mem_cons_self
        · exact (List.mem_append.mp hb).elim (fun z => nz6 b (List.mem_cons_of_mem _ z)) (ty.nz b)
      · have z := fkill_inF z
        rcases List.mem_cons.mp hb with rfl | hb
        · exact nf6 b List.mem_cons_self z
        · exact (List.mem_append.mp hb).elim (fun w => nf6 b (List.mem_cons_of_mem _ w) z) (fun w => ty.nf b w z)
    · have fy' : From H1 f1 Fy := From.fr aa5 fy
      intro b hb
      rcases List.mem_cons.mp hb with rfl | hb
      · exact fr' b List.mem_cons_self
      · exact (List.mem_append.mp hb).elim (fun z => fr' b (List.mem_cons_of_mem _ z)) (fy' b)
    · have hbD : b ≠ Dd := fun e' => by
        rw [e'] at e h
        obtain ⟨o', e2, ho⟩ := ow5 Dd List.mem_cons_self
        rw [e] at e2; cases e2
        rcases h with h | h
        · rw [ho] at h; cases h
        · exact nz5 Dd List.mem_cons_self h
      rw [upd_ne hbD]
      exact (a6.kp r5).keep b o e ht h
/-- what is left to be done with the list, when a run of turns ends -/
def inP (rest : List Mp.X → S → Prop) : R S (List Mp.X) → Prop
  | .ok ys t => rest ys t
  | _ => False
end
section
variable {T : At} {own own2 : List Nat} {e it it2 : E} {tg tg2 : Tg} {ifs ifs2 : List E} {Z1 Z4 : Ad} {H1 H4 : Hp} {f1 f4 : Fp} {Dd : Addr} {σ σ2 : L2.St} {s4 : S} {ys : List Mp.X} {F : List Addr}
theorem lc_in {J : It} {ds : List D} {rest : List Mp.X → S → Prop} {Nx : Hp → Prop} (hsl2 : ∀ i ∈ slots tg2, i ∈ own2) (hsub : ∀ i ∈ own2, i ∈ own) (hD : H1 Dd = none)
    (r4 : Rel T.c Z4 H4 s4 σ2 f4) (w2 : wipe σ2 own = wipe σ own) (aa4 : Fr Z1 H1 f1 Z4 H4 f4) (t4 : Tmp T.c Z4 H4 f4 (.lst ys) (.ref Dd) (Dd :: F)) (fr4 : From H1 f1 (Dd :: F)) (yl : Yld T.c J Z4 H4 ds)
    (p : inP rest (lcL (lcT T.C T.G own2 e tg2 ifs2) (ds.map Mp.X.d) ys (kills own2 s4)))
    (hNx : ∀ ys t Z' H', LcI T.c Z1 H1 f1 Dd (wipe σ own) (kills own t) ys Z' H' → rest ys t → Nx H') :
    ∃ W1 : Nat → Nat → Hp → Prop, (∃ m, W1 0 m H4) ∧ ∀ j k H, W1 j k H →
      (J.stop j H ∧ Nx H) ∨ (J.go j H ∧ ∃ Nx1 : Hp → Prop, (∀ H', Nx1 H' → ∃ k', k' < k ∧ W1 (j + 1) k' H') ∧ ∀ x H', J.yld j H x H' → gT T.c tg2 x (wipe σ2 own2) H' fun σ3 H5 => wipe σ3 own2 = wipe σ2 own2 ∧ tTs T.c T.C T.G (fun _ _ _ _ => False) ifs2 σ3 H5 fun b H6 =>
        if b = true then tE T.c T.C T.G (fun _ _ _ _ => False) e σ3 H6 fun y H7 => ∃ acc, H7 Dd = some (.lst acc) ∧ acc.length < sizeLine ∧ Nx1 (upd H7 Dd (.lst (acc ++ [y]))) else Nx1 H6) := by
  refine ⟨fun j m H' => m = ds.length - j ∧ j ≤ ds.length ∧ ∃ Z' s' ys, LcI T.c Z1 H1 f1 Dd (wipe σ2 own2) s' ys Z' H' ∧ Kp Z4 H4 Z' H' ∧ inP rest (lcL (lcT T.C T.G own2 e tg2 ifs2) ((ds.drop j).map Mp.X.d) ys s'),
    ⟨ds.length, by simp, Nat.zero_le _, Z4, _, ys, LcI.kills ⟨f4, F, r4, aa4, t4, fr4⟩, ⟨fun _ _ e _ _ => e, fun _ z => z⟩, by simpa using p⟩, ?_⟩
  rintro i m H' ⟨rfl, hi, Z', s', ys, ⟨f', F, r', a', t', fr'⟩, k', p'⟩
  obtain ⟨y1, y2⟩ := yl Z' H' k'
  by_cases hlt : i < ds.length
  · refine .inr ?_
    have hd : ds[i]? = some ds[i] := List.getElem?_eq_getElem hlt
    obtain ⟨go, yy⟩ := y1 i _ hd
    rw [List.drop_eq_getElem_cons hlt, List.map_cons] at p'
    have p' : inP rest ((lcT T.C T.G own2 e tg2 ifs2 (.d ds[i]) s').calm.bind fun y s' => match y with
      | none => lcL (lcT T.C T.G own2 e tg2 ifs2) ((ds.drop (i + 1)).map Mp.X.d) ys s'
      | some y => if ys.length < lim then lcL (lcT T.C T.G own2 e tg2 ifs2) ((ds.drop (i + 1)).map Mp.X.d) (ys ++ [y]) s' else .stuck) := p'
    refine ⟨go, fun H3 => ds.length - (i + 1) < ds.length - i ∧ i + 1 ≤ ds.length ∧ ∃ Z' s' ys, LcI T.c Z1 H1 f1 Dd (wipe σ2 own2) s' ys Z' H3 ∧ Kp Z4 H4 Z' H3 ∧ inP rest (lcL (lcT T.C T.G own2 e tg2 ifs2) ((ds.drop (i + 1)).map Mp.X.d) ys s'), fun H3 ⟨h1, h2, h3⟩ => ⟨_, h1, rfl, h2, h3⟩, fun v H3 yv => ?_⟩
    obtain ⟨ext, rd⟩ := yy v H3 yv
    have r3 := r'.fr ext
    have a3 : Fr Z' H' f' Z' H3 f' := Fr.ext ext
    refine ⟨Z', s', f', ds[i], r3, rd, ?_⟩
    unfold lcT at p'
    cases qa : asg tg2 (.d ds[i]) s' with
    | none => rw [qa] at p'; exact p'.elim
    | some s4 =>
      rw [qa] at p'
      intro σ4 f4 r4 a4 b4
      have b4' : But own2 (wipe σ2 own2) σ4 := fun i hi => b4 i fun z => hi (hsl2 i z)
      have w4 : wipe σ4 own2 = wipe σ2 own2 := by
        rw [wipe_but (σ := wipe σ2 own2) (by rw [← r4.len, ← r3.len, asg_len qa]) b4', wipe_wipe]
      refine ⟨w4, Z', s4, f4, r4, ?_⟩
      have p' : inP rest (((tsts T.C T.G ifs2 s4).bind (kElt T.C T.G own2 e)).calm.bind fun y s' => match y with
        | none => lcL (lcT T.C T.G own2 e tg2 ifs2) ((ds.drop (i + 1)).map Mp.X.d) ys s'
        | some y => if ys.length < lim then lcL (lcT T.C T.G own2 e tg2 ifs2) ((ds.drop (i + 1)).map Mp.X.d) (ys ++ [y]) s' else .stuck) := p'
      cases qt : tsts T.C T.G ifs2 s4 with
      | exc e' s5 => rw [qt] at p'; exact p'.elim
      | stuck => rw [qt] at p'; exact p'.elim
      | ok b s5 =>
        rw [qt] at p'
        intro b' Z5 H5 f5 r5 a5 hb
        rw [show b' = b from hb]
        have a05 := ((a3.trans a4).trans a5)
        have t5 := t'.fr r' a05
        have aa5 := a'.trans a05
        have k5 := k'.trans (a05.kp r')
        cases b with
        | false =>
          rw [if_neg (by simp)]
          have p' : inP rest (lcL (lcT T.C T.G own2 e tg2 ifs2) ((ds.drop (i + 1)).map Mp.X.d) ys (kills own2 s5)) := p'
          have L := LcI.kills (own := own2) (⟨f5, F, r5, aa5, t5, fr'⟩ : LcI T.c Z1 H1 f1 Dd σ4 s5 ys Z5 H5)
          rw [w4] at L
          exact ⟨by omega, hlt, Z5, _, ys, L, k5, p'⟩
        | true =>
          rw [if_pos rfl]
          have p' : inP rest (((ev T.C T.G e s5).bind (kSome own2)).calm.bind fun y s' => match y with
            | none => lcL (lcT T.C T.G own2 e tg2 ifs2) ((ds.drop (i + 1)).map Mp.X.d) ys s'
            | some y => if ys.length < lim then lcL (lcT T.C T.G own2 e tg2 ifs2) ((ds.drop (i + 1)).map Mp.X.d) (ys ++ [y]) s' else .stuck) := p'
          refine ⟨Z5, s5, f5, r5, ?_⟩
          cases qe : ev T.C T.G e s5 with
          | exc e' s6 => rw [qe] at p'; exact p'.elim
          | stuck => rw [qe] at p'; exact p'.elim
          | ok y s6 =>
            rw [qe] at p'
            have p' : inP rest (if ys.length < lim then lcL (lcT T.C T.G own2 e tg2 ifs2) ((ds.drop (i + 1)).map Mp.X.d) (ys ++ [y]) (kills own2 s6) else .stuck) := p'
            intro yv Z6 H6 f6 r6 a6 ⟨Fy, ty, fy⟩
            split at p'
            · rename_i hz
              obtain ⟨acc, e1, e2, L, kp⟩ := LcI.app (own := own2) hD aa5 r5 t5 fr' r6 a6 ty fy hz
              rw [w4] at L
              exact ⟨acc, e1, e2, by omega, hlt, Z6, _, ys ++ [y], L, k5.trans kp, p'⟩
            · exact p'.elim
  · have e : i = ds.length := by omega
    subst e
    refine .inl ⟨y2, ?_⟩
    rw [List.drop_length] at p'
    have L := LcI.kills (own := own) (⟨f', F, r', a', t', fr'⟩ : LcI T.c Z1 H1 f1 Dd (wipe σ2 own2) s' ys Z' H')
    have w5 : wipe (wipe σ2 own2) own = wipe σ own := by
      rw [wipe_but (σ := σ2) (wipe_length σ2 own2) (fun i hi => wipe_out fun z => hi (hsub i z)), w2]
    rw [w5] at L
    exact hNx ys s' Z' H' L p'
theorem imp_lc2 {H : Hp} {Q : VK} (hsl : ∀ i ∈ slots tg, i ∈ own) (hsl2 : ∀ i ∈ slots tg2, i ∈ own2) (hsub : ∀ i ∈ own2, i ∈ own) (h : tE T.c T.C T.G T.W (.lc2 own own2 e tg it ifs tg2 it2 ifs2) σ H Q) :
    tLc2 (tI T.c T.C T.G T.W it) (gT T.c tg) (tTs T.c T.C T.G (fun _ _ _ _ => False) ifs) (tI T.c T.C T.G (fun _ _ _ _ => False) it2) (gT T.c tg2) (tTs T.c T.C T.G (fun _ _ _ _ => False) ifs2) (tE T.c T.C T.G (fun _ _ _ _ => False) e) own own2 σ H Q := by
  obtain ⟨Z, s, f, r, p⟩ := h
  have p : post T.c T.W σ Z H f (kX T.c) ((ev T.C T.G it s).bind (kM1 T.C T.G own own2 e tg ifs tg2 it2 ifs2)) Q := p
  refine ⟨Z, s, f, r, ?_⟩
  cases q : ev T.C T.G it s with
  | exc e s' => rw [q] at p; exact p
  | stuck => rw [q] at p; exact p
  | ok x s1 =>
    rw [q] at p
    have p : post T.c T.W σ Z H f (kX T.c) ((ofO ((itemsD x).map fun l => l.map Mp.X.d) s1).bind (kM2 T.C T.G own own2 e tg ifs tg2 it2 ifs2)) Q := p
    cases q2 : itemsD x with
    | none => rw [q2] at p; exact p.elim
    | some ds =>
      rw [q2] at p
      have p : post T.c T.W σ Z H f (kX T.c) ((lcL2 (lc2T T.C T.G own own2 e tg ifs tg2 it2 ifs2) (ds.map Mp.X.d) [] (kills own s1)).bind (kM3 own s1)) Q := p
      refine ⟨ds, q2, fun J Z1 H1 f1 r1 a1 yl Dd hD => ?_⟩
      have rw1 := r1.killsW (own := own)
      have zD : ¬ Z1 Dd := fun z => r1.zo Dd z hD
      have fD : ¬ inF (fkill own f1) Dd := fun ⟨i, hi⟩ => by
        obtain ⟨o, e, _⟩ := rw1.ow i Dd hi
        rw [hD] at e; cases e
      refine ⟨fun i m H' => m = ds.length - i ∧ i ≤ ds.length ∧ ∃ Z' s' ys, LcI T.c Z1 H1 (fkill own f1) Dd (wipe σ own) s' ys Z' H' ∧
        post T.c T.W σ Z H f (kX T.c) ((lcL2 (lc2T T.C T.G own own2 e tg ifs tg2 it2 ifs2) ((ds.drop i).map Mp.X.d) ys s').bind (kM3 own s1)) Q, ⟨ds.length, by simp, Nat.zero_le _, Z1, _, [], ⟨_, [], rw1.laid hD, Fr.laid hD, ⟨.lst upd_same .nil, by simp, fun a ha => ?_, fun a ha => ?_⟩, fun a ha => ?_⟩, by simpa using p⟩, ?_⟩
      · rw [List.mem_singleton.mp ha]; exact zD
      · rw [List.mem_singleton.mp ha]; exact fD
      · rw [List.mem_singleton.mp ha]; exact .inr hD
      rintro i m H' ⟨rfl, hi, Z', s', ys, ⟨f', F, r', a', t', fr'⟩, p'⟩
      have k' := a'.kp rw1
      obtain ⟨y1, y2⟩ := yl Z' H' k'
      by_cases hlt : i < ds.length
      · refine .inr ?_
        have hd : ds[i]? = some ds[i] := List.getElem?_eq_getElem hlt
        obtain ⟨go, yy⟩ := y1 i _ hd
        rw [List.drop_eq_getElem_cons hlt, List.map_cons] at p'
        have p' : post T.c T.W σ Z H f (kX T.c) (((lc2T T.C T.G own own2 e tg ifs tg2 it2 ifs2 (.d ds[i]) ys s').calm.bind fun acc' s' => lcL2 (lc2T T.C T.G own own2 e tg ifs tg2 it2 ifs2) ((ds.drop (i + 1)).map Mp.X.d) acc' s').bind (kM3 own s1)) Q := p'
        refine ⟨go, fun H3 => ds.length - (i + 1) < ds.length - i ∧ i + 1 ≤ ds.length ∧ ∃ Z' s' ys, LcI T.c Z1 H1 (fkill own f1) Dd (wipe σ own) s' ys Z' H3 ∧
          post T.c T.W σ Z H f (kX T.c) ((lcL2 (lc2T T.C T.G own own2 e tg ifs tg2 it2 ifs2) ((ds.drop (i + 1)).map Mp.X.d) ys s').bind (kM3 own s1)) Q, fun H3 ⟨h1, h2, h3⟩ => ⟨_, h1, rfl, h2, h3⟩, fun v H3 yv => ?_⟩
        obtain ⟨ext, rd⟩ := yy v H3 yv
        have r3 := r'.fr ext
        have a3 : Fr Z' H' f' Z' H3 f' := Fr.ext ext
        refine ⟨Z', s', f', ds[i], r3, rd, ?_⟩
        unfold lc2T at p'
        cases qa : asg tg (.d ds[i]) s' with
        | none => rw [qa] at p'; exact p'.elim
        | some s4 =>
          rw [qa] at p'
          intro σ4 f4 r4 a4 b4
          have b4' : But own (wipe σ own) σ4 := fun i hi => b4 i fun z => hi (hsl i z)
          have w4 : wipe σ4 own = wipe σ own := by
            rw [wipe_but (σ := wipe σ own) (by rw [← r4.len, ← r3.len, asg_len qa]) b4', wipe_wipe]
          refine ⟨w4, Z', s4, f4, r4, ?_⟩
          have p' : post T.c T.W σ Z H f (kX T.c) ((((tsts T.C T.G ifs s4).bind (kIn T.C T.G own own2 e tg2 it2 ifs2 ys)).calm.bind fun acc' s' => lcL2 (lc2T T.C T.G own own2 e tg ifs tg2 it2 ifs2) ((ds.drop (i + 1)).map Mp.X.d) acc' s').bind (kM3 own s1)) Q := p'
          cases qt : tsts T.C T.G ifs s4 with
          | exc e' s5 => rw [qt] at p'; exact p'.elim
          | stuck => rw [qt] at p'; exact p'.elim
          | ok b s5 =>
            rw [qt] at p'
            intro b' Z5 H5 f5 r5 a5 hb
            rw [show b' = b from hb]
            have a05 := ((a3.trans a4).trans a5)
            have t5 := t'.fr r' a05
            have aa5 := a'.trans a05
            cases b with
            | false =>
              rw [if_neg (by simp)]
              have p' : post T.c T.W σ Z H f (kX T.c) ((lcL2 (lc2T T.C T.G own own2 e tg ifs tg2 it2 ifs2) ((ds.drop (i + 1)).map Mp.X.d) ys (kills own s5)).bind (kM3 own s1)) Q := p'
              have L := LcI.kills (own := own) (⟨f5, F, r5, aa5, t5, fr'⟩ : LcI T.c Z1 H1 (fkill own f1) Dd σ4 s5 ys Z5 H5)
              rw [w4] at L
              exact ⟨by omega, hlt, Z5, _, ys, L, p'⟩
            | true =>
              rw [if_pos rfl]
              have p' : post T.c T.W σ Z H f (kX T.c) ((((ev T.C T.G it2 s5).bind (kIn1 T.C T.G own own2 e tg2 ifs2 ys)).calm.bind fun acc' s' => lcL2 (lc2T T.C T.G own own2 e tg ifs tg2 it2 ifs2) ((ds.drop (i + 1)).map Mp.X.d) acc' s').bind (kM3 own s1)) Q := p'
              refine ⟨Z5, s5, f5, r5, ?_⟩
              cases qe : ev T.C T.G it2 s5 with
              | exc e' s6 => rw [qe] at p'; exact p'.elim
              | stuck => rw [qe] at p'; exact p'.elim
              | ok x2 s6 =>
                rw [qe] at p'
                have p' : post T.c T.W σ Z H f (kX T.c) ((((ofO ((itemsD x2).map fun l => l.map Mp.X.d) s6).bind (kIn2 T.C T.G own own2 e tg2 ifs2 ys)).calm.bind fun acc' s' => lcL2 (lc2T T.C T.G own own2 e tg ifs tg2 it2 ifs2) ((ds.drop (i + 1)).map Mp.X.d) acc' s').bind (kM3 own s1)) Q := p'
                cases q3 : itemsD x2 with
                | none => rw [q3] at p'; exact p'.elim
                | some ds2 =>
                  rw [q3] at p'
                  refine ⟨ds2, q3, fun J1 Z6 H6 f6 r6 a6 yl1 => ?_⟩
                  have p' : post T.c T.W σ Z H f (kX T.c) ((((lcL (lcT T.C T.G own2 e tg2 ifs2) (ds2.map Mp.X.d) ys (kills own2 s6)).bind (kInE own)).calm.bind fun acc' s' => lcL2 (lc2T T.C T.G own own2 e tg ifs tg2 it2 ifs2) ((ds.drop (i + 1)).map Mp.X.d) acc' s').bind (kM3 own s1)) Q := p'
                  have p2 : inP (fun ys t => post T.c T.W σ Z H f (kX T.c) ((lcL2 (lc2T T.C T.G own own2 e tg ifs tg2 it2 ifs2) ((ds.drop (i + 1)).map Mp.X.d) ys (kills own t)).bind (kM3 own s1)) Q) (lcL (lcT T.C T.G own2 e tg2 ifs2) (ds2.map Mp.X.d) ys (kills own2 s6)) := by
                    generalize lcL (lcT T.C T.G own2 e tg2 ifs2) (ds2.map Mp.X.d) ys (kills own2 s6) = o at p' ⊢
                    cases o with
                    | ok a b => exact p'
                    | exc a b => exact p'.elim
                    | stuck => exact p'.elim
                  have a6' := aa5.trans a6
                  exact lc_in hsl2 hsub hD r6 w4 a6' (t5.fr r5 a6) fr' yl1 p2 fun ys t Z' H' L p => ⟨by omega, hlt, Z', _, ys, L, p⟩
      · have e : i = ds.length := by omega
        subst e
        refine .inl ⟨y2, ?_⟩
        rw [List.drop_length] at p'
        have p' : post T.c T.W σ Z H f (kX T.c) (.ok (.lst ys) (back own s1 s')) Q := p'
        obtain ⟨rb, ab⟩ := r1.back r' a'
        refine p' (.ref Dd) Z' H' _ rb (a1.trans ab) ⟨Dd :: F, ⟨t'.rx, t'.nd, t'.nz, fun b hb ⟨j, hj⟩ => ?_⟩, From.fr a1 fun b hb => (fr' b hb).imp fkill_inF id⟩
        by_cases h : j ∈ own
        · simp only [if_pos h] at hj
          rcases fr' b hb with ⟨l, hl⟩ | z
          · obtain ⟨h1, h2⟩ := fkill_mem hl
            exact r1.dj j l (fun e => h1 (e ▸ h)) b hj h2
          · obtain ⟨o, e, _⟩ := r1.ow j b hj
            rw [z] at e; cases e
        · simp only [if_neg h] at hj; exact t'.nf b hb ⟨j, hj⟩
end
section
variable {T : At} {own own2 : List Nat} {e it it2 : E} {tg tg2 : Tg} {ifs ifs2 : List E} {elt ta ia ta2 ia2 : Expr} {ifa ifa2 : List Expr} {scope : Scope} {ownA : List (Str × Nat)} {pos : Pos}
theorem se_lc2 (hc : T.X.calm = true) (hN : T.X.N.Nodup) (hi : SI T ta it ia) (ok : BlkOk T.X.N T.X.env.scope scope ownA) (ho : ownA.map (·.2) = own) (hsub : ∀ i ∈ own2, i ∈ own) (hsl : ∀ i ∈ slots tg, i ∈ own) (hsl2 : ∀ i ∈ slots tg2, i ∈ own2)
    (hg : ∀ (s : Shared) (H : Hp) (C : Addr) (cl : List (Str × Addr)) (fp : List Addr), SGt (T.blk s H scope (compEnvC scope cl C T.X.env) fp) tg ta)
    (ht : ∀ (s : Shared) (H : Hp) (C : Addr) (cl : List (Str × Addr)) (fp : List Addr), SPT (T.blk s H scope (compEnvC scope cl C T.X.env) fp) ifs ifa)
    (hi2 : ∀ (s : Shared) (H : Hp) (C : Addr) (cl : List (Str × Addr)) (fp : List Addr), SI (T.blk s H scope (compEnvC scope cl C T.X.env) fp) ta2 it2 ia2)
    (hg2 : ∀ (s : Shared) (H : Hp) (C : Addr) (cl : List (Str × Addr)) (fp : List Addr), SGt (T.blk s H scope (compEnvC scope cl C T.X.env) fp) tg2 ta2)
    (ht2 : ∀ (s : Shared) (H : Hp) (C : Addr) (cl : List (Str × Addr)) (fp : List Addr), SPT (T.blk s H scope (compEnvC scope cl C T.X.env) fp) ifs2 ifa2)
    (he : ∀ (s : Shared) (H : Hp) (C : Addr) (cl : List (Str × Addr)) (fp : List Addr), SE (T.blk s H scope (compEnvC scope cl C T.X.env) fp) e elt) (hs : ∀ x, foldedSetIterable ia T.X.env x = pure x) (hs2 : ∀ env x, foldedSetIterable ia2 env x = pure x) :
    SE T (.lc2 own own2 e tg it ifs tg2 it2 ifs2) (.ListComp elt [⟨ta, ia, ifa, 0⟩, ⟨ta2, ia2, ifa2, 0⟩] scope pos) := PE.imp (pe_lc2 (vs1 := own2) (wi := tI T.c T.C T.G T.W it) (g := gT T.c tg) (tt := tTs T.c T.C T.G (fun _ _ _ _ => False) ifs) (wi1 := tI T.c T.C T.G (fun _ _ _ _ => False) it2) (g1 := gT T.c tg2) (tt1 := tTs T.c T.C T.G (fun _ _ _ _ => False) ifs2) (te := tE T.c T.C T.G (fun _ _ _ _ => False) e) hc hN hi ok (by rw [ho]; exact hsub) hg ht hi2 hg2 ht2 he hs hs2) fun σ H Q h => by
  rw [ho]
  exact imp_lc2 hsl hsl2 hsub h
end
end Mp
set_option maxHeartbeats 200000
/-! Ord: a weak order of all data that says what < says, where < says it. -/
namespace Mp
open PySem
mutual
def cmpT : D → D → Ordering
  | .int i, .int j => if i < j then .lt else if j < i then .gt else .eq
  | .str x, .str y => if x.cps.toList < y.cps.toList then .lt else if y.cps.toList < x.cps.toList then .gt else .eq
  | .tuple a, .tuple b => cmpTs a b
  | .list a, .list b => cmpTs a b
  | x, y => if rk x < rk y then .lt else if rk y < rk x then .gt else .eq
def cmpTs : List D → List D → Ordering
  | [], [] => .eq
  | [], _ :: _ => .lt
  | _ :: _, [] => .gt
  | x :: xs, y :: ys => (cmpT x y).then (cmpTs xs ys)
end
theorem cmp_if_swap {p q : Prop} [Decidable p] [Decidable q] (h : p → ¬ q) : (if q then Ordering.lt else if p then .gt else .eq) = (if p then Ordering.lt else if q then .gt else .eq).swap := by
  by_cases a : p
  · rw [if_pos a, if_neg (h a), if_pos a]; rfl
  · by_cases b : q
    · rw [if_pos b, if_neg a, if_pos b]; rfl
    · rw [if_neg b, if_neg a, if_neg a, if_neg b]; rfl
theorem cmp_rk {x y : D} (h : rk x ≠ rk y) : cmpT x y = if rk x < rk y then .lt else if rk y < rk x then .gt else .eq := by
  cases x <;> cases y <;> first | rfl | exact absurd rfl h
theorem cmp_oth {x y : D} (h : rk x = 0) : cmpT x y = if rk x < rk y then .lt else if rk y < rk x then .gt else .eq := by
  cases x <;> first | (cases y <;> rfl) | cases h
theorem then_swap (a b : Ordering) : (a.then b).swap = a.swap.then b.swap := by cases a <;> cases b <;> rfl
mutual
theorem cmp_swap : ∀ x y : D, cmpT y x = (cmpT x y).swap
  | .int i, y => by
    cases y with
    | int j => exact cmp_if_swap (p := i < j) (q := j < i) (by omega)
    | _ => rfl
  | .str i, y => by
    cases y with
    | str j => exact cmp_if_swap (p := i.cps.toList < j.cps.toList) (q := j.cps.toList < i.cps.toList) (fun h => List.lt_asymm h)
    | _ => rfl
  | .tuple a, y => by
    cases y with
    | tuple b => exact cmps_swap a b
    | _ => rfl
  | .list a, y => by
    cases y with
    | list b => exact cmps_swap a b
    | _ => rfl
  | .none, y => by cases y <;> rfl
  | .bool _, y => by cases y <;> rfl
  | .dict _, y => by cases y <;> rfl
theorem cmps_swap : ∀ x y : List D, cmpTs y x = (cmpTs x y).swap
  | [], [] => rfl
  | [], _ :: _ => rfl
  | _ :: _, [] => rfl
  | x :: xs, y :: ys => by
    show (cmpT y x).then (cmpTs ys xs) = ((cmpT x y).then (cmpTs xs ys)).swap
    rw [then_swap, cmp_swap x y, cmps_swap xs ys]
end
theorem ne_gt_swap {a : Ordering} : a.swap ≠ .gt ↔ a ≠ .lt := by cases a <;> decide
theorem cmps_le {P : D → Prop} (H : ∀ x y z, P x → P y → P z → cmpT x y ≠ .gt → cmpT y z ≠ .gt → cmpT x z ≠ .gt) :
    ∀ xs ys zs : List D, (∀ x ∈ xs, P x) → (∀ x ∈ ys, P x) → (∀ x ∈ zs, P x) → cmpTs xs ys ≠ .gt → cmpTs ys zs ≠ .gt → cmpTs xs zs ≠ .gt
  | [], _, [], _, _, _, _, _ => by decide
  | [], _, _ :: _, _, _, _, _, _ => fun h => nomatch h
  | _ :: _, [], _, _, _, _, h, _ => absurd rfl h
  | _ :: _, _ :: _, [], _, _, _, _, h => absurd rfl h
  | x :: xs, y :: ys, z :: zs, hx, hy, hz, h1, h2 => by
    have px := hx x List.mem_cons_self
    have py := hy y List.mem_cons_self
    have pz := hz z List.mem_cons_self
    have T := cmps_le H xs ys zs (fun a h => hx a (List.mem_cons_of_mem _ h)) (fun a h => hy a (List.mem_cons_of_mem _ h)) (fun a h => hz a (List.mem_cons_of_mem _ h))
    have a1 := H x y z px py pz
    have a2 := H y z x py pz px
    have a3 := H z x y pz px py
    have a4 := H z y x pz py px
    have a5 := H y x z py px pz
    have a6 := H x z y px pz py
    rw [cmp_swap x z] at a2 a3 a4
    rw [cmp_swap x y] at a2 a4 a5
    rw [cmp_swap y z] at a3 a4 a6
    change (cmpT x y).then (cmpTs xs ys) ≠ .gt at h1
    change (cmpT y z).then (cmpTs ys zs) ≠ .gt at h2
    show (cmpT x z).then (cmpTs xs zs) ≠ .gt
    revert a1 a2 a3 a4 a5 a6 h1 h2 T
    generalize cmpT x y = c1
    generalize cmpT y z = c2
    generalize cmpT x z = c3
    generalize cmpTs xs ys = r1
    generalize cmpTs ys zs = r2
    generalize cmpTs xs zs = r3
    intro T a1 a2 a3 a4 a5 a6 h1 h2
    cases c1 <;> cases c2 <;> cases c3 <;> first | (exact absurd rfl h1) | (exact absurd rfl h2) | (intro h; cases h; done) | (exact T h1 h2) | (exact absurd rfl (a1 (by decide) (by decide))) | (exact absurd rfl (a2 (by decide) (by decide))) | (exact absurd rfl (a3 (by decide) (by decide))) | (exact absurd rfl (a4 (by decide) (by decide)))
theorem mem_depth {x : D} {l : List D} (h : x ∈ l) : x.depth ≤ PyData.depthAll l := by
  obtain ⟨i, hi, rfl⟩ := List.getElem_of_mem h
  exact deeper_in (List.getElem?_eq_getElem hi)
theorem cmp_if_le {p q : Prop} [Decidable p] [Decidable q] (hpq : p → ¬ q) : (if p then Ordering.lt else if q then .gt else .eq) ≠ .gt ↔ ¬ q := by
  by_cases a : p
  · rw [if_pos a]; exact ⟨fun _ => hpq a, fun _ h => nomatch h⟩
  · rw [if_neg a]
    by_cases b : q
    · rw [if_pos b]; exact ⟨fun h => absurd rfl h, fun h => absurd b h⟩
    · rw [if_neg b]; exact ⟨fun _ => b, fun _ h => nomatch h⟩
theorem rk_le {x y : D} (h : cmpT x y ≠ .gt) : rk x ≤ rk y := by
  by_cases e : rk x = rk y
  · omega
  · rw [cmp_rk e] at h
    have := (cmp_if_le (by omega)).mp h
    omega
/-- not above: one after the other -/
theorem cmp_le : ∀ (n : Nat) (x y z : D), x.depth ≤ n → y.depth ≤ n → z.depth ≤ n → cmpT x y ≠ .gt → cmpT y z ≠ .gt → cmpT x z ≠ .gt := by
  intro n
  induction n with
  | zero =>
    intro x y z hx hy hz h1 h2
    have e1 := rk_le h1
    have e2 := rk_le h2
    by_cases e : rk x = rk z
    · have e3 : rk x = rk y := by omega
      cases x with
      | int i =>
        cases y with
        | int j =>
          cases z with
          | int k =>
            have h1 := (cmp_if_le (p := i < j) (q := j < i) (by omega)).mp h1
            have h2 := (cmp_if_le (p := j < k) (q := k < j) (by omega)).mp h2
            exact (cmp_if_le (p := i < k) (q := k < i) (by omega)).mpr (by omega)
          | _ => cases e
        | _ => cases e3
      | str i =>
        cases y with
        | str j =>
          cases z with
          | str k =>
            have h1 := (cmp_if_le (p := i.cps.toList < j.cps.toList) (q := j.cps.toList < i.cps.toList) (fun h => List.lt_asymm h)).mp h1
            have h2 := (cmp_if_le (p := j.cps.toList < k.cps.toList) (q := k.cps.toList < j.cps.toList) (fun h => List.lt_asymm h)).mp h2
            refine (cmp_if_le (p := i.cps.toList < k.cps.toList) (q := k.cps.toList < i.cps.toList) (fun h => List.lt_asymm h)).mpr ?_
            exact List.not_lt.mpr (List.le_trans (List.not_lt.mp h1) (List.not_lt.mp h2))
          | _ => cases e
        | _ => cases e3
      | tuple a => simp only [PyData.depth] at hx; omega
      | list a => simp only [PyData.depth] at hx; omega
      | _ => cases z <;> first | (cases e; done) | (intro h; exact nomatch h)
    · rw [cmp_rk e, cmp_if_le (by omega)]
      omega
  | succ n ih =>
    intro x y z hx hy hz h1 h2
    have e1 := rk_le h1
    have e2 := rk_le h2
    by_cases e : rk x = rk z
    · have e3 : rk x = rk y := by omega
      cases x with
      | int i =>
        cases y with
        | int j =>
          cases z with
          | int k =>
            have h1 := (cmp_if_le (p := i < j) (q := j < i) (by omega)).mp h1
            have h2 := (cmp_if_le (p := j < k) (q := k < j) (by omega)).mp h2
            exact (cmp_if_le (p := i < k) (q := k < i) (by omega)).mpr (by omega)
          | _ => cases e
        | _ => cases e3
      | str i =>
        cases y with
        | str j =>
          cases z with
          | str k =>
            have h1 := (cmp_if_le (p := i.cps.toList < j.cps.toList) (q := j.cps.toList < i.cps.toList) (fun h => List.lt_asymm h)).mp h1
            have h2 := (cmp_if_le (p := j.cps.toList < k.cps.toList) (q := k.cps.toList < j.cps.toList) (fun h => List.lt_asymm h)).mp h2
            refine (cmp_if_le (p := i.cps.toList < k.cps.toList) (q := k.cps.toList < i.cps.toList) (fun h => List.lt_asymm h)).mpr ?_
            exact List.not_lt.mpr (List.le_trans (List.not_lt.mp h1) (List.not_lt.mp h2))
          | _ => cases e
        | _ => cases e3
      | tuple a =>
        cases y with
        | tuple b =>
          cases z with
          | tuple d =>
            simp only [PyData.depth] at hx hy hz
            exact cmps_le (P := fun x => x.depth ≤ n) ih a b d (fun x h => by have := mem_depth h; omega) (fun x h => by have := mem_depth h; omega) (fun x h => by have := mem_depth h; omega) h1 h2
          | _ => cases e
        | _ => cases e3
      | list a =>
        cases y with
        | list b =>
          cases z with
          | list d =>
            simp only [PyData.depth] at hx hy hz
            exact cmps_le (P := fun x => x.depth ≤ n) ih a b d (fun x h => by have := mem_depth h; omega) (fun x h => by have := mem_depth h; omega) (fun x h => by have := mem_depth h; omega) h1 h2
          | _ => cases e
        | _ => cases e3
      | _ => cases z <;> first | (cases e; done) | (intro h; exact nomatch h)
    · rw [cmp_rk e, cmp_if_le (by omega)]
      omega
def ltT (x y : D) : Bool := cmpT x y == .lt
theorem ltT_no {x y : D} : ltT y x = false ↔ cmpT x y ≠ .gt := by
  unfold ltT
  rw [cmp_swap x y]
  cases cmpT x y <;> decide
theorem swo_ltT : SrtO.Swo ltT := by
  refine ⟨fun x y h => ?_, fun x y z h1 h2 => ?_⟩
  · refine ltT_no.mpr ?_
    have : cmpT x y = .lt := by simpa [ltT] using h
    rw [this]; decide
  · rw [ltT_no] at *
    exact cmp_le (max x.depth (max y.depth z.depth)) x y z (by omega) (by omega) (by omega) h1 h2
theorem plains_cons {x : D} {r : List D} (h : plains (x :: r) = true) : plain x = true ∧ plains r = true := by
  simpa [plains] using h
mutual
theorem eqv_plain : ∀ {x y : D}, plain x = true → plain y = true → PyData.eqv x y = true → x = y
  | .int i, y, _, hy, h => by
    cases y with
    | none => exact absurd h (by rw [PyData.eqv]; decide)
    | int j => rw [eqv_int] at h; rw [eq_of_beq h]
    | str j => exact absurd h (by rw [PyData.eqv]; decide)
    | tuple b => exact absurd h (by rw [PyData.eqv]; decide)
    | bool _ => exact nomatch hy
    | list _ => exact absurd h (by rw [PyData.eqv]; decide)
    | dict _ => exact nomatch hy
  | .str i, y, _, hy, h => by
    cases y with
    | none => exact absurd h (by rw [PyData.eqv]; decide)
    | int j => exact absurd h (by rw [PyData.eqv]; decide)
    | str j => rw [eqv_str] at h; rw [eq_of_beq h]
    | tuple b => exact absurd h (by rw [PyData.eqv]; decide)
    | bool _ => exact nomatch hy
    | list _ => exact absurd h (by rw [PyData.eqv]; decide)
    | dict _ => exact nomatch hy
  | .none, y, _, hy, h => by
    cases y with
    | none => rfl
    | int j => exact absurd h (by rw [PyData.eqv]; decide)
    | str j => exact absurd h (by rw [PyData.eqv]; decide)
    | tuple b => exact absurd h (by rw [PyData.eqv]; decide)
    | bool _ => exact nomatch hy
    | list _ => exact absurd h (by rw [PyData.eqv]; decide)
    | dict _ => exact nomatch hy
  | .tuple a, y, hx, hy, h => by
    cases y with
    | none => exact absurd h (by rw [PyData.eqv]; decide)
    | int j => exact absurd h (by rw [PyData.eqv]; decide)
    | str j => exact absurd h (by rw [PyData.eqv]; decide)
    | tuple b => rw [eqv_tup] at h; rw [eqvs_plain (x := a) (y := b) hx hy h]
    | bool _ => exact nomatch hy
    | list _ => exact absurd h (by rw [PyData.eqv]; decide)
    | dict _ => exact nomatch hy
  | .list a, y, hx, hy, h => by
    cases y with
    | none => exact absurd h (by rw [PyData.eqv]; decide)
    | int j => exact absurd h (by rw [PyData.eqv]; decide)
    | str j => exact absurd h (by rw [PyData.eqv]; decide)
    | tuple _ => exact absurd h (by rw [PyData.eqv]; decide)
    | bool _ => exact nomatch hy
    | list b => rw [eqv_lst] at h; rw [eqvs_plain (x := a) (y := b) hx hy h]
    | dict _ => exact nomatch hy
  | .bool _, _, hx, _, _ => nomatch hx
  | .dict _, _, hx, _, _ => nomatch hx
theorem eqvs_plain : ∀ {x y : List D}, plains x = true → plains y = true → PyData.eqvAll x y = true → x = y
  | [], [], _, _, _ => rfl
  | [], _ :: _, _, _, h => by rw [eqvs_nc] at h; cases h
  | _ :: _, [], _, _, h => by rw [eqvs_cn] at h; cases h
  | x :: xs, y :: ys, hx, hy, h => by
    rw [eqvs_cc, Bool.and_eq_true] at h
    rw [eqv_plain (plains_cons hx).1 (plains_cons hy).1 h.1, eqvs_plain (plains_cons hx).2 (plains_cons hy).2 h.2]
end
mutual
theorem eqv_refl : ∀ {x : D}, plain x = true → PyData.eqv x x = true
  | .int i, _ => by rw [eqv_int]; exact beq_self_eq_true _
  | .str i, _ => by rw [eqv_str]; exact beq_self_eq_true _
  | .none, _ => by rw [PyData.eqv]
  | .tuple a, h => by rw [eqv_tup]; exact eqvs_refl (x := a) h
  | .list a, h => by rw [eqv_lst]; exact eqvs_refl (x := a) h
  | .bool _, hx => nomatch hx
  | .dict _, hx => nomatch hx
theorem eqvs_refl : ∀ {x : List D}, plains x = true → PyData.eqvAll x x = true
  | [], _ => eqvs_nil
  | x :: xs, h => by rw [eqvs_cc, eqv_refl (plains_cons h).1, eqvs_refl (plains_cons h).2]; rfl
end
theorem cmp_self (x : D) : cmpT x x = .eq := by
  have := cmp_swap x x
  revert this
  cases cmpT x x <;> decide
theorem cmp_if_eq {p q : Prop} [Decidable p] [Decidable q] (h : (if p then Ordering.lt else if q then .gt else .eq) = .eq) : ¬ p ∧ ¬ q := by
  by_cases a : p
  · rw [if_pos a] at h; cases h
  · rw [if_neg a] at h
    by_cases b : q
    · rw [if_pos b] at h; cases h
    · exact ⟨a, b⟩
theorem cmp_if_ltB {p q : Prop} [Decidable p] [Decidable q] : ((if p then Ordering.lt else if q then .gt else .eq) == .lt) = decide p := by
  by_cases a : p
  · rw [if_pos a]; simp [a]
  · rw [if_neg a]
    by_cases b : q
    · rw [if_pos b]; simp [a]
    · rw [if_neg b]; simp [a]
mutual
theorem cmp_eq_plain : ∀ {x y : D}, plain x = true → plain y = true → cmpT x y = .eq → x = y
  | .int i, y, _, hy, h => by
    cases y with
    | int j =>
      have := cmp_if_eq (p := i < j) (q := j < i) h
      rw [show i = j by omega]
    | _ => cases h
  | .str i, y, _, hy, h => by
    cases y with
    | str j =>
      have := cmp_if_eq (p := i.cps.toList < j.cps.toList) (q := j.cps.toList < i.cps.toList) h
      have e : i.cps.toList = j.cps.toList := List.le_antisymm (List.not_lt.mp this.2) (List.not_lt.mp this.1)
      obtain ⟨a⟩ := i
      obtain ⟨b⟩ := j
      rw [show a = b from Array.toList_inj.mp e]
    | _ => cases h
  | .none, y, _, hy, h => by
    cases y with
    | none => rfl
    | int _ => cases h
    | str _ => cases h
    | tuple _ => cases h
    | bool _ => exact nomatch hy
    | list _ => cases h
    | dict _ => exact nomatch hy
  | .tuple a, y, hx, hy, h => by
    cases y with
    | tuple b => rw [cmps_eq_plain (x := a) (y := b) hx hy h]
    | _ => cases h
  | .list a, y, hx, hy, h => by
    cases y with
    | list b => rw [cmps_eq_plain (x := a) (y := b) hx hy h]
    | _ => cases h
  | .bool _, _, hx, _, _ => nomatch hx
  | .dict _, _, hx, _, _ => nomatch hx
theorem cmps_eq_plain : ∀ {x y : List D}, plains x = true → plains y = true → cmpTs x y = .eq → x = y
  | [], [], _, _, _ => rfl
  | [], _ :: _, _, _, h => nomatch h
  | _ :: _, [], _, _, h => nomatch h
  | x :: xs, y :: ys, hx, hy, h => by
    change (cmpT x y).then (cmpTs xs ys) = .eq at h
    have : cmpT x y = .eq ∧ cmpTs xs ys = .eq := by
      revert h
      cases cmpT x y <;> cases cmpTs xs ys <;> decide
    rw [cmp_eq_plain (plains_cons hx).1 (plains_cons hy).1 this.1, cmps_eq_plain (plains_cons hx).2 (plains_cons hy).2 this.2]
end
mutual
/-- where < tells, the order tells the same -/
theorem ltD_T : ∀ {x y : D} {k : Bool}, plain x = true → plain y = true → ltD x y = some k → ltT x y = k
  | .int i, y, k, _, _, h => by
    cases y with
    | int j => cases h; exact cmp_if_ltB
    | _ => cases h
  | .str i, y, k, _, _, h => by
    cases y with
    | str j => cases h; exact cmp_if_ltB
    | _ => cases h
  | .tuple a, y, k, hx, hy, h => by
    cases y with
    | tuple b => exact ltDs_T (x := a) (y := b) hx hy h
    | _ => cases h
  | .list a, y, k, hx, hy, h => by
    cases y with
    | list b => exact ltDs_T (x := a) (y := b) hx hy h
    | _ => cases h
  | .none, y, _, _, _, h => by cases y <;> cases h
  | .bool _, _, _, hx, _, _ => nomatch hx
  | .dict _, _, _, hx, _, _ => nomatch hx
theorem ltDs_T : ∀ {x y : List D} {k : Bool}, plains x = true → plains y = true → ltDs x y = some k → (cmpTs x y == .lt) = k
  | [], [], _, _, _, h => by cases h; rfl
  | [], _ :: _, _, _, _, h => by cases h; rfl
  | _ :: _, [], _, _, _, h => by cases h; rfl
  | x :: xs, y :: ys, k, hx, hy, h => by
    show ((cmpT x y).then (cmpTs xs ys) == .lt) = k
    have px := plains_cons hx
    have py := plains_cons hy
    unfold ltDs at h
    cases q : PyData.eqv x y with
    | true =>
      rw [q, if_pos rfl] at h
      rw [eqv_plain px.1 py.1 q, cmp_self]
      exact ltDs_T px.2 py.2 h
    | false =>
      rw [q, if_neg (by decide)] at h
      have e := ltD_T px.1 py.1 h
      unfold ltT at e
      have ne : cmpT x y ≠ .eq := fun z => by
        rw [cmp_eq_plain px.1 py.1 z, eqv_refl py.1] at q
        cases q
      rw [← e]
      revert ne
      cases cmpT x y <;> cases cmpTs xs ys <;> decide
end
end Mp
set_option maxHeartbeats 1000000
/-! Srt: data that can be sorted are sorted so: insertion from the right, each before its equals. -/
namespace Mp
open PySem PySem.Spec PyProof.Rows SrtO PySem.W
section
variable {α β : Type}
variable {lt : α → α → Bool}
theorem ins_split (x : α) : ∀ l : List α, ∃ M N, l = M ++ N ∧ ins lt x l = M ++ x :: N ∧ (∀ y ∈ M, lt y x = true) ∧ (∀ y r, N = y :: r → lt y x = false)
  | [] => ⟨[], [], rfl, rfl, by simp, by simp⟩
  | y :: r => by
    unfold ins
    cases h : lt y x with
    | true =>
      obtain ⟨M, N, e1, e2, h1, h2⟩ := ins_split x r
      refine ⟨y :: M, N, by rw [e1]; rfl, by rw [if_pos rfl, e2]; rfl, fun z hz => ?_, h2⟩
      rcases List.mem_cons.mp hz with rfl | hz
      · exact h
      · exact h1 z hz
    | false =>
      refine ⟨[], y :: r, rfl, by rw [if_neg (by decide)]; rfl, (by simp), fun z w e => ?_⟩
      cases e
      exact h
theorem ins_ok (O : Swo lt) (x : α) {l : List α} (h : Srtd lt l) : Srtd lt (ins lt x l) ∧ Stb lt (ins lt x l) (x :: l) := by
  obtain ⟨M, N, e1, e2, h1, h2⟩ := ins_split (lt := lt) x l
  subst e1
  rw [e2]
  obtain ⟨hM, hN, hMN⟩ := srtd_app.mp h
  have hx : ∀ y ∈ N, lt y x = false := by
    intro y hy
    cases N with
    | nil => cases hy
    | cons z r =>
      have hz := h2 z r rfl
      rcases List.mem_cons.mp hy with rfl | hy
      · exact hz
      · exact O.tr x z y hz (srtd_head hN y hy)
  refine ⟨srtd_app.mpr ⟨hM, List.pairwise_cons.mpr ⟨hx, hN⟩, fun a ha b hb => ?_⟩, ?_, fun z => ?_⟩
  · rcases List.mem_cons.mp hb with rfl | hb
    · exact O.asym _ _ (h1 a ha)
    · exact hMN a ha b hb
  · exact List.perm_middle
  · have hz : eqv lt z x = true → M.filter (eqv lt z) = [] := fun e => by
      refine List.filter_eq_nil_iff.mpr fun y hy q => ?_
      have a := eqv_iff.mp e
      have b := eqv_iff.mp q
      have c := h1 y hy
      have := O.ltle c a.1
      rw [b.2] at this
      cases this
    rw [List.filter_append, List.filter_cons, List.filter_cons, List.filter_append]
    cases q : eqv lt z x with
    | true => rw [hz q]; rfl
    | false => rfl
theorem isort_ok (O : Swo lt) : ∀ l : List α, Srtd lt (isort lt l) ∧ Stb lt (isort lt l) l
  | [] => ⟨List.Pairwise.nil, Stb.refl _⟩
  | x :: r => by
    obtain ⟨h1, h2⟩ := isort_ok O r
    obtain ⟨k1, k2⟩ := ins_ok O x h1
    exact ⟨k1, k2.trans (Stb.app (Stb.refl [x]) h2)⟩
theorem isort_of (O : Swo lt) {l m : List α} (h1 : Srtd lt l) (h2 : Stb lt l m) : l = isort lt m := by
  obtain ⟨k1, k2⟩ := isort_ok O m
  refine stb_uniq O h1 k1 (h2.trans ⟨k2.perm.symm, fun x => (k2.cls x).symm⟩)
theorem ins_rel {R : α → β → Prop} {lt : α → α → Bool} {mt : β → β → Bool} {a : α} {b : β} (hab : R a b) :
    ∀ {as : List α} {bs : List β}, EachIs R as bs → (∀ x y, R x y → y ∈ bs → lt x a = mt y b) → EachIs R (ins lt a as) (ins mt b bs)
  | _, _, .nil, _ => .cons hab .nil
  | _, _, .cons h t, H => by
    unfold ins
    rw [H _ _ h List.mem_cons_self]
    split
    · exact .cons h (ins_rel hab t fun x y r m => H x y r (List.mem_cons_of_mem _ m))
    · exact .cons hab (.cons h t)
theorem ins_mem {x y : α} : ∀ {l : List α}, y ∈ ins lt x l ↔ y = x ∨ y ∈ l
  | [] => by simp [ins]
  | z :: r => by
    unfold ins
    split
    · rw [List.mem_cons, ins_mem, List.mem_cons]
      constructor <;> (intro h; rcases h with h | h | h <;> simp [h])
    · rw [List.mem_cons]
theorem isort_mem {y : α} : ∀ {l : List α}, y ∈ isort lt l ↔ y ∈ l
  | [] => Iff.rfl
  | x :: r => by
    unfold isort
    rw [ins_mem, isort_mem, List.mem_cons]
theorem isort_rel {R : α → β → Prop} {lt : α → α → Bool} {mt : β → β → Bool} :
    ∀ {as : List α} {bs : List β}, EachIs R as bs → (∀ x y x' y', R x y → R x' y' → y ∈ bs → y' ∈ bs → lt x x' = mt y y') → EachIs R (isort lt as) (isort mt bs)
  | _, _, .nil, _ => .nil
  | _, _, .cons h t, H => by
    unfold isort
    refine ins_rel h (isort_rel t fun x y x' y' r r' m m' => H x y x' y' r r' (List.mem_cons_of_mem _ m) (List.mem_cons_of_mem _ m')) fun x y r m => ?_
    exact H x y _ _ r h (List.mem_cons_of_mem _ (isort_mem.mp m)) List.mem_cons_self
end
theorem SrtOk.lt {ks : List D} (K : SrtOk ks) {a b : D} (ha : a ∈ ks) (hb : b ∈ ks) : ltD a b = some (ltB a b) ∧ ltT a b = ltB a b := by
  have h := K.cm a ha b hb
  unfold ltB
  cases q : ltD a b with
  | none => rw [q] at h; cases h
  | some k => exact ⟨rfl, ltD_T (K.pl a ha) (K.pl b hb) q⟩
open Classical in
/-- the datum of ks that v is -/
noncomputable def dec (h : Heap) (ks : List D) (v : Value) : D := if q : ∃ d, d ∈ ks ∧ ∃ as, Reads h v d as then q.choose else .none
theorem dec_eq {h : Heap} {ks : List D} {v : Value} {d : D} {as : List Addr} (hd : d ∈ ks) (r : Reads h v d as) : dec h ks v = d := by
  have q : ∃ d, d ∈ ks ∧ ∃ as, Reads h v d as := ⟨d, hd, as, r⟩
  unfold dec
  rw [dif_pos q]
  obtain ⟨as', r'⟩ := q.choose_spec.2
  exact (PyProof.Rows.reads_det (fun _ _ e _ => e) r r').1
noncomputable def ltv (h : Heap) (ks : List D) (v u : Value) : Bool := ltT (dec h ks v) (dec h ks u)
theorem swo_ltv (h : Heap) (ks : List D) : Swo (ltv h ks) := ⟨fun _ _ => swo_ltT.asym _ _, fun _ _ _ => swo_ltT.tr _ _ _⟩
section
variable {prog : Program} {w : World} {A : Around} {s : Shared}
/-- the quick < of two texts, numbers, lists, as sorting makes it -/
theorem oneLt_plain {f : Bool} {x y : D} {a b : Value} {as bs : List Addr} {k : Bool} {Q : Bool → Shared → Prop} {E : Value → Shared → Prop} (hf : f = true → ∀ t, x ≠ .tuple t) (ra : Reads s.heap a x as) (rb : Reads s.heap b y bs) (lx : x.canLay0 = true) (ly : y.canLay0 = true)
    (hu : A.units + min x.depth y.depth < cLine) (e : ltD x y = some k) (hq : Q k s) : wpAny (model prog w) A (oneLt' f a b) Q E s := by
  cases f with
  | false => exact kat_one _ _ (rc_lt _ x y A s _ _ _ _ k (Nat.le_refl _) ra rb lx ly hu e prog w _ _ hq)
  | true =>
    cases x with
    | int i =>
      cases y with
      | int j => cases ra; cases rb; cases e; exact oneLt_int hq
      | _ => cases e
    | str i =>
      cases y with
      | str j => cases ra; cases rb; cases e; exact oneLt_str hq
      | _ => cases e
    | tuple t => exact absurd rfl (hf rfl t)
    | list xs =>
      cases y with
      | list ys =>
        have e : ltDs xs ys = some k := e
        cases ra with
        | @list l o vs n _ as₁ h1 h2 h3 h4 =>
          cases rb with
          | @list l' o' vs' n' _ bs₁ k1 k2 k3 k4 =>
            have n1 : vs.size = xs.length := by simpa using SeqAt.ReadsAll.length _ _ _ h4
            have n2 : vs'.size = ys.length := by simpa using SeqAt.ReadsAll.length _ _ _ k4
            have ca' : PyData.canLayAll0 xs = true := by simpa [PyData.canLay0] using lx
            have cb' : PyData.canLayAll0 ys = true := by simpa [PyData.canLay0] using ly
            simp only [PyData.depth] at hu
            have hin : A.in1.units + min (PyData.depthAll xs) (PyData.depthAll ys) < cLine := by show A.units + 1 + _ < _; omega
            have hk := first_ltDs xs ys k e
            rw [oneLt'_eq]
            simp only [if_true]
            refine wpAny_bind (wpAny_cRoomFor (by omega) ?_)
            refine wpAny_bind (wpAny_callSpecialIfBound?_slot (T := "list") ⟨_, h1, h2⟩ F.slot_list_lt (SeqAt.call_list_lt1 (e := SeqAt.pairEq xs ys) (r := ltAt xs ys) ⟨_, h1, h2, _, h3⟩ ⟨_, k1, k2, _, k3⟩ (fun j j1 j2 => ?_) (fun j j1 j2 hI hj => ?_) ?_))
            · have := SeqAt.eqAt_readsAll xs ys A.in1 s vs.toList vs'.toList _ _ h4 k4 ca' cb' hin j (by simpa using j1) (by simpa using j2)
              simpa using this
            · obtain ⟨x, hx⟩ : ∃ x, xs[j]? = some x := ⟨xs[j]'(by omega), List.getElem?_eq_getElem (by omega)⟩
              obtain ⟨y, hy⟩ : ∃ y, ys[j]? = some y := ⟨ys[j]'(by omega), List.getElem?_eq_getElem (by omega)⟩
              obtain ⟨r1, c1, d1⟩ := reads_at h4 ca' hx
              obtain ⟨r2, c2, d2⟩ := reads_at k4 cb' hy
              obtain ⟨u1, e1, r1⟩ := r1
              obtain ⟨u2, e2, r2⟩ := r2
              have w1 : vs[j] = u1 := by
                rw [Array.getElem?_toList, Array.getElem?_eq_getElem j1] at e1
                exact Option.some.inj e1
              have w2 : vs'[j] = u2 := by
                rw [Array.getElem?_toList, Array.getElem?_eq_getElem j2] at e2
                exact Option.some.inj e2
              rw [w1, w2]
              obtain ⟨bs1, r1⟩ := r1
              obtain ⟨bs2, r2⟩ := r2
              obtain ⟨kk, hkk⟩ := ltDs_at xs ys k e j x y hx hy hI hj
              have : ltAt xs ys j = kk := by simp only [ltAt, hx, hy, hkk, Option.getD_some]
              rw [this]
              exact rc_lt _ x y A.in1 s u1 u2 bs1 bs2 kk (Nat.le_refl _) r1 r2 c1 c2 (by omega) hkk
            · rw [← n1, ← n2] at hk
              rw [hk]
              exact wpAny_truthy_bool hq
      | _ => cases e
    | _ => cases e
end
section
variable {prog : Program} {w : World} {A : Around} {s : Shared}
open PySem.W
theorem katLex_plain {b fin : Bool} {Q : Bool → Shared → Prop} : ∀ (xs ys : List D) (i : Nat) (vs ws : List Value) (as bs : List Addr) (k : Bool), ReadsAll s.heap vs xs as → ReadsAll s.heap ws ys bs → plains xs = true → plains ys = true → PyData.canLayAll0 xs = true → PyData.canLayAll0 ys = true →
    A.units + min (PyData.depthAll xs) (PyData.depthAll ys) < cLine → (b = true → i = 0 → ∀ x r t, xs = x :: r → x ≠ .tuple t) → fin = decide (xs.length < ys.length) → ltDs xs ys = some k → Q k s → KatLex prog w A b fin Q (vs.zip ws) i s
  | [], [], i, _, _, _, _, k, ra, rb, _, _, _, _, _, _, hf, e, hq => by
    cases ra
    cases rb
    cases e
    rw [hf]
    exact kat_nil hq
  | [], y :: ys, i, _, _, _, _, k, ra, rb, _, _, _, _, _, _, hf, e, hq => by
    cases ra
    cases e
    rw [List.zip_nil_left]
    refine kat_nil ?_
    rw [hf, show decide (([] : List D).length < (y :: ys).length) = true from decide_eq_true (Nat.succ_pos _)]
    exact hq
  | x :: xs, [], i, _, _, _, _, k, ra, rb, _, _, _, _, _, _, hf, e, hq => by
    cases rb
    cases e
    rw [List.zip_nil_right]
    refine kat_nil ?_
    rw [hf, show decide ((x :: xs).length < ([] : List D).length) = false from decide_eq_false (Nat.not_lt_zero _)]
    exact hq
  | x :: xs, y :: ys, i, _, _, _, _, k, .cons r1 r2, .cons q1 q2, px, py, lx, ly, hu, hb, hf, e, hq => by
    have px := plains_cons px
    have py := plains_cons py
    have lx : x.canLay0 = true ∧ PyData.canLayAll0 xs = true := by simpa [PyData.canLayAll0] using lx
    have ly : y.canLay0 = true ∧ PyData.canLayAll0 ys = true := by simpa [PyData.canLayAll0] using ly
    simp only [PyData.depthAll] at hu
    rw [List.zip_cons_cons]
    have E := SeqAt.eqAt_reads x y A s _ _ _ _ r1 q1 lx.1 ly.1 (by omega)
    refine kat_cons (E prog w _ _ ?_)
    unfold ltDs at e
    cases q : PyData.eqv x y with
    | true =>
      rw [q, if_pos rfl] at e
      exact kat_yes (katLex_plain xs ys (i + 1) _ _ _ _ k r2 q2 px.2 py.2 lx.2 ly.2 (by omega) (fun _ h => absurd h (by omega)) (by rw [hf]; simp) e hq)
    | false =>
      rw [q, if_neg (by decide)] at e
      refine kat_no ?_
      refine oneLt_plain (fun hb' t => ?_) r1 q1 lx.1 ly.1 (by omega) e hq
      rw [Bool.and_eq_true, beq_iff_eq] at hb'
      exact hb hb'.1 hb'.2 x xs t rfl
/-- what the keys of a heap read as -/
abbrev KeysR (h : Heap) (vs : List Value) (ks : List D) : Prop := EachIs (fun v d => ∃ as, Reads h v d as) vs ks
theorem each_left {α β : Type} {R : α → β → Prop} : ∀ {as : List α} {bs : List β}, EachIs R as bs → ∀ a ∈ as, ∃ b, b ∈ bs ∧ R a b
  | _, _, .cons h t, a, m => by
    rcases List.mem_cons.mp m with rfl | m
    · exact ⟨_, List.mem_cons_self, h⟩
    · obtain ⟨b, m, r⟩ := each_left t a m
      exact ⟨b, List.mem_cons_of_mem _ m, r⟩
theorem ltD_kind {a b : D} (pa : plain a = true) (pb : plain b = true) (h : a = b ∨ (ltD a b).isSome = true) : dataType a = dataType b := by
  rcases h with rfl | h
  · rfl
  · cases a <;> cases b <;> first | rfl | (exact nomatch h) | cases pa | cases pb
/-- keys that stand at this heap compare as the order says -/
theorem cmp_keys {h0 : Heap} {vs : List Value} {ks : List D} (K : SrtOk ks) (e : KeysR s.heap vs ks) (e0 : ∀ v ∈ vs, ∃ d ∈ ks, (∃ as, Reads s.heap v d as ∧ d.canLay0 = true) ∧ dec h0 ks v = d)
    (hu : A.units + 64 < cLine) (h2 : 2 ≤ vs.length) : ∃ κ,
    (∀ (Q : SortKind → Shared → Prop) (E : Value → Shared → Prop), Q κ s → wpAny (model prog w) A (keyKind' vs.toArray) Q E s) ∧
    ∀ v ∈ vs, ∀ u ∈ vs, ∀ (Q : Bool → Shared → Prop) (E : Value → Shared → Prop), Q (ltv h0 ks v u) s → wpAny (model prog w) A (keyLt' κ v u) Q E s := by
  rcases K.kd with hk | hk | hk | hk
  · refine ⟨oneType', fun Q E hq => kas_kind (T := .type "int") h2 (fun v hv => ?_) (by decide) (by decide) hq, fun v hv u hu' Q E hq => ?_⟩
    · obtain ⟨d, hd, as, r⟩ := each_left e v hv
      have := hk d hd
      cases r with
      | int i t => exact Looks.now
      | _ => cases this
    · obtain ⟨d, hd, ⟨as, r, _⟩, ed⟩ := e0 v hv
      obtain ⟨d', hd', ⟨as', r', _⟩, ed'⟩ := e0 u hu'
      unfold ltv at hq
      rw [ed, ed', (K.lt hd hd').2] at hq
      have k1 := hk d hd
      have k2 := hk d' hd'
      cases r with
      | int i t =>
        cases r' with
        | int j t' => exact oneLt_int hq
        | _ => cases k2
      | _ => cases k1
  · refine ⟨oneType', fun Q E hq => kas_kind (T := .type "str") h2 (fun v hv => ?_) (by decide) (by decide) hq, fun v hv u hu' Q E hq => ?_⟩
    · obtain ⟨d, hd, as, r⟩ := each_left e v hv
      have := hk d hd
      cases r with
      | str i t => exact Looks.now
      | _ => cases this
    · obtain ⟨d, hd, ⟨as, r, _⟩, ed⟩ := e0 v hv
      obtain ⟨d', hd', ⟨as', r', _⟩, ed'⟩ := e0 u hu'
      unfold ltv at hq
      rw [ed, ed', (K.lt hd hd').2] at hq
      have k1 := hk d hd
      have k2 := hk d' hd'
      cases r with
      | str i t =>
        cases r' with
        | str j t' => exact oneLt_str hq
        | _ => cases k2
      | _ => cases k1
  · obtain ⟨fs, t1, t2, t3⟩ := each_katTups e hk
    have hne : 0 < fs.length := by omega
    obtain ⟨f0, hf0⟩ : ∃ f0, f0 ∈ fs := ⟨fs[0]'hne, List.getElem_mem _⟩
    obtain ⟨x0, r0, as0, m0, _⟩ := t3 f0 hf0
    have hkind : ∀ x r, PyData.tuple (x :: r) ∈ ks → dataType x = dataType x0 := fun x r m => by
      have px := plains_cons (x := x) (r := r) (K.pl _ m)
      have p0 := plains_cons (x := x0) (r := r0) (K.pl _ m0)
      refine ltD_kind px.1 p0.1 ?_
      have q : (ltDs (x :: r) (x0 :: r0)).isSome = true := K.cm _ m _ m0
      unfold ltDs at q
      cases z : PyData.eqv x x0 with
      | true => exact .inl (eqv_plain px.1 p0.1 z)
      | false => rw [z, if_neg (by decide)] at q; exact .inr q
    refine ⟨tuples' (dataType x0 != Value.type "tuple"), fun Q E hq => kat_kind (T := dataType x0) t1 hne (fun f hf => ?_) (beq_self_eq_true _) hq, fun v hv u hu' Q E hq => ?_⟩
    · obtain ⟨x, r, as, m1, m2⟩ := t3 f hf
      rw [← hkind x r m1]
      exact looks_reads m2
    · obtain ⟨d, hd, ⟨as, r, ld⟩, ed⟩ := e0 v hv
      obtain ⟨d', hd', ⟨as', r', ld'⟩, ed'⟩ := e0 u hu'
      unfold ltv at hq
      rw [ed, ed', (K.lt hd hd').2] at hq
      have hl := (K.lt hd hd').1
      have hdp := K.dp d hd
      obtain ⟨x1, r1, rfl⟩ := hk d hd
      obtain ⟨x2, r2, rfl⟩ := hk d' hd'
      simp only [PyData.depth] at hdp
      cases r with
      | @tuple l o xs n _ _ h1 h2 h3 h4 =>
        cases r' with
        | @tuple l' o' xs' n' _ _ k1 k2 k3 k4 =>
          have n1 : xs.size = (x1 :: r1).length := by simpa using SeqAt.ReadsAll.length _ _ _ h4
          have n2 : xs'.size = (x2 :: r2).length := by simpa using SeqAt.ReadsAll.length _ _ _ k4
          refine kat_lt h1 h3 k1 k3 (katLex_plain (x1 :: r1) (x2 :: r2) 0 _ _ _ _ _ h4 k4 (K.pl _ hd) (K.pl _ hd') (by simpa [PyData.canLay0] using ld) (by simpa [PyData.canLay0] using ld') (by omega) (fun hb _ x r t ex => ?_) (by rw [n1, n2]) hl hq)
          obtain ⟨rfl, rfl⟩ := List.cons.inj ex
          rw [← hkind _ _ hd] at hb
          exact dataType_tuple hb t
  · refine ⟨oneType', fun Q E hq => kas_kind (T := .type "list") h2 (fun v hv => ?_) (by decide) (by decide) hq, fun v hv u hu' Q E hq => ?_⟩
    · obtain ⟨d, hd, as, r⟩ := each_left e v hv
      have := hk d hd
      have q := looks_reads (M := model prog w) r
      cases r with
      | list => exact q
      | _ => cases this
    · obtain ⟨d, hd, ⟨as, r, ld⟩, ed⟩ := e0 v hv
      obtain ⟨d', hd', ⟨as', r', ld'⟩, ed'⟩ := e0 u hu'
      unfold ltv at hq
      rw [ed, ed', (K.lt hd hd').2] at hq
      have hdp := K.dp d hd
      have k1 := hk d hd
      rw [keyLt'_oneType]
      exact oneLt_plain (fun _ t z => by rw [z] at k1; cases k1) r r' ld ld' (by omega) (K.lt hd hd').1 hq
end
end Mp
set_option maxHeartbeats 1000000
/-! Srt2: sorted(x), x a list or a tuple of data. -/
namespace Mp
open PySem PySem.Spec PyProof.Rows L2 SrtO
open PySem.W (EachIs)
section
variable {prog : Program} {w : World} {A : Around} {E : Value → Shared → Prop} {s : Shared}
theorem collect_tup {l : Addr} {vs : List Value} {Q : List Value → Shared → Prop} (hl : s.heap.IsTuple l vs.toArray)
    (h : Q vs { s with heap := (s.heap.push (seqObj "list" #[] 0)).update s.heap.objs.size (Obj.mapSeq (· ++ vs.toArray)) }) (hsz : vs.length ≤ sizeLine) :
    wpAny (model prog w) A (collect (.ref l)) Q E s := by
  obtain ⟨o, ho, hc, n, hd⟩ := id hl
  unfold collect
  refine wpAny_bind (wpAny_runValue (codeAny_builtin entry_proto_collect' ?_))
  show wpAny _ _ (do again (.builtin "list.__iadd__" ⟨[← newList [], .ref l], []⟩)) _ _ s
  refine wpAny_bind (wpAny_newList (wpAny_pure ⟨Code.quiet_builtin _ (by decide +kernel), codeAny_builtin entry_list_iadd' ?_⟩))
  show wpAny _ _ (Builtin.List.listExtendWith (.ref s.heap.objs.size) (.ref l) (.ref s.heap.objs.size)) _ _ { s with heap := s.heap.push (seqObj "list" #[] 0) }
  unfold Builtin.List.listExtendWith
  have ho' : (s.heap.push (seqObj "list" #[] 0)).get? l = some o := Heap.get?_push_of_some _ ho
  refine wpAny_bind (wpAny_typeOf (T := "tuple") ⟨o, ho', hc⟩ ?_)
  have ht : (Value.type "tuple" == Value.type "tuple") = true := by rfl
  rw [if_pos (by rw [ht]; simp)]
  refine wpAny_bind (listItems_at ho' hd ?_)
  refine wpAny_bind (listItems_at (xs := #[]) (n := 0) (Heap.get?_push_size _ rfl) rfl ?_)
  rw [if_neg (by simp)]
  refine wpAny_bind (listUpdate_at (xs := #[]) (n := 0) (Heap.get?_push_size _ rfl) rfl ?_ (Nat.zero_le _) (by show (#[] ++ vs.toArray).size ≤ sizeLine + 1; simp only [Array.size_append, List.size_toArray, List.length_nil]; omega))
  refine wpAny_pure ?_
  show wpAny (model prog w) A (do
      let o ← load s.heap.objs.size
      match o.data with
      | .seq xs _ => pure xs.toList
      | _ => unsupported "internal:collect") Q E { s with heap := (s.heap.push (seqObj "list" #[] 0)).update s.heap.objs.size (Obj.mapSeq (· ++ vs.toArray)) }
  refine wpAny_bind (wpAny_load (get?_update_seq (Heap.get?_push_size _ rfl) _) ?_)
  show wpAny _ _ (pure ((#[] : Array Value) ++ vs.toArray).toList) Q E _
  rw [show ((#[] : Array Value) ++ vs.toArray).toList = vs by simp]
  exact wpAny_pure h
theorem sorted_ordC {v : Value} {vs : List Value} {ltv : Value → Value → Bool} {Q : Value → Shared → Prop} (O : Swo ltv)
    (hc : ∀ (A : Around) (Q : List Value → Shared → Prop), Q vs { s with heap := (s.heap.push (seqObj "list" #[] 0)).update s.heap.objs.size (Obj.mapSeq (· ++ vs.toArray)) } → wpAny (model prog w) A (collect v) Q E s) (hz : vs.length ≤ sizeLine)
    (hS : 2 ≤ vs.length → ∀ (h₁ : Heap) (a : Addr), h₁.get? a = some (seqObj "list" vs.toArray 0) → (∀ b o, s.heap.get? b = some o → b ≠ a ∧ h₁.get? b = some o) → SortableO prog w A.in1.in1 { s with heap := h₁ } a vs ltv)
    (h : ∀ out : List Value, Srtd ltv out → Stb ltv out vs → Q (.ref (s.heap.objs.size + 1)) { s with heap := sortedAll s.heap vs out.toArray }) :
    wpAny (model prog w) A (PySem.call (.builtin "sorted") [v]) Q E s := by
  refine Calls.call_function_entry kind_sorted plain_sorted entry_sorted (args_sorted1 _) ?_
  unfold Builtin.«sorted»
  refine wpAny_bind (m := checkCount "sorted" 1 1 _) (wpAny_pure ?_)
  refine wpAny_bind (hc _ _ ?_)
  refine wpAny_bind (wpAny_newList ?_ hz)
  have hsz : ((s.heap.push (seqObj "list" #[] 0)).update s.heap.objs.size (Obj.mapSeq (· ++ vs.toArray))).objs.size = s.heap.objs.size + 1 := by
    rw [Heap.size_update, size_push']
  have hoL : (((s.heap.push (seqObj "list" #[] 0)).update s.heap.objs.size (Obj.mapSeq (· ++ vs.toArray))).push (seqObj "list" vs.toArray 0)).get? (s.heap.objs.size + 1) = some (seqObj "list" vs.toArray 0) := by
    rw [← hsz]; exact Heap.get?_push_size _ rfl
  have keep : ∀ b o, s.heap.get? b = some o → b ≠ s.heap.objs.size + 1 ∧ (((s.heap.push (seqObj "list" #[] 0)).update s.heap.objs.size (Obj.mapSeq (· ++ vs.toArray))).push (seqObj "list" vs.toArray 0)).get? b = some o := fun b o q => by
    have hlt : b < s.heap.objs.size := Heap.lt_size q
    refine ⟨Nat.ne_of_lt (Nat.lt_succ_of_lt hlt), Heap.get?_push_of_some _ ?_⟩
    rw [Heap.get?_update_ne _ _ _ _ (Nat.ne_of_lt hlt)]
    exact Heap.get?_push_of_some _ q
  show wpAny _ _ _ _ _ { s with heap := ((s.heap.push (seqObj "list" #[] 0)).update s.heap.objs.size (Obj.mapSeq (· ++ vs.toArray))).push (seqObj "list" vs.toArray 0) }
  rw [hsz]
  refine wpAny_bind (wpAny_holding (wpAny_call_entry slot_list_sort ⟨_, hoL, rfl⟩ entry_list_sort (list_sort_ord O hoL hz (fun h2 => hS h2 _ _ hoL keep) fun out hs hb => ⟨_, rfl, ?_⟩) (args_list_sort _)))
  exact wpAny_pure ⟨_, rfl, h out hs hb⟩
end
section
theorem ins_map {α β : Type} {lt : β → β → Bool} (f : α → β) (x : α) : ∀ l : List α, (ins (fun p q => lt (f p) (f q)) x l).map f = ins lt (f x) (l.map f)
  | [] => rfl
  | y :: r => by
    unfold ins
    rw [List.map_cons]
    show List.map f (if lt (f y) (f x) then _ else _) = if lt (f y) (f x) then _ else _
    split
    · rw [List.map_cons, ins_map f x r]
    · rfl
theorem isort_map {α β : Type} {lt : β → β → Bool} (f : α → β) : ∀ l : List α, (isort (fun p q => lt (f p) (f q)) l).map f = isort lt (l.map f)
  | [] => rfl
  | x :: r => by
    show List.map f (ins _ x (isort _ r)) = ins lt (f x) (isort lt (r.map f))
    rw [← isort_map f r]
    exact ins_map f x _
theorem isort_short {α : Type} {lt : α → α → Bool} : ∀ {l : List α}, l.length < 2 → isort lt l = l
  | [], _ => rfl
  | [_], _ => rfl
  | _ :: _ :: l, h => absurd h (by simp)
theorem perm_short {α : Type} {l m : List α} (p : l.Perm m) (h : m.length < 2) : l = m := by
  match m, h with
  | [], _ => exact List.perm_nil.mp p
  | [x], _ => exact List.perm_singleton.mp p
  | _ :: _ :: _, h => exact absurd h (by simp)
variable {X : Cx} {fa : Lay}
/-- a value, what it stands for, its datum -/
abbrev R3 (c : Cf) (Z : Ad) (H : Hp) (h : Heap) (u : Value) (p : V × D) : Prop := RelV p.1 u ∧ RD c Z H p.2 p.1 ∧ ∃ as, Reads h u p.2 as ∧ p.2.canLay0 = true
theorem each3 {pins : List (Addr × Obj)} {σ : L2.St} {Z : Ad} {H : Hp} {s : Shared} (I : Inv X pins σ H s) : ∀ {its : List Value} {vs : List V} {ds : List D}, Vals vs its → RDs (cf X fa) Z H ds vs → EachIs (R3 (cf X fa) Z H s.heap) its (vs.zip ds)
  | [], _, _, .nil, .nil => .nil
  | u :: us, v :: vs, d :: ds, .cons h1 t1, .cons h2 t2 => by
    obtain ⟨as, r⟩ := Dp.reads I d v u h2.dp.1 h1
    exact .cons ⟨h1, h2, as, r, h2.dp.2⟩ (each3 I t1 t2)
theorem each3_out {Z : Ad} {H : Hp} {h : Heap} {c : Cf} : ∀ {its : List Value} {ps : List (V × D)}, EachIs (R3 c Z H h) its ps → Vals (ps.map (·.1)) its ∧ RDs c Z H (ps.map (·.2)) (ps.map (·.1))
  | _, _, .nil => ⟨.nil, .nil⟩
  | _, _, .cons h t => ⟨.cons h.1 (each3_out t).1, .cons h.2.1 (each3_out t).2⟩
theorem zip_snd {α β : Type} : ∀ {a : List α} {b : List β}, a.length = b.length → (a.zip b).map (·.2) = b ∧ (a.zip b).map (·.1) = a
  | [], [], _ => ⟨rfl, rfl⟩
  | x :: a, y :: b, h => by
    have := zip_snd (a := a) (b := b) (by simpa using h)
    simp only [List.zip_cons_cons, List.map_cons, this.1, this.2, and_self]
  | [], _ :: _, h => by simp at h
  | _ :: _, [], h => by simp at h
/-- what the sorted values stand for -/
theorem sort_rel {pins : List (Addr × Obj)} {σ : L2.St} {Z : Ad} {H : Hp} {s : Shared} (I : Inv X pins σ H s) {its out : List Value} {vs : List V} {ds : List D} (rv : Vals vs its) (rd : RDs (cf X fa) Z H ds vs) (K : ds.length < 2 ∨ SrtOk ds)
    (h1 : Srtd (ltv s.heap ds) out) (h2 : Stb (ltv s.heap ds) out its) : ∃ vs', Vals vs' out ∧ RDs (cf X fa) Z H (isort ltB ds) vs' := by
  have hl := rd.length
  have hl' := rv.length
  rcases K with K | K
  · have : its.length < 2 := by omega
    rw [perm_short h2.perm this, isort_short K]
    exact ⟨vs, rv, rd⟩
  · rw [isort_of (swo_ltv _ _) h1 h2]
    have e := isort_rel (lt := ltv s.heap ds) (mt := fun p q : V × D => ltB p.2 q.2) (each3 I rv rd) fun x y x' y' r r' m m' => ?_
    · obtain ⟨a, b⟩ := each3_out e
      refine ⟨_, a, ?_⟩
      rw [isort_map (lt := ltB) (fun p : V × D => p.2) (vs.zip ds), (zip_snd hl.symm).1] at b
      exact b
    · have hm : y.2 ∈ ds := (List.of_mem_zip m).2
      have hm' : y'.2 ∈ ds := (List.of_mem_zip m').2
      obtain ⟨as, q, _⟩ := r.2.2
      obtain ⟨as', q', _⟩ := r'.2.2
      unfold ltv
      rw [dec_eq hm q, dec_eq hm' q', (K.lt hm hm').2]
theorem each3_keys {c : Cf} {Z : Ad} {H : Hp} {h h' : Heap} (k : ∀ b o, h.get? b = some o → h'.get? b = some o) : ∀ {its : List Value} {ps : List (V × D)}, EachIs (R3 c Z H h) its ps → KeysR h' its (ps.map (·.2))
  | _, _, .nil => .nil
  | _, _, .cons ⟨_, _, as, r, _⟩ t => .cons ⟨as, Reads.keeps k r⟩ (each3_keys k t)
theorem sort_able {pins : List (Addr × Obj)} {σ : L2.St} {Z : Ad} {H : Hp} {s : Shared} (I : Inv X pins σ H s) {its : List Value} {vs : List V} {ds : List D} (rv : Vals vs its) (rd : RDs (cf X fa) Z H ds vs) (K : ds.length < 2 ∨ SrtOk ds) (hu : X.A.units + 70 < cLine)
    (h2 : 2 ≤ its.length) (h₁ : Heap) (a : Addr) (keep : ∀ b o, s.heap.get? b = some o → b ≠ a ∧ h₁.get? b = some o) : SortableO X.prog X.w X.A.in1.in1 { s with heap := h₁ } a its (ltv s.heap ds) := by
  have hl := rd.length
  have hl' := rv.length
  have K : SrtOk ds := K.resolve_left (by omega)
  intro h' keep'
  have k : ∀ b o, s.heap.get? b = some o → h'.get? b = some o := fun b o e => keep' b o (keep b o e).1 (keep b o e).2
  have e3 := each3 I rv rd
  have ek := each3_keys k e3
  rw [(zip_snd hl.symm).1] at ek
  have kk : ∀ v ∈ its, ∃ d ∈ ds, (∃ as, Reads h' v d as ∧ d.canLay0 = true) ∧ dec s.heap ds v = d := fun v hv => by
    obtain ⟨p, hp, r⟩ := each_left e3 v hv
    obtain ⟨as, q, l⟩ := r.2.2
    have hm : p.2 ∈ ds := (List.of_mem_zip hp).2
    exact ⟨p.2, hm, ⟨as, Reads.keeps k q, l⟩, dec_eq hm q⟩
  obtain ⟨κ, c1, c2⟩ := cmp_keys (prog := X.prog) (w := X.w) (A := X.A.in1.in1) (s := { s with heap := h' }) (h0 := s.heap) K ek kk (by show X.A.units + 1 + 1 + 64 < _; omega) h2
  exact ⟨κ, fun Q E q => c1 Q E q, fun p q hp hq => c2 p.1 hp q.1 hq _ _ ⟨rfl, rfl⟩⟩
theorem sortedK_some {l : List (D × D)} {r : Mp.X} (e : sortedK l = some r) : (l.length < 2 ∨ SrtOk (l.map (·.1))) ∧ r = .lst ((sortKeyed l).map Mp.X.d) := by
  unfold sortedK at e
  split at e
  · cases e; exact ⟨by assumption, rfl⟩
  · cases e
theorem sortKeyed_self (ds : List D) : sortKeyed (ds.map fun a => (a, a)) = isort ltB ds := by
  unfold sortKeyed
  have : ∀ l : List (D × D), (∀ p ∈ l, p.1 = p.2) → isort (fun p q : D × D => ltB p.1 q.1) l = isort (fun p q => ltB p.2 q.2) l := by
    have hi : ∀ (x : D × D) (l : List (D × D)), x.1 = x.2 → (∀ p ∈ l, p.1 = p.2) → ins (fun p q : D × D => ltB p.1 q.1) x l = ins (fun p q => ltB p.2 q.2) x l := by
      intro x l hx
      induction l with
      | nil => intro _; rfl
      | cons y r ih =>
        intro h
        unfold ins
        rw [hx, h y List.mem_cons_self, ih fun p hp => h p (List.mem_cons_of_mem _ hp)]
    intro l
    induction l with
    | nil => intro _; rfl
    | cons x r ih =>
      intro h
      unfold isort
      rw [ih fun p hp => h p (List.mem_cons_of_mem _ hp)]
      exact hi x _ (h x List.mem_cons_self) fun p hp => h p (List.mem_cons_of_mem _ (isort_mem.mp hp))
  rw [this _ (fun p hp => by obtain ⟨a, _, rfl⟩ := List.mem_map.mp hp; rfl), isort_map (lt := ltB) (fun p : D × D => p.2)]
  congr 1
  rw [List.map_map]
  exact List.map_id _
/-- a dict's side of sorted -/
def SoD (X : Cx) (fa : Lay) : Prop := CallR X (.builtin "sorted") fun xs H Q => ∃ x Z l F r, xs = [x] ∧ RX (cf X fa) Z H (.dic l) x F ∧ uop .sorted (.dic l) = some r ∧ ResOk (cf X fa) Z H r Q
theorem c_sorted (hu : X.A.units + 70 < cLine) (hD : SoD X fa) : CallR X (.builtin "sorted") (rC1 X fa .sorted) := by
  intro pins s σ H xs us Q I r h
  obtain ⟨x, rfl, Z, a, F, r', ha, e0, q⟩ := h
  have e : ((srtIn a).bind fun ds => sortedK (ds.map fun a => (a, a))) = some r' := e0
  obtain ⟨ds, e1, e2⟩ := Option.bind_eq_some_iff.mp e
  obtain ⟨K, rfl⟩ := sortedK_some e2
  rw [sortKeyed_self] at q
  have K : ds.length < 2 ∨ SrtOk ds := by
    rcases K with K | K
    · exact .inl (by simpa using K)
    · refine .inr ?_
      have : (ds.map fun a => (a, a)).map (·.1) = ds := by rw [List.map_map]; exact List.map_id _
      rw [this] at K
      exact K
  have fin : ∀ (p : Addr) (vs : List V) (its : List Value), x = .ref p → Vals vs its → RDs (cf X fa) Z H ds vs → its.length ≤ sizeLine →
      (∀ (A : Around) (Q : List Value → Shared → Prop) (E : Value → Shared → Prop), Q its { s with heap := (s.heap.push (seqObj "list" #[] 0)).update s.heap.objs.size (Obj.mapSeq (· ++ its.toArray)) } → wpAny (model X.prog X.w) A (collect (.ref p)) Q E s) →
      wpAny (model X.prog X.w) X.A (PySem.call (.builtin "sorted") us) (EP X pins σ Q) X.xe s := by
    intro p vs its hx rv rd hz hc
    subst hx
    obtain rfl := Vals.ref1 r
    refine sorted_ordC (swo_ltv s.heap ds) (fun A Q q => hc A Q _ q) hz (fun h2 h₁ b _ keep => sort_able I rv rd K hu h2 h₁ b keep) fun out h1 h2 => ?_
    obtain ⟨vs', r1, r2⟩ := sort_rel I rv rd K h1 h2
    obtain ⟨ep, he'⟩ := PyProof.Rows.sortedAll_at s.heap its out.toArray
    have hlen : vs'.length ≤ sizeLine := by
      have := h2.perm.length_eq
      have := r1.length
      omega
    exact ⟨.ref _, upd H (s.heap.objs.size + 1) (.lst vs'), I.laid (t' := s.toks) (fun _ _ => PyProof.Rows.sortedAll_old) (Nat.le_succ _) ⟨hlen, out, ep, r1, he'⟩, rfl, q.lst r2 (I.hok.fresh (Nat.le_succ _))⟩
  have lst : isl a = some ds → wpAny (model X.prog X.w) X.A (PySem.call (.builtin "sorted") us) (EP X pins σ Q) X.xe s := fun e => by
    obtain ⟨p, vs, hx, hq, hl⟩ := ha.isl e
    obtain ⟨its, rv, pl, hz⟩ := I.list hq.sq
    exact fin p vs its hx rv hl (by have := rv.length; omega) fun A Q E q => collect_list pl.isList q (by have := rv.length; omega)
  unfold srtIn at e1
  split at e1
  · cases e1
    obtain ⟨p, vs, hx, hq, hl⟩ := ha.tup
    obtain ⟨its, rv, pl, hz⟩ := I.tuple hq
    exact fin p vs its hx rv hl (by have := rv.length; omega) fun A Q E q => collect_tup pl q (by have := rv.length; omega)
  · cases e1; exact lst rfl
  · exact lst e1
  · rename_i l
    refine hD pins s σ H _ us Q I r ⟨x, Z, l, F, _, rfl, ha, e0, ?_⟩
    rw [sortKeyed_self]
    exact q
  · cases e1
end
end Mp
set_option maxHeartbeats 1000000
/-! Dct2: dicts that are read. -/
namespace Mp
open PySem PySem.Spec PyProof.Rows L2
section
variable {X : Cx} {fa : Lay} {Z : Ad} {H : Hp} {pins : List (Addr × Obj)} {σ : L2.St} {s : Shared} {a : Addr} {es : List DictEntry} {kvs : List (D × Mp.X)} {F : List Addr}
theorem dic_obj (I : Inv X pins σ H s) (h : H a = some (dicO a es)) : IsDic a es s.heap := (I.hok a _ h).1
theorem ents_is (I : Inv X pins σ H s) : ∀ {kvs : List (D × Mp.X)} {es : List DictEntry} {F : List Addr}, REs (cf X fa) Z H kvs es F → (∀ p ∈ kvs, kindK p.1 = some false) → ∀ x ∈ xsOf kvs es, (nestedKind X.prog X.w).is s.heap x.1 x.2.1
  | _, _, _, .nil, _, x, hx => nomatch hx
  | _, _, _, .cons (e := e) h1 h2 h3 h4 h5 h, hk, x, hx => by
    rw [xsOf] at hx
    rcases List.mem_cons.mp hx with rfl | hx
    · obtain ⟨b, e1, e2, e3⟩ := key_is h1 h2 (hk _ List.mem_cons_self) I
      show (nestedKind X.prog X.w).is s.heap (nk _) (refOf e.key)
      rw [e1]
      exact e3
    · exact ents_is I h (fun p hp => hk p (List.mem_cons_of_mem _ hp)) x hx
theorem dic_objH (I : Inv X pins σ H s) (h : H a = some (dicO a es)) (dk : DK kvs) (r : REs (cf X fa) Z H kvs es F) : s.heap.DictOfH (nestedKind X.prog X.w) a (xsOf kvs es) := by
  obtain ⟨_, _, o, ep, ho, hx, hd⟩ := dic_obj I h
  exact ⟨o, es.toArray, ep, ho, hx, hd, by simpa using REs.ents r dk.kd, ents_is I r dk.kd, by rw [r.keys]; exact dk.nd⟩
theorem dic_new {P : Program} {w : World} {H' : Hp} {h : Heap} (h1 : (a == sysModules) = false) (h2 : es.length ≤ sizeLine) {o : Obj} {ep : Nat} (ho : h.get? a = some o) (hx : o.ExactDict) (hd : o.data = .dict es.toArray ep) : ObjOk P w H' h a (dicO a es) :=
  ⟨⟨h1, h2, o, ep, ho, hx, hd⟩, ⟨o, ho⟩, fun g1 g2 ⟨a1, a2, o, ep, b1, b2, b3⟩ k => ⟨a1, a2, o, ep, k _ b1, b2, b3⟩⟩
/-- behind a store -/
theorem dic_put {xs' : List (NestedKey × Addr × Value)} {h' : Heap} {tk : Nat} (I : Inv X pins σ H s) (h : H a = some (dicO a es)) (dd : h'.DictOfH (nestedKind X.prog X.w) a xs') (hs : Heap.SameBut a s.heap h') (hl : xs'.length ≤ sizeLine) :
    Inv X pins σ (upd H a (dicO a (xs'.map (entryOfKey (nestedKind X.prog X.w))))) { s with heap := h', toks := tk } := by
  obtain ⟨hsys, _, _⟩ := dic_obj I h
  obtain ⟨q, es', ep, hq, hx, hd, he, _, _⟩ := dd
  exact d_write I (by rw [h]; exact True.intro) hs ⟨q, hq⟩ (dic_new hsys (by simpa using hl) hq hx (by rw [← he]; simpa using hd))
theorem dk_len (r : REs (cf X fa) Z H kvs es F) (I : Inv X pins σ H s) (h : H a = some (dicO a es)) : (xsOf kvs es).length ≤ sizeLine ∧ kvs.length ≤ sizeLine := by
  obtain ⟨_, h2, _⟩ := dic_obj I h
  rw [r.xs_len, r.length]
  exact ⟨h2, h2⟩
theorem dat_key {x : Mp.X} {d : D} (e : dat? x = some d) (hk : kindK d = some false) : x = .d d := by
  cases x with
  | d v => cases e; rfl
  | lst xs =>
    have e : (dats? xs).map PyData.list = some d := e
    obtain ⟨l, rfl, _⟩ := kindK_tup hk
    cases q : dats? xs with
    | none => rw [q] at e; cases e
    | some m => rw [q] at e; cases e
  | _ => cases e
theorem inD_of (hu : X.A.units + 70 < cLine) : InD X fa := by
  intro neg pins s σ H x y v u Q I rx ry ⟨Z, a, l, F1, F2, k, h1, h2, e, q⟩
  cases h2 with
  | @dic p es _ F2 hp dk hr =>
    cases ry
    obtain ⟨d, e1, e2⟩ := Option.bind_eq_some_iff.mp e
    unfold inDic at e2
    split at e2
    · rename_i hd
      cases e2
      have hk := okIn_kind hd
      obtain rfl := dat_key e1 hk
      cases h1 with
      | d h1 =>
        obtain ⟨b, rfl, rfl, his⟩ := key_is h1 rx hk I
        obtain ⟨hsys, hl, _⟩ := dic_obj I hp
        have dd := dic_objH I hp dk hr
        have look : (atKey (xsOf l es) (nk d)).isSome = (lookD d l).isSome := by
          rcases hr.find hk dk.kd with ⟨a1, a2⟩ | ⟨x, b, u, v, F', a1, a2, _⟩ <;> rw [a1, a2] <;> rfl
        have ru : (nestedKind X.prog X.w).room X.A.in1 := by show X.A.units + 1 + 8 < _; omega
        cases neg with
        | false =>
          refine wpAny_in_heap ru his hsys dd ?_
          rw [look]
          exact ⟨.bl _, H, I.tok _, rfl, q⟩
        | true =>
          refine wpAny_notIn_heap ru his hsys dd ?_
          rw [look]
          exact ⟨.bl _, H, I.tok _, rfl, q⟩
    · cases e2
theorem ixD_of (hu : X.A.units + 70 < cLine) : IxD X fa := by
  intro va sl pins s σ H x y v u Q I rx ry ⟨Z, l, k, F1, F2, r, h1, h2, e, e2, q⟩ hs
  cases h1 with
  | @dic p es _ F1 hp dk hr =>
    cases rx
    have hk := okIn_kind e
    cases h2 with
    | d h2 =>
      obtain ⟨b, rfl, rfl, his⟩ := key_is h2 ry hk I
      have dd := dic_objH I hp dk hr
      have ru : (nestedKind X.prog X.w).room X.A.in1 := by show X.A.units + 1 + 8 < _; omega
      rcases hr.find hk dk.kd with ⟨a1, a2⟩ | ⟨x, b, u, v, F', a1, a2, a3, a4, a5⟩
      · rw [a1] at e2; cases e2
      · rw [a1] at e2
        cases x with
        | d x =>
          cases e2
          cases a4 with
          | d a4 => exact tail_any dd.typeIs F.slot_dict_getitem.lookup (wpAny_getItem_heap ru his dd a2 ⟨v, H, I.tok _, a3, q.data a4⟩) hs
        | _ => cases e2
theorem unD_len : UnD X fa (.builtin "len") .len := by
  intro pins s σ H xs us Q I r hh
  obtain ⟨x, Z, l, F, r', rfl, h1, e, q⟩ := hh
  cases h1 with
  | @dic p es _ F1 hp dk hr =>
    obtain ⟨u, rfl, rx⟩ := vals1 r
    cases rx
    cases e
    obtain ⟨hsys, hl, _⟩ := dic_obj I hp
    have hn := line63
    have := hr.xs_len
    refine call_len_dictH hsys (dic_objH I hp dk hr) (by have := dk_len hr I hp; omega) ?_
    rw [hr.xs_len]
    exact ⟨.int _, H, I.tok _, ⟨_, rfl⟩, res_int q⟩
/-- o.get(k, e) -/
def tyDic : V → Hp → Prop := fun x H => ∃ a es, x = .ref a ∧ H a = some (dicO a es)
theorem ty_dic : TyOk X "dict" tyDic := by
  intro pins σ H s x v I r hh
  obtain ⟨a, es, rfl, h⟩ := hh
  cases r
  obtain ⟨_, _, o, ep, ho, hx, hd⟩ := dic_obj I h
  exact ⟨⟨o, ho, hx.1⟩, fun b e => by cases e; exact ⟨o, ho, hx.2.1⟩⟩
def rGet (X : Cx) (fa : Lay) : V → List V → Hp → VK → Prop := fun x xs H Q => ∃ y z Z l k F, xs = [y, z] ∧ RX (cf X fa) Z H (.dic l) x F ∧ RD (cf X fa) Z H k y ∧ okIn k l = true ∧
  (lookD k l = none → Q z H) ∧ (∀ w v F', lookD k l = some w → RX (cf X fa) Z H w v F' → (∀ a ∈ F', a ∈ F) → Q v H)
theorem mt_get (hu : X.A.units + 70 < cLine) : MtR X "dict.get" (rGet X fa) := by
  intro pins s σ H x xs v us Q I rx r hh
  obtain ⟨y, z, Z, l, k, F, rfl, h1, h2, e, q1, q2⟩ := hh
  cases h1 with
  | @dic p es _ F1 hp dk hr =>
    cases rx
    have hk := okIn_kind e
    cases r with
    | cons ry r =>
      cases r with
      | cons rz r =>
        cases r
        obtain ⟨b, rfl, rfl, his⟩ := key_is h2 ry hk I
        obtain ⟨hsys, hl, _⟩ := dic_obj I hp
        have dd := dic_objH I hp dk hr
        have ru : (nestedKind X.prog X.w).room X.A.in1 := by show X.A.units + 1 + 8 < _; omega
        refine call_meetsIn F.slot_dict_get dd.typeIs F.entry_dict_get (F.args_dict_get_3 _ _ _) (meetsH_dict_get_default (nestedKind X.prog X.w) p b hsys _) ⟨ru, nk k, _, his, dd, ?_⟩
        rcases hr.find hk dk.kd with ⟨a1, a2⟩ | ⟨x, b, u, v, F', a1, a2, a3, a4, a5⟩
        · rw [a2]
          exact ⟨_, H, I.tok _, rz, q1 a1⟩
        · rw [a2]
          exact ⟨v, H, I.tok _, a3, q2 x v F' a1 a4 fun a ha => List.mem_cons_of_mem _ (a5 a ha)⟩
/-- o.setdefault(k, e) -/
def rSetd (X : Cx) (fa : Lay) : V → List V → Hp → VK → Prop := fun x xs H Q => ∃ a y z Z l es k F, x = .ref a ∧ xs = [y, z] ∧ H a = some (dicO a es) ∧ DK l ∧ REs (cf X fa) Z H l es F ∧ RD (cf X fa) Z H k y ∧ okIn k l = true ∧ l.length < lim ∧
  ((∃ b u v, atKey (xsOf l es) (nk k) = some (b, u) ∧ RelV v u ∧ Q v H) ∨
  (lookD k l = none ∧ ∀ u b, RelV z u → y = .ref b → Q z (upd H a (dicO a (es ++ [⟨(nk k).hash X.w, .ref b, u⟩])))))
theorem putX_len {K : Type} [DecidableEq K] {k : K} {a : Addr} {v : Value} : ∀ {xs : List (K × Addr × Value)}, (putX k a v xs).length ≤ xs.length + 1
  | [] => Nat.le_refl _
  | x :: r => by
    unfold putX
    split
    · simp
    · have := putX_len (k := k) (a := a) (v := v) (xs := r)
      simp only [List.length_cons]
      omega
theorem putX_new {K : Type} [DecidableEq K] {k : K} {a : Addr} {v : Value} : ∀ {xs : List (K × Addr × Value)}, atKey xs k = none → putX k a v xs = xs ++ [(k, a, v)]
  | [], _ => rfl
  | x :: r, h => by
    rw [atKey_cons] at h
    unfold putX
    split at h
    · cases h
    · rename_i e
      rw [if_neg e, putX_new h]
      rfl
theorem mt_setd (hu : X.A.units + 70 < cLine) : MtR X "dict.setdefault" (rSetd X fa) := by
  intro pins s σ H x xs v us Q I rx r hh
  obtain ⟨a, y, z, Z, l, es, k, F, rfl, rfl, hp, dk, hr, h2, e, hlt, q⟩ := hh
  cases rx
  have hk := okIn_kind e
  cases r with
  | cons ry r =>
    cases r with
    | cons rz r =>
      cases r
      obtain ⟨b, rfl, rfl, his⟩ := key_is h2 ry hk I
      obtain ⟨hsys, hl, _⟩ := dic_obj I hp
      have dd := dic_objH I hp dk hr
      have ru : (nestedKind X.prog X.w).room X.A.in1 := by show X.A.units + 1 + 8 < _; omega
      have hxl := hr.xs_len
      have hz : (xsOf l es).length < sizeLine := by rw [hxl, ← lim_eq]; exact hlt
      refine call_setdefault_heap (hsz := Nat.le_of_lt hz) ru his hsys dd (fun p hp' => ?_) fun hn h' dd' hs => ?_
      · rcases q with ⟨b, u, v, e1, e2, q⟩ | ⟨e1, _⟩
        · rw [e1] at hp'; cases hp'
          exact ⟨v, H, I.tok _, e2, q⟩
        · rcases hr.find hk dk.kd with ⟨a1, a2⟩ | ⟨x, b, u, v, F', a1, a2, a3, a4, a5⟩
          · rw [a2] at hp'; cases hp'
          · rw [a1] at e1; cases e1
      · rcases q with ⟨b, u, v, e1, e2, q⟩ | ⟨e1, q⟩
        · rw [e1] at hn; cases hn
        · rw [stored_put (by rw [hr.keys]; exact dk.nd), putX_new hn] at dd'
          have I2 := dic_put (tk := s.toks + (nestedKind X.prog X.w).draws (nk k)) I hp dd' hs (by rw [List.length_append]; exact hz)
          rw [List.map_append, ← hr.ents dk.kd] at I2
          exact ⟨z, _, I2, rz, q _ b rz rfl⟩
end
end Mp
set_option maxHeartbeats 1000000
/-! Dct3: the rules of dicts. -/
namespace Mp
open PySem PySem.Spec PyProof.Rows L2
section
variable {c : Cf} {Z Z' : Ad} {H H' : Hp} {f f' : Fp} {s : S} {σ : L2.St} {a : Addr} {F : List Addr}
/-- what waits is given to Z, in part -/
theorem Rel.give (r : Rel c Z H s σ f) (hf : ∀ b ∈ F, ¬ inF f b) (ho : ∀ b ∈ F, H b ≠ none) : Rel c (fun b => Z b ∨ b ∈ F) H s σ f :=
  have kp : Kp Z H (fun b => Z b ∨ b ∈ F) H := ⟨fun _ _ e _ _ => e, fun _ z => .inl z⟩
  ⟨r.len, fun j y ej => let ⟨u, e3, e4⟩ := r.at_ j y ej; ⟨u, e3, e4.kp kp fun _ _ _ e => e⟩, r.nd, r.dj, fun j b hb z => z.elim (r.nz j b hb) fun z => hf b z ⟨j, hb⟩, r.ow, fun b z => z.elim (r.zo b) (ho b), r.tb⟩
theorem Tmp.dic {l : List (D × X)} {v : V} (t : Tmp c Z H f (.dic l) v F) : ∃ b es F1, v = .ref b ∧ F = b :: F1 ∧ H b = some (dicO b es) ∧ DK l ∧ REs c Z H l es F1 := by
  cases t.rx with
  | dic h1 h2 h3 => exact ⟨_, _, _, rfl, rfl, h1, h2, h3⟩
theorem isDic_some {x : X} (h : isDicX x = true) : ∃ l, x = .dic l := by
  cases x with
  | dic l => exact ⟨l, rfl⟩
  | _ => cases h
end
def tDNew : TE := fun _ H Q => ∀ p, H p = none → Q (.ref p) (upd H p (dicO p []))
theorem pe_dnew {X : Cx} {pos : Pos} : PE X (.Dict [] [] pos) tDNew := ⟨fun pins s σ H Q I h =>
  wpAny_Dict_empty ⟨.ref s.heap.objs.size, _, I.laid (a := s.heap.objs.size) (o := dicO s.heap.objs.size []) (t' := s.toks) (fun _ _ q => Heap.get?_push_of_some _ q) (Nat.le_refl _)
    (dic_new (ep := 0) (beq_eq_false_iff_ne.mpr (Ne.symm (Nat.ne_of_lt I.big))) (Nat.zero_le _) (Heap.get?_push_size _ rfl) ⟨rfl, rfl, rfl⟩ rfl), rfl, h _ (I.hok.fresh (Nat.le_refl _))⟩⟩
section
variable {T : At} {e k : E} {a ka ea tg : Expr} {pos p apos cpos : Pos} {i : Nat} {x : Str}
theorem se_dict0 : SE T .dict0 (.Dict [] [] pos) := PE.imp pe_dnew fun σ H Q ⟨Z, s, f, r, q⟩ p hp =>
  q (.ref p) Z _ f (r.laid hp) (Fr.laid hp) ⟨[p], ⟨.dic upd_same DK.nil .nil, by simp, fun b hb z => r.zo b z (by rw [List.mem_singleton.mp hb]; exact hp), fun b hb ⟨j, hj⟩ => by
    rw [List.mem_singleton.mp hb] at hj
    obtain ⟨o, e, _⟩ := r.ow j p hj
    rw [hp] at e; cases e⟩, fun b hb => .inr (by rw [List.mem_singleton.mp hb]; exact hp)⟩
/-- over the values of a dict that is no one else's -/
theorem si_values (h : SE T e a) (hbase : attributeBase a "values" T.X.env (eval a T.X.env) = eval a T.X.env := by rfl) (hline : (apos.endLine == cpos.line) = true := by rfl) :
    SI T tg (.u .values e) (.Call (.Attribute a "values" apos) [] [] cpos) := PI.imp (pi_dvals h hbase hline) fun σ H Q ⟨Z, s, f, r, p⟩ => by
  refine ⟨Z, s, f, r, ?_⟩
  have p : postI T.c T.W σ Z H f ((ev T.C T.G e s).bind (kU .values)) Q := p
  cases q : ev T.C T.G e s with
  | exc e' s' => rw [q] at p; exact p
  | stuck => rw [q] at p; exact p
  | ok x s' =>
    rw [q] at p
    intro v Z' H' f' r' a' ⟨F, t, fr⟩
    have p : postI T.c T.W σ Z H f (ofO (uValues x) s') Q := p
    cases x with
    | dic l =>
      cases qv : dats? (l.map (·.2)) with
      | none =>
        have e0 : uValues (.dic l) = none := by show (dats? _).map _ = _; rw [qv]; rfl
        rw [e0] at p; exact p.elim
      | some ds =>
        have e0 : uValues (.dic l) = some (.lst (ds.map Mp.X.d)) := by show (dats? _).map _ = _; rw [qv]; rfl
        rw [e0] at p
        obtain ⟨ds', hx, p⟩ := p
        have hx : dats? (ds.map Mp.X.d) = some ds' := hx
        rw [dats_d] at hx
        cases hx
        obtain ⟨b, es, F1, rfl, rfl, hp, dk, hr⟩ := t.dic
        obtain ⟨vs, hd, hv⟩ := hr.vvals qv
        refine ⟨b, es, vs, rfl, hp, hv, fun o => ?_⟩
        have zb := t.nz b List.mem_cons_self
        have nb := t.nf b List.mem_cons_self
        have ndb := (List.nodup_cons.mp t.nd).1
        have r2 := r'.give (F := F1) (fun b hb => t.nf b (List.mem_cons_of_mem _ hb)) fun b hb z => by
          obtain ⟨o, e, _⟩ := t.rx.own b (List.mem_cons_of_mem _ hb)
          rw [z] at e; cases e
        have z2 : ¬ (Z' b ∨ b ∈ F1) := fun z => z.elim zb ndb
        have hl : es.length = ds.length := by
          have h1 := hr.len
          have h2 := hd.length
          have h3 := hv.length
          simp only [List.length_map] at h3
          omega
        exact p _ _ _ f' (r2.other nb z2 ⟨_, hp, rfl⟩) ((a'.frz fun b hb => fr b (List.mem_cons_of_mem _ hb)).other (fr b List.mem_cons_self) ⟨_, hp, rfl⟩) (Yld.dic upd_same (hd.kp (Kp.lock hp z2)) hl)
    | _ => exact p.elim
/-- o.get(k, e), o no one else's -/
theorem se_getd (hu : T.X.A.units + 70 < cLine) (h : SE T e a) {d : E} (hk : SE T k ka) (hd : SE T d ea) (hp : pk? e = none := by rfl)
    (hbase : attributeBase a "get" T.X.env (eval a T.X.env) = eval a T.X.env := by rfl)
    (hfew : ((backTo cpos (starEach [ka, ea] T.X.env)).all (fun x => !x.1) && (backToKw cpos (keywordEach [] T.X.env)).all (fun x => x.1.isSome) && decide ([ka, ea].length + ([] : List Keyword).length + (if ([] : List Keyword).isEmpty then 0 else 1) < 30)) = true := by rfl)
    (hline : (apos.endLine == cpos.line) = true := by rfl) (hs : starEach [ka, ea] T.X.env = (false, eval ka T.X.env) :: starEach [ea] T.X.env := by rfl) (hs2 : starEach [ea] T.X.env = [(false, eval ea T.X.env)] := by rfl) (hpl : (backTo cpos (starEach [ea] T.X.env)).any (·.1) = false := by rfl) :
    SE T (.getd e k d) (.Call (.Attribute a "get" apos) [ka, ea] [] cpos) :=
  PE.imp (pe_mG ty_dic F.plainAttrs_dict F.slot_dict_get rfl (mt_get (fa := T.fa) hu) h (pa_cons hk (pa_cons hd pa_nil hs2) hs) hbase hfew hline hs hpl) fun σ H Q ⟨Z, s, f, r, q⟩ => by
    rw [ev_getd, hp] at q
    refine ⟨Z, s, f, r, post.bind (k := kH1 T.C T.G k d) (K' := kX T.c) (Q := Q) q fun x s1 v Z1 H1 f1 _ r1 a1 ⟨F, t, fr⟩ p1 => ?_⟩
    have p1 : post T.c T.W σ Z H f (kX T.c) (if isDicX x then (ev T.C T.G k s1).bind (kH2 T.C T.G x d) else .stuck) Q := p1
    split at p1
    · rename_i hx
      obtain ⟨l, rfl⟩ := isDic_some hx
      obtain ⟨b, es, F1, rfl, rfl, hpb, dk, hr⟩ := t.dic
      refine ⟨⟨b, es, rfl, hpb⟩, Z1, s1, f1, r1, post.bind2 (k := kH2 T.C T.G (.dic l) d) (K' := kX T.c) (Q := Q) p1 a1 fun kx s2 kv Z2 H2 f2 _ r2 a2 ⟨Fk, tk, frk⟩ p2 => ?_⟩
      have a12 := a1.trans a2
      refine ⟨Z2, s2, f2, r2, post.bind2 (k := kH3 (.dic l) kx) (K' := kX T.c) (Q := Q) p2 a12 fun ex s3 ev Z3 H3 f3 _ r3 a3 ⟨Fe, te, fre⟩ p3 => ?_⟩
      have p3 : post T.c T.W σ Z H f (kX T.c) (ofO (getOr true (.dic l) kx ex) s3) Q := p3
      have t3 := (t.fr r1 a2).fr r2 a3
      have tk3 := tk.fr r2 a3
      have a13 := a12.trans a3
      cases kx with
      | d kd =>
        have p3 : post T.c T.W σ Z H f (kX T.c) (ofO (if okIn kd l then getPut true ex (lookD kd l) else none) s3) Q := p3
        split at p3
        · rename_i hin
          cases tk3.rx with
          | d hkd =>
            refine ⟨kv, ev, Z3, l, kd, b :: F1, rfl, t3.rx, hkd, hin, fun hn => ?_, fun w v F' hw hrx hF => ?_⟩
            · rw [hn] at p3
              exact p3 ev Z3 H3 f3 r3 a13 ⟨Fe, te, From.fr a12 fre⟩
            · rw [hw] at p3
              cases w with
              | d w =>
                cases hrx with
                | d hrx => exact p3 v Z3 H3 f3 r3 a13 ⟨[], Tmp.d hrx, From.nil⟩
              | lst xs =>
                have p3 : post T.c T.W σ Z H f (kX T.c) (ofO ((dat? (.lst xs)).map Mp.X.d) s3) Q := p3
                cases qd : dat? (.lst xs) with
                | none => rw [qd] at p3; exact p3.elim
                | some dd =>
                  rw [qd] at p3
                  have r4 := r3.give (F := F') (fun b hb => t3.nf b (hF b hb)) fun b hb z => by
                    obtain ⟨o, e, _⟩ := t3.rx.own b (hF b hb)
                    rw [z] at e; cases e
                  exact p3 v _ H3 f3 r4 (a13.frz fun b hb => fr b (hF b hb)) ⟨[], Tmp.d (hrx.frz ⟨fun _ _ e _ _ => e, fun _ z => .inl z⟩ qd fun b hb => .inr hb), From.nil⟩
              | _ => exact p3.elim
        · exact p3.elim
      | _ => exact p3.elim
    · exact p1.elim
end
end Mp
set_option maxHeartbeats 1000000
/-! Dct4: d.setdefault(k, []).append(e). -/
namespace Mp
open PySem PySem.Spec PyProof.Rows L2
section
variable {c : Cf} {Z Z' : Ad} {H H' : Hp} {f f' : Fp} {s : S} {σ : L2.St} {a : Addr} {F : List Addr}
theorem putD_none {k : D} {y : X} : ∀ {l : List (D × X)}, lookD k l = none → putD k y l = l ++ [(k, y)]
  | [], _ => rfl
  | (j, x) :: r, h => by
    unfold lookD at h
    split at h
    · cases h
    · rename_i e
      unfold putD
      rw [if_neg e, putD_none h]
      rfl
theorem REs.append : ∀ {l m : List (D × X)} {es ds : List DictEntry} {F F' : List Addr}, REs c Z H l es F → REs c Z H m ds F' → REs c Z H (l ++ m) (es ++ ds) (F ++ F')
  | _, _, _, _, _, _, .nil, h => h
  | _, _, _, _, _, _, .cons h1 h2 h3 h4 h5 h6, h => by
    rw [List.append_assoc]
    exact .cons h1 h2 h3 h4 h5 (REs.append h6 h)
/-- the entry at a key: what stands there, and what may stand there in its place -/
theorem REs.at {k : D} {w : X} (hk : kindK k = some false) : ∀ {l : List (D × X)} {es : List DictEntry} {F : List Addr}, REs c Z H l es F → (∀ p ∈ l, kindK p.1 = some false) → lookD k l = some w →
    ∃ v Fa Fw Fb b u, F = Fa ++ (Fw ++ Fb) ∧ RX c Z H w v Fw ∧ atKey (xsOf l es) (nk k) = some (b, u) ∧ RelV v u ∧
      ∀ (Z' : Ad) (H' : Hp) (w' : X) (Fw' : List Addr), Kp Z H Z' H' → (∀ x ∈ Fa ++ Fb, ∀ o, H x = some o → H' x = some o) → RX c Z' H' w' v Fw' → REs c Z' H' (putD k w' l) es (Fa ++ (Fw' ++ Fb))
  | _, _, _, .nil, _, h => by cases h
  | _, _, _, .cons (k := j) (x := x) (kv := kv) (v := v) (e := e) (r := r) (es := es) (F := F1) (F' := F2) h1 h2 h3 h4 h5 h6, hj, h => by
    have kj := kind_leaf (hj _ List.mem_cons_self)
    have q := nk_eq (a := j) (b := k) kj (kind_leaf hk)
    unfold lookD at h
    rw [xsOf, atKey_cons]
    by_cases e1 : nk j = nk k
    · rw [if_pos (q.mp e1)] at h
      cases h
      rw [if_pos e1]
      refine ⟨v, [], F1, F2, _, _, rfl, h4, rfl, h5, fun Z' H' w' Fw' kp hx hw => ?_⟩
      unfold putD
      rw [if_pos (q.mp e1)]
      show REs c Z' H' ((j, w') :: r) (e :: es) (Fw' ++ F2)
      exact .cons (h1.kp kp) h2 h3 hw h5 (h6.kp kp fun b hb => hx b hb)
    · rw [if_neg (fun z => e1 (q.mpr z))] at h
      rw [if_neg e1]
      obtain ⟨v', Fa, Fw, Fb, b, u, a1, a2, a3, a4, a5⟩ := REs.at hk h6 (fun p hp => hj p (List.mem_cons_of_mem _ hp)) h
      refine ⟨v', F1 ++ Fa, Fw, Fb, b, u, by rw [a1, List.append_assoc], a2, a3, a4, fun Z' H' w' Fw' kp hx hw => ?_⟩
      unfold putD
      rw [if_neg (fun z => e1 (q.mpr z)), List.append_assoc]
      refine .cons (h1.kp kp) h2 h3 (h4.kp kp fun b hb => hx b (by simp [hb])) h5 (a5 Z' H' w' Fw' kp (fun x hx' => hx x ?_) hw)
      rcases List.mem_append.mp hx' with z | z <;> simp [z]
theorem Rel.put_same {i : Nat} {x : X} {v : V} (r : Rel c Z H s σ f) (hi : σ[i]? = some (some v)) (t : Tmp c Z H f x v F) : Rel c Z H (s.set i (some x)) σ (fset f i F) := by
  have hl : i < σ.length := (List.getElem?_eq_some_iff.mp hi).1
  have q := r.put (i := i) (by rw [r.len]; exact hl) t
  have e : σ.set i (some v) = σ := by
    apply List.ext_getElem?
    intro j
    by_cases hj : j = i
    · subst hj; rw [List.getElem?_set_self hl, hi]
    · rw [List.getElem?_set_ne (Ne.symm hj)]
  rwa [e] at q
/-- the dict that waits with the list at q in it -/
structure Sda (c : Cf) (Z : Ad) (H : Hp) (f : Fp) (kd : D) (l : List (D × X)) (r : List X) (b q : Addr) (es : List DictEntry) (vs : List V) (Fa Fr Fb : List Addr) : Prop where
  hb : H b = some (dicO b es)
  hq : H q = some (.lst vs)
  hr : RXs c Z H r vs Fr
  nd : (b :: (Fa ++ (q :: Fr ++ Fb))).Nodup
  nz : ∀ x ∈ b :: (Fa ++ (q :: Fr ++ Fb)), ¬ Z x
  nf : ∀ x ∈ b :: (Fa ++ (q :: Fr ++ Fb)), ¬ inF f x
  lv : ∀ x ∈ b :: (Fa ++ (q :: Fr ++ Fb)), ∃ o, H x = some o ∧ own o = true
  re : ∀ (Z' : Ad) (H' : Hp) (w' : X) (Fw' : List Addr), Kp Z H Z' H' → (∀ x ∈ Fa ++ Fb, ∀ o, H x = some o → H' x = some o) → RX c Z' H' w' (.ref q) Fw' → REs c Z' H' (putD kd w' l) es (Fa ++ (Fw' ++ Fb))
end
section
variable {c : Cf} {Z0 Z Z' : Ad} {H0 H H' : Hp} {f0 f f' : Fp} {s s0 : S} {σ : L2.St} {kd : D} {l : List (D × X)} {r : List X} {b q : Addr} {es : List DictEntry} {vs : List V} {Fa Fr Fb Fy : List Addr} {y : X} {v : V} {i : Nat} {W : WX} {mu : List Nat} {E : Ends}
theorem Sda.end (d : Sda c Z H f kd l r b q es vs Fa Fr Fb) (dk : DK l) (hk : kindK kd = some false) (r0 : Rel c Z H s0 σ f) (r1 : Rel c Z' H' s σ f') (a : Mp.Fr Z H f Z' H' f') (a0 : Mp.Fr Z0 H0 f0 Z H f) (t : Tmp c Z' H' f' y v Fy) (fr : From H f Fy) (fd : From H0 f0 (b :: (Fa ++ (q :: Fr ++ Fb)))) (hi : σ[i]? = some (some (.ref b)))
    (p : postS c W mu σ Z0 H0 f0 (.nx (s.set i (some (.dic (putD kd (.lst (r ++ [y])) l))))) E) : E.nx σ (upd H' q (.lst (vs ++ [v]))) := by
  have kp := a.kp r0
  have up : ∀ x ∈ b :: (Fa ++ (q :: Fr ++ Fb)), ∀ o, H x = some o → H' x = some o := fun x hx o e => a.keep x o e (own_at (d.lv x hx) e) (d.nf x hx)
  have inq : q ∈ b :: (Fa ++ (q :: Fr ++ Fb)) := by simp
  have nz' : ∀ x ∈ b :: (Fa ++ (q :: Fr ++ Fb)), ¬ Z' x := fun x hx z => by
    obtain ⟨o, e, _⟩ := d.lv x hx
    rcases a.znew x z with z | z | z
    · exact d.nz x hx z
    · exact d.nf x hx z
    · rw [z] at e; cases e
  have nf' : ∀ x ∈ b :: (Fa ++ (q :: Fr ++ Fb)), ¬ inF f' x := fun x hx z => by
    obtain ⟨o, e, _⟩ := d.lv x hx
    rcases a.fnew x z with z | z
    · exact d.nf x hx z
    · rw [z] at e; cases e
  have ny : ∀ x ∈ b :: (Fa ++ (q :: Fr ++ Fb)), x ∉ Fy := fun x hx z => by
    obtain ⟨o, e, _⟩ := d.lv x hx
    rcases fr x z with z | z
    · exact d.nf x hx z
    · rw [z] at e; cases e
  have hq' := up q inq _ d.hq
  have ow : ∃ o, H' q = some o ∧ own o = true := ⟨_, hq', rfl⟩
  obtain ⟨n0, n1⟩ := List.nodup_cons.mp d.nd
  obtain ⟨n2, n3, n4⟩ := List.nodup_append.mp n1
  obtain ⟨n5, n6, n7⟩ := List.nodup_append.mp n3
  obtain ⟨n8, n9⟩ := List.nodup_cons.mp n5
  have kp2 : Kp Z' H' Z' (upd H' q (.lst (vs ++ [v]))) := ⟨fun x o e _ h => by
    rw [upd_ne fun z => by
      subst z
      rcases h with h | h
      · rw [hq'] at e; cases e; cases h
      · exact nz' x inq h]
    exact e, fun _ z => z⟩
  have rr : RXs c Z' H' r vs Fr := d.hr.kp kp fun x hx o e => up x (by simp [hx]) o e
  have new : RX c Z' (upd H' q (.lst (vs ++ [v]))) (.lst (r ++ [y])) (.ref q) (q :: (Fr ++ (Fy ++ []))) :=
    .lst upd_same ((rr.stay n8 (nz' q inq) ow upd_oth).append ((RXs.cons t.rx .nil).stay (by simpa using ny q inq) (nz' q inq) ow upd_oth))
  have res := d.re Z' (upd H' q (.lst (vs ++ [v]))) _ _ ⟨fun x o e ht h => kp2.keep x o (kp.keep x o e ht h) ht (h.imp (fun z => z) fun z => kp.zz x z), fun x z => kp2.zz x (kp.zz x z)⟩ (fun x hx o e => by
    rw [upd_ne fun z => by
      subst z
      rcases List.mem_append.mp hx with z | z
      · exact n4 x z x List.mem_cons_self rfl
      · exact n7 x List.mem_cons_self x z rfl]
    refine up x ?_ o e
    rcases List.mem_append.mp hx with z | z <;> simp [z]) new
  have hb' : upd H' q (.lst (vs ++ [v])) b = some (dicO b es) := by
    rw [upd_ne fun z => n0 (by rw [z]; simp)]
    exact up b List.mem_cons_self _ d.hb
  have mem : ∀ x ∈ b :: (Fa ++ (q :: (Fr ++ (Fy ++ [])) ++ Fb)), x ∈ b :: (Fa ++ (q :: Fr ++ Fb)) ∨ x ∈ Fy := fun x hx => by
    simp only [List.mem_cons, List.mem_append, List.append_nil] at hx ⊢
    rcases hx with z | z | (z | z | z) | z <;> simp [z]
  have r2 := r1.other (o := .lst (vs ++ [v])) (nf' q inq) (nz' q inq) ow
  have tt : Tmp c Z' (upd H' q (.lst (vs ++ [v]))) f' (.dic (putD kd (.lst (r ++ [y])) l)) (.ref b) (b :: (Fa ++ (q :: (Fr ++ (Fy ++ [])) ++ Fb))) := by
    refine ⟨.dic hb' (dk.put hk) res, ?_, fun x hx => (mem x hx).elim (nz' x) (t.nz x), fun x hx => (mem x hx).elim (nf' x) (t.nf x)⟩
    have dj1 : ∀ x ∈ Fy, x ≠ b ∧ x ∉ Fa ∧ x ≠ q ∧ x ∉ Fr ∧ x ∉ Fb := fun x hx => ⟨fun z => ny b List.mem_cons_self (z ▸ hx), fun z => ny x (by simp [z]) hx, fun z => ny q inq (z ▸ hx), fun z => ny x (by simp [z]) hx, fun z => ny x (by simp [z]) hx⟩
    rw [List.append_nil]
    refine List.nodup_cons.mpr ⟨fun z => ?_, List.nodup_append.mpr ⟨n2, List.nodup_append.mpr ⟨List.nodup_cons.mpr ⟨fun z => ?_, List.nodup_append.mpr ⟨n9, t.nd, fun x hx w hw z => (dj1 w hw).2.2.2.1 (z ▸ hx)⟩⟩, n6, fun x hx w hw z => ?_⟩, fun x hx w hw z => ?_⟩⟩
    · simp only [List.mem_cons, List.mem_append] at z
      rcases z with z | (z | z | z) | z
      · exact n0 (by simp [z])
      · exact n0 (by simp [z])
      · exact n0 (by simp [z])
      · exact (dj1 b z).1 rfl
      · exact n0 (by simp [z])
    · exact (List.mem_append.mp z).elim n8 fun z => (dj1 q z).2.2.1 rfl
    · subst z
      rcases List.mem_cons.mp hx with z | z
      · exact n7 x (by rw [z]; exact List.mem_cons_self) x hw rfl
      · exact (List.mem_append.mp z).elim (fun z => n7 x (List.mem_cons_of_mem _ z) x hw rfl) fun z => (dj1 x z).2.2.2.2 hw
    · subst z
      simp only [List.mem_cons, List.mem_append] at hw
      rcases hw with (z | z | z) | z
      · exact n4 x hx x (by simp [z]) rfl
      · exact n4 x hx x (by simp [z]) rfl
      · exact (dj1 x z).2.1 hx
      · exact n4 x hx x (by simp [z]) rfl
  have r3 := r2.put_same hi tt
  have a2 : Mp.Fr Z0 H0 f0 Z' (upd H' q (.lst (vs ++ [v]))) f' := (a0.trans a).other (fd q inq) ow
  have fr3 : From H0 f0 (b :: (Fa ++ (q :: (Fr ++ (Fy ++ [])) ++ Fb))) := fun x hx => (mem x hx).elim (fd x) (From.fr a0 fr x)
  have a3 : Mp.Fr Z0 H0 f0 Z' (upd H' q (.lst (vs ++ [v]))) (fset f' i (b :: (Fa ++ (q :: (Fr ++ (Fy ++ [])) ++ Fb)))) := ⟨a2.keep, a2.zz, a2.znew, fun x ⟨j, hj⟩ => by
    by_cases e : j = i
    · subst e; rw [fset_same] at hj; exact fr3 x hj
    · rw [fset_ne e] at hj; exact a2.fnew x ⟨j, hj⟩, a2.live, a2.tb⟩
  exact p σ Z' _ _ r3 a3 Same.refl
end
end Mp
set_option maxHeartbeats 1000000
/-! Dct5: the rule of d.setdefault(k, []).append(e). -/
namespace Mp
open PySem PySem.Spec PyProof.Rows L2
theorem sdaAt_some {o : Option (Option X)} {kx : X} {kd : D} {l : List (D × X)} {r : List X} (h : sdaAt o kx = some (kd, l, r)) :
    o = some (some (.dic l)) ∧ kx = .d kd ∧ okIn kd l = true ∧ l.length < lim ∧ ((lookD kd l = none ∧ r = []) ∨ lookD kd l = some (.lst r)) := by
  unfold sdaAt at h
  split at h
  · rename_i l' kd'
    split at h
    · rename_i hh
      unfold sdaGet at h
      split at h
      · rename_i q; cases h; exact ⟨rfl, rfl, hh.1, hh.2, .inl ⟨q, rfl⟩⟩
      · rename_i q; cases h; exact ⟨rfl, rfl, hh.1, hh.2, .inr q⟩
      · cases h
    · cases h
  · cases h
theorem isDicAt_some {o : Option (Option X)} (h : isDicAt o = true) : ∃ l, o = some (some (.dic l)) := by
  unfold isDicAt at h
  split at h
  · rename_i l; exact ⟨l, rfl⟩
  · cases h
section
variable {T : At} {e k : E} {a ka la : Expr} {i : Nat} {x : Str} {p ap1 cp1 ap2 cp2 pos : Pos}
theorem Rel.dic {c : Cf} {Z : Ad} {H : Hp} {f : Fp} {s : S} {σ : L2.St} {l : List (D × Mp.X)} (r : Rel c Z H s σ f) (e : s[i]? = some (some (.dic l))) : ∃ b es F, σ[i]? = some (some (.ref b)) ∧ f i = b :: F ∧ H b = some (dicO b es) ∧ DK l ∧ REs c Z H l es F := by
  obtain ⟨v, e1, e2⟩ := r.at_ i _ e
  generalize hf : f i = F0 at e2
  cases e2 with
  | dic h1 h2 h3 => exact ⟨_, _, _, e1, rfl, h1, h2, h3⟩
theorem ss_setdapp (hu : T.X.A.units + 70 < cLine) (hx : PE T.X (.Name x p) (tVar i)) (hk : SE T k ka) (hl : SE T (.lst []) la) (h : SE T e a)
    (hsw : swapsWith (.Call (.Attribute (.Call (.Attribute (.Name x p) "setdefault" ap1) [ka, la] [] cp1) "append" ap2) [a] [] cp2) none pos.line T.X.env = pure false := by rfl)
    (hb1 : attributeBase (.Name x p) "setdefault" T.X.env (eval (.Name x p) T.X.env) = eval (.Name x p) T.X.env := by rfl)
    (hf1 : ((backTo cp1 (starEach [ka, la] T.X.env)).all (fun x => !x.1) && (backToKw cp1 (keywordEach [] T.X.env)).all (fun x => x.1.isSome) && decide ([ka, la].length + ([] : List Keyword).length + (if ([] : List Keyword).isEmpty then 0 else 1) < 30)) = true := by rfl)
    (hl1 : (ap1.endLine == cp1.line) = true := by rfl) (hs1 : starEach [ka, la] T.X.env = (false, eval ka T.X.env) :: starEach [la] T.X.env := by rfl) (hs2 : starEach [la] T.X.env = [(false, eval la T.X.env)] := by rfl) (hp1 : (backTo cp1 (starEach [la] T.X.env)).any (·.1) = false := by rfl)
    (hb2 : attributeBase (.Call (.Attribute (.Name x p) "setdefault" ap1) [ka, la] [] cp1) "append" T.X.env (eval (.Call (.Attribute (.Name x p) "setdefault" ap1) [ka, la] [] cp1) T.X.env) = eval (.Call (.Attribute (.Name x p) "setdefault" ap1) [ka, la] [] cp1) T.X.env := by rfl)
    (hf2 : ((backTo cp2 (starEach [a] T.X.env)).all (fun x => !x.1) && (backToKw cp2 (keywordEach [] T.X.env)).all (fun x => x.1.isSome) && decide ([a].length + ([] : List Keyword).length + (if ([] : List Keyword).isEmpty then 0 else 1) < 30)) = true := by rfl)
    (hl2 : (ap2.endLine == cp2.line) = true := by rfl) (hs3 : starEach [a] T.X.env = [(false, eval a T.X.env)] := by rfl) :
    SS T (.setdapp i k e) (.Expr (.Call (.Attribute (.Call (.Attribute (.Name x p) "setdefault" ap1) [ka, la] [] cp1) "append" ap2) [a] [] cp2) pos) :=
  PS.imp (ps_expr (pe_bm F.plainAttrs_list F.slot_list_append rfl mt_append (pe_mG ty_dic F.plainAttrs_dict F.slot_dict_setdefault rfl (mt_setd (fa := T.fa) hu) hx (pa_cons hk (pa_cons hl pa_nil hs2) hs1) hb1 hf1 hl1 hs1 hp1) (pa_cons h pa_nil hs3) hb2 hf2 hl2 hs3 (by rw [show starEach ([] : List Expr) T.X.env = [] from rfl]; rfl)) hsw) fun D σ H ⟨Z, s, f, r, q⟩ => by
    have q : postS T.c T.W T.mu σ Z H f (if isDicAt s[i]? then (ev T.C T.G k s).fl (kSda T.C T.G i e) else .stuck) D := q
    split at q
    · rename_i hd
      obtain ⟨l0, e0⟩ := isDicAt_some hd
      obtain ⟨b, es0, F0, s0, _, hp0, _, _⟩ := r.dic e0
      refine ⟨.ref b, s0, ⟨b, es0, rfl, hp0⟩, Z, s, f, r, postS.fl (k := kSda T.C T.G i e) q fun kx s1 kv Z1 H1 f1 _ r1 a1 ⟨Fk, tk, frk⟩ p1 => ?_⟩
      have pa : postS T.c T.W T.mu σ Z H f (sdaOp T.C T.G i e s1 (sdaAt s1[i]? kx)) D := p1
      clear p1
      cases qa : sdaAt s1[i]? kx with
      | none => rw [qa] at pa; exact pa.elim
      | some z =>
        obtain ⟨kd, l, rr⟩ := z
        rw [qa] at pa
        have pb : postS T.c T.W T.mu σ Z H f ((ev T.C T.G e (s1.set i none)).fl (kSda2 i kd l rr)) D := pa
        clear pa
        obtain ⟨e1, rfl, hin, hlt, hc⟩ := sdaAt_some qa
        have hkk := okIn_kind hin
        refine ⟨Z1, s1, f1, r1, ?_⟩
        show post T.c T.W σ Z1 H1 f1 (kX T.c) (.ok (.lst []) s1) _
        intro v0 Z2 H2 f2 r2 a2 ⟨Fl, t0, fr0⟩
        have tk2 := tk.fr r1 a2
        have t0x := t0.rx
        have t0n := t0.nf
        have t0z := t0.nz
        cases t0x with
        | @lst pn vs0 _ F00 hpn hx0 =>
          cases hx0
          obtain ⟨b', es, F1, s2, hf, hb, dk, hr⟩ := r2.dic e1
          rw [s0] at s2; cases s2
          have a12 := a1.trans a2
          have bin : ∀ x ∈ b :: F1, x ∈ f2 i := fun x hx => by rw [hf]; exact hx
          have nd2 : (b :: F1).Nodup := by rw [← hf]; exact r2.nd i
          have slot : From H f (b :: F1) := fun x hx => a12.fnew x ⟨i, bin x hx⟩
          have nfi : ∀ x ∈ b :: F1, ¬ inF (fset f2 i []) x := fun x hx ⟨j, hj⟩ => by
            by_cases e : j = i
            · subst e; rw [fset_same] at hj; cases hj
            · rw [fset_ne e] at hj; exact r2.dj i j (Ne.symm e) x (bin x hx) hj
          have nzi : ∀ x ∈ b :: F1, ¬ Z2 x := fun x hx => r2.nz i x (bin x hx)
          have owi : ∀ x ∈ b :: F1, ∃ o, H2 x = some o ∧ own o = true := fun x hx => r2.ow i x (bin x hx)
          cases tk2.rx with
          | d hkd =>
            have fin : ∀ (H3 : Hp) (es' : List DictEntry) (q : Addr) (vs : List V) (Fa Fr Fb : List Addr), Sda T.c Z2 H3 (fset f2 i []) kd l rr b q es' vs Fa Fr Fb → Rel T.c Z2 H3 (s1.set i none) σ (fset f2 i []) → Mp.Fr Z H f Z2 H3 (fset f2 i []) →
                From H f (b :: (Fa ++ (q :: Fr ++ Fb))) → tyV T.X.K "list" (.ref q) H3 ∧ tCons (tE T.c T.C T.G T.W e) tNil σ H3 (fun xs H2 => L2.rAppend (.ref q) xs H2 fun _ H' => D.nx σ H') := fun H3 es' q vs Fa Fr Fb sd r3 a3 fd => by
              refine ⟨.inl ⟨rfl, vs, .inl (.inl sd.hq)⟩, Z2, s1.set i none, fset f2 i [], r3, postS.fl2 (k := kSda2 i kd l rr) pb a3 fun y s4 v Z4 H4 f4 _ r4 a4 ⟨Fy, ty, fry⟩ p4 => ?_⟩
              have p4 : postS T.c T.W T.mu σ Z H f (if rr.length < lim then .nx (s4.set i (some (.dic (putD kd (.lst (rr ++ [y])) l)))) else .stuck) D := p4
              split at p4
              · rename_i hz
                have hq4 := a4.keep q _ sd.hq rfl (sd.nf q (by simp))
                exact ⟨q, vs, v, rfl, rfl, hq4, by rw [← lim_eq, ← sd.hr.length]; exact hz, sd.end dk hkk r3 r4 a4 a3 ty fry fd s0 p4⟩
              · exact p4.elim
            refine ⟨b, kv, .ref pn, Z2, l, es, kd, F1, rfl, rfl, hb, dk, hr, hkd, hin, hlt, ?_⟩
            rcases hc with ⟨hn, rfl⟩ | hs
            · refine .inr ⟨hn, fun u bk ru hkv => ?_⟩
              have ru : u = Value.ref pn := ru
              subst ru hkv
              have npn : pn ∉ b :: F1 := fun z => t0n pn List.mem_cons_self ⟨i, bin pn z⟩
              have npb : pn ≠ b := fun z => npn (z ▸ List.mem_cons_self)
              have kp0 : Kp Z2 H2 Z2 (upd H2 b (dicO b (es ++ [⟨(nk kd).hash T.X.w, .ref bk, .ref pn⟩]))) := ⟨fun x o e _ h => by
                have hne : x ≠ b := fun z => by
                  subst z
                  rcases h with h | h
                  · rw [hb] at e; cases e; cases h
                  · exact nzi x List.mem_cons_self h
                rw [upd_ne hne]
                exact e, fun _ z => z⟩
              refine fin _ (es ++ [⟨(nk kd).hash T.X.w, .ref bk, .ref pn⟩]) pn [] F1 [] [] ⟨upd_same, by rw [upd_ne npb]; exact hpn, .nil, ?_, fun x hx => ?_, fun x hx => ?_, fun x hx => ?_, fun Z' H' w' Fw' kp hx hw => ?_⟩ ((r2.drop0 (i := i)).other (nfi b List.mem_cons_self) (nzi b List.mem_cons_self) ⟨_, hb, rfl⟩) ((a12.trans Fr.drop).other (slot b List.mem_cons_self) ⟨_, hb, rfl⟩) fun x hx => ?_
              · refine List.nodup_cons.mpr ⟨fun z => ?_, List.nodup_append.mpr ⟨(List.nodup_cons.mp nd2).2, by simp, fun x hx w hw z => ?_⟩⟩
                · rcases List.mem_append.mp z with z | z
                  · exact (List.nodup_cons.mp nd2).1 z
                  · have z : b = pn := by simpa using z
                    exact npb z.symm
                · have hw : w = pn := by simpa using hw
                  subst hw z
                  exact npn (List.mem_cons_of_mem _ hx)
              · rcases (show x ∈ b :: F1 ∨ x = pn by simp only [List.mem_cons, List.mem_append, List.not_mem_nil, or_false] at hx ⊢; rcases hx with z | z | z <;> simp [z]) with z | z
                · exact nzi x z
                · rw [z]; exact t0z pn List.mem_cons_self
              · rcases (show x ∈ b :: F1 ∨ x = pn by simp only [List.mem_cons, List.mem_append, List.not_mem_nil, or_false] at hx ⊢; rcases hx with z | z | z <;> simp [z]) with z | z
                · exact nfi x z
                · rw [z]
                  intro ⟨j, hj⟩
                  by_cases e : j = i
                  · subst e; rw [fset_same] at hj; cases hj
                  · rw [fset_ne e] at hj; exact t0n pn List.mem_cons_self ⟨j, hj⟩
              · rcases (show x ∈ b :: F1 ∨ x = pn by simp only [List.mem_cons, List.mem_append, List.not_mem_nil, or_false] at hx ⊢; rcases hx with z | z | z <;> simp [z]) with z | z
                · by_cases e : x = b
                  · subst e; exact ⟨_, upd_same, rfl⟩
                  · obtain ⟨o, e1, e2⟩ := owi x z
                    exact ⟨o, by rw [upd_ne e]; exact e1, e2⟩
                · rw [z]; exact ⟨_, by rw [upd_ne npb]; exact hpn, rfl⟩
              · have k2 : Kp Z2 H2 Z' H' := ⟨fun x o e ht h => kp.keep x o (kp0.keep x o e ht h) ht h, kp.zz⟩
                rw [putD_none hn]
                refine (hr.kp k2 fun x hx' o e => hx x (List.mem_append_left _ hx') o ?_).append (.cons (hkd.kp k2) rfl rfl hw rfl .nil)
                rw [upd_ne fun z : x = b => (List.nodup_cons.mp nd2).1 (z ▸ hx')]
                exact e
              · rcases (show x ∈ b :: F1 ∨ x = pn by simp only [List.mem_cons, List.mem_append, List.not_mem_nil, or_false] at hx ⊢; rcases hx with z | z | z <;> simp [z]) with z | z
                · exact slot x z
                · rw [z]; exact From.fr a1 fr0 pn List.mem_cons_self
            · obtain ⟨v, Fa, Fw, Fb, ub, u, eF, rxw, hat, rv, re⟩ := hr.at hkk dk.kd hs
              cases rxw with
              | @lst qa vs _ Fr hqa hrr =>
                refine .inl ⟨ub, u, .ref qa, hat, rv, fin H2 es qa vs Fa Fr Fb ⟨hb, hqa, hrr, by rw [← eF]; exact nd2, fun x hx => nzi x (by rw [eF]; exact hx), fun x hx => nfi x (by rw [eF]; exact hx), fun x hx => owi x (by rw [eF]; exact hx), re⟩ r2.drop0 (a12.trans Mp.Fr.drop) fun x hx => slot x (by rw [eF]; exact hx)⟩
    · exact q.elim
end
end Mp
set_option maxHeartbeats 1000000
/-! Dct6: dict comprehensions. -/
namespace Mp
open PySem PySem.Spec PyProof.Rows L2
/-- the dict at D with z at y -/
def PutAt (c : Cf) (D : Addr) (y z : V) (H : Hp) (Nx : Hp → Prop) : Prop := ∃ (Z : Ad) (l : List (Mp.D × X)) (es : List DictEntry) (k : Mp.D) (F : List Addr), H D = some (dicO D es) ∧ DK l ∧ REs c Z H l es F ∧ RD c Z H k y ∧ okIn k l = true ∧ l.length < lim ∧
  ∀ (P : Program) u b, RelV z u → y = .ref b → Nx (upd H D (dicO D ((putX (nk k) b u (xsOf l es)).map (entryOfKey (nestedKind P c.w)))))
theorem run_put {X : Cx} {fa : Lay} {pins : List (Addr × Obj)} {σ : L2.St} {H : Hp} {s : Shared} {E : Value → Shared → Prop} {D : Addr} {y z : V} {u r : Value} {Nx : Hp → Prop} {Q : Unit → Shared → Prop} (hu : X.A.units + 70 < cLine) (I : Inv X pins σ H s) (p : PutAt (cf X fa) D y z H Nx) (ry : RelV y u) (rz : RelV z r)
    (h : ∀ s' H', Inv X pins σ H' s' → Nx H' → Q () s') : wpAny (model X.prog X.w) X.A (dictSet D u r) Q E s := by
  obtain ⟨Z, l, es, k, F, hp, dk, hr, hk, hin, hlt, nx⟩ := p
  obtain ⟨b, rfl, rfl, his⟩ := key_is hk ry (okIn_kind hin) I
  have dd := dic_objH I hp dk hr
  have hz : (xsOf l es).length < sizeLine := by rw [hr.xs_len, ← lim_eq]; exact hlt
  refine wpAny_dictSet_heap (hsz := Nat.le_of_lt hz) (show (nestedKind X.prog X.w).room X.A by show X.A.units + 8 < _; omega) his dd fun h' dd' hs => ?_
  rw [stored_put (by rw [hr.keys]; exact dk.nd)] at dd'
  exact h _ _ (dic_put I hp dd' hs (Nat.le_trans putX_len hz)) (nx X.prog r b rz rfl)
/-- {k: v for target in iter if ..}: D the new dict -/
def tDcn (c : Cf) (wi : TI) (g : TG) (tt : TT) (tk tv : TE) (vs : List Nat) : TE := fun σ H Q => wi σ H fun J H1 => ∀ D, H1 D = none → ∃ W : Nat → Nat → Hp → Prop, (∃ m, W 0 m (upd H1 D (dicO D []))) ∧ ∀ i m H, W i m H →
  (J.stop i H ∧ Q (.ref D) H) ∨ (J.go i H ∧ ∃ Nx : Hp → Prop, (∀ H', Nx H' → ∃ m', m' < m ∧ W (i + 1) m' H') ∧ ∀ x H', J.yld i H x H' → g x (wipe σ vs) H' fun σ2 H2 => wipe σ2 vs = wipe σ vs ∧ tt σ2 H2 fun b H3 =>
    if b = true then tk σ2 H3 fun y H4 => tv σ2 H4 fun z H5 => PutAt c D y z H5 Nx else Nx H3)
section
variable {X : Cx}
theorem pe_dcn {fa : Lay} {kx vx tg iter : Expr} {ifs : List Expr} {scope : Scope} {own : List (Str × Nat)} {pos : Pos} {wi : TI} {g : TG} {tt : TT} {tk tv : TE} (hu : X.A.units + 70 < cLine) (hc : X.calm = true) (hN : X.N.Nodup) (hi : PI X tg iter wi) (ok : BlkOk X.N X.env.scope scope own)
    (hg : ∀ (s : Shared) (H : Hp) (C : Addr) (cl : List (Str × Addr)) (fp : List Addr), PG (X.blk s H scope (compEnvC scope cl C X.env) fp) tg g)
    (ht : ∀ (s : Shared) (H : Hp) (C : Addr) (cl : List (Str × Addr)) (fp : List Addr), PTs (X.blk s H scope (compEnvC scope cl C X.env) fp) ifs tt)
    (hk : ∀ (s : Shared) (H : Hp) (C : Addr) (cl : List (Str × Addr)) (fp : List Addr), PE (X.blk s H scope (compEnvC scope cl C X.env) fp) kx tk)
    (he : ∀ (s : Shared) (H : Hp) (C : Addr) (cl : List (Str × Addr)) (fp : List Addr), PE (X.blk s H scope (compEnvC scope cl C X.env) fp) vx tv) (hs : ∀ x, foldedSetIterable iter X.env x = pure x) :
    PE X (.DictComp kx vx [⟨tg, iter, ifs, 0⟩] scope pos) (tDcn (cf X fa) wi g tt tk tv (own.map (·.2))) := by
  refine ⟨fun pins s σ H Q I h => ?_⟩
  rw [arm_eval_DictComp]
  have hfree : ∀ y ∈ scope.names, y.2 = .free → ∃ c, X.env.cells.lookup y.1 = some c := fun y hy e => (ok.free y hy e).elim (fun k => I.ok.has _ (.inl k)) fun k => I.ok.has _ (.inr k)
  refine wpAny_comprehension_free (use := none) rfl hs (closure_ok hfree) ok.kind (fun y hy e => by rw [ok.uniq y hy, e]) (thn (hi.run pins s σ H _ I h) fun xv s1 hx => thn hx fun itv s2 h2 => ?_)
  obtain ⟨it, fp, tn, J, H2, rfl, I2, T, st2, f2, q⟩ := h2
  refine wpAny_newObj_type (newEnv_comp ?_)
  generalize hD : s2.heap.objs.size = D
  obtain ⟨W, ⟨m0, w0⟩, turn⟩ := q D (I2.hok.fresh (Nat.le_of_eq hD))
  generalize hs3 : ({ s2 with heap := s2.heap.push { cls := .type "dict", data := .dict #[] } } : Shared) = s3
  have I3 : Inv X pins σ (upd H2 D (dicO D [])) s3 := by
    rw [← hs3]
    refine I2.laid (t' := s2.toks) (fun b o e => Heap.get?_push_of_some _ e) (Nat.le_of_eq hD) ?_
    rw [← hD]
    exact dic_new (ep := 0) (beq_eq_false_iff_ne.mpr (Ne.symm (Nat.ne_of_lt I2.big))) (Nat.zero_le _) (Heap.get?_push_size _ rfl) ⟨rfl, rfl, rfl⟩ rfl
  have h3 : s3.heap = s2.heap.push { cls := .type "dict", data := .dict #[] } := by rw [← hs3]
  have f3 : ∀ b ∈ fp, FpOk X pins (upd H2 D (dicO D [])) b ∧ b < s3.heap.objs.size := fun b hb => by
    obtain ⟨o, e, _⟩ := T.obj _ _ st2 b hb
    have hlt := Heap.lt_size e
    refine ⟨⟨?_, (f2 b hb).2⟩, by rw [h3, Heap.size_push]; exact Nat.lt_succ_of_lt hlt⟩
    rw [upd_ne (by rw [← hD]; exact Nat.ne_of_lt hlt)]
    exact (f2 b hb).1
  have st3 : tn 0 s3.heap := T.keep _ _ _ st2 fun b _ o e => by rw [h3]; exact Heap.get?_push_of_some _ e
  have I4 := block_start I3 ok hN f3
  generalize hcl : cellsFrom (s3.heap.objs.size + 1) scope.names (cloFrom X.env.cells scope.names []) = cl at I4
  have pg := hg s3 (upd H2 D (dicO D [])) s3.heap.objs.size cl fp
  have pt := ht s3 (upd H2 D (dicO D [])) s3.heap.objs.size cl fp
  have pk := hk s3 (upd H2 D (dicO D [])) s3.heap.objs.size cl fp
  have pe := he s3 (upd H2 D (dicO D [])) s3.heap.objs.size cl fp
  show codeAny _ _ (.compStart (.DictComp kx vx [⟨tg, iter, ifs, 0⟩] scope pos) 0 (.ref it) (.ref D) (compEnvC scope cl s3.heap.objs.size X.env)) (compPost (model X.prog X.w) X.A X.xe none (EP X pins σ Q) (.ref D) s3.heap.objs.size) { s3 with heap := pushCells (s3.heap.push { cls := .type "dict", data := .dict #[] }) scope.names }
  have nfp : ∀ b ∈ fp, (upd H2 D (dicO D [])) b = none := fun b hb => (f3 b hb).1.1
  generalize hce : compEnvC scope cl s3.heap.objs.size X.env = ce at I4 pg pt pk pe ⊢
  have cL : ce.locals = s3.heap.objs.size := by subst hce; rfl
  generalize hH3 : upd H2 D (dicO D []) = H3 at I3 I4 pg pt pk pe w0 nfp f3
  generalize hs4 : ({ s3 with heap := pushCells (s3.heap.push { cls := .type "dict", data := .dict #[] }) scope.names } : Shared) = s4 at I4 ⊢
  have st4 : tn 0 s4.heap := T.keep _ _ _ st3 fun b _ o e => by rw [← hs4]; exact pushCells_keeps _ _ _ _ (Heap.get?_push_of_some _ e)
  have stat : ∀ {σ' : L2.St} {H' : Hp} {s' : Shared}, Inv (X.blk s3 H3 scope ce fp) [] σ' H' s' → (∀ b ∈ fp, H' b = none) → ∀ b ∈ fp, FpOk (X.blk s3 H3 scope ce fp) [] H' b := fun {σ' H' s'} I' hn b hb =>
    ⟨hn b hb, (I'.ok.exf b hb).1, I'.ok.exfs b hb, .inl hb, fun x c e => (I'.ok.exf b hb).2 x c e, fun p hp => absurd (show p ∈ ([] : List (Addr × Obj)) ++ [] from hp) (by simp)⟩
  have loop : codeAny (model X.prog X.w) X.A (.compLoop (.DictComp kx vx [⟨tg, iter, ifs, 0⟩] scope pos) 0 (.ref it) (.ref D) ce) (compPost (model X.prog X.w) X.A X.xe none (EP X pins σ Q) (.ref D) s3.heap.objs.size) s4 := by
    refine compLoop_anyD (fun n s' => ∃ i H', Inv (X.blk s3 H3 scope ce fp) [] (wipe σ (own.map (·.2))) H' s' ∧ tn i s'.heap ∧ (∀ b ∈ fp, H' b = none) ∧ W i n H') ?_ m0 ⟨0, H3, I4, st4, nfp, w0⟩
    rintro n s5 ⟨i, H5, I5, st5, n5, w5⟩
    rcases turn i n H5 w5 with ⟨stop, qq⟩ | ⟨go, Nx, hNx, step⟩
    · refine thnF (T.done (X.blk s3 H3 scope ce fp) rfl rfl rfl hc i [] s5 _ H5 (fun _ _ => False) I5 (stat I5 n5) st5 stop) fun r s6 ⟨hr, I6⟩ => ?_
      subst hr
      have I7 : Inv X pins σ H5 s6 := I3.call' (ch := fp) I6.os I6.base I6.hok I6.bare fun b hb => ⟨(f3 b hb).1.2.2.2.1, (f3 b hb).1.2.1, (f3 b hb).1.2.2.2.2.1, (f3 b hb).1.2.2.2.2.2⟩
      have nC : H5 s3.heap.objs.size = none := by
        have z : H5 ce.locals = none := I6.free
        rwa [cL] at z
      obtain ⟨m, hn, _⟩ := I6.loc
      have hn : s6.heap.Ns ce.locals m := hn
      rw [cL] at hn
      obtain ⟨g0, g1, g2, g3, g4, g5⟩ := I3.fpOk (Nat.le_refl _) nC
      exact ⟨m, hn, fun h'' sb => ⟨.ref D, H5, I7.turned (t' := s6.toks) (fun b o hb e => (sb.2 b hb).trans e) nC g1 g3 g4 g5, rfl, qq⟩⟩
    · refine thnF (T.item (X.blk s3 H3 scope ce fp) rfl rfl rfl hc i [] s5 _ H5 (fun _ _ => False) I5 (stat I5 n5) st5 go) fun r s6 ⟨u, hr, h6⟩ => ?_
      subst hr
      refine thnF h6 fun _ s7 ⟨x, H7, I7, r7, y7, st7, n7⟩ => ?_
      refine thnF (pg.run _ s7 _ H7 x u _ (I7.pinned (stat I7 n7) (T.obj _ _ st7)) r7 (step x H7 y7)) fun _ s8 ⟨σ8, H8, I8, hw8, q8⟩ => ?_
      refine thnF (pt.run _ s8 σ8 H8 _ I8 q8) fun b s9 ⟨H9, I9, q9⟩ => ?_
      have fin : ∀ {s' : Shared} {H' : Hp}, Inv (X.blk s3 H3 scope ce fp) ([] ++ pinsAt fp s7.heap) σ8 H' s' → Nx H' → ∃ m, m < n ∧ ∃ i H', Inv (X.blk s3 H3 scope ce fp) [] (wipe σ (own.map (·.2))) H' s' ∧ tn i s'.heap ∧ (∀ b ∈ fp, H' b = none) ∧ W i m H' := fun {s' H'} I' nx => by
        obtain ⟨m', hm, w'⟩ := hNx H' nx
        have pin' : ∀ b ∈ fp, ∀ o, s7.heap.get? b = some o → s'.heap.get? b = some o ∧ H' b = none := fun b hb o e =>
          let z := I'.pin (b, o) (List.mem_append_right _ (List.mem_append_right _ (mem_pinsAt hb e)))
          ⟨z.1, z.2.1⟩
        refine ⟨m', hm, i + 1, H', (I'.unpinned (pins := [])).weak (by rw [← hw8, wipe_length]) (fun j v e => ?_), T.keep _ _ _ st7 fun b hb o e => (pin' b hb o e).1, fun b hb => ?_, w'⟩
        · rw [← hw8] at e
          exact (wipe_some e).1
        · obtain ⟨o, e, _⟩ := T.obj _ _ st7 b hb
          exact (pin' b hb o e).2
      cases b with
      | false =>
        simp only [Bool.false_eq_true, if_false] at q9 ⊢
        exact fin I9 q9
      | true =>
        simp only [if_true] at q9 ⊢
        refine thnF (pk.run _ s9 σ8 H9 _ I9 q9) fun z s10 ⟨yk, H10, I10, r10, q10⟩ => ?_
        refine thnF (pe.run _ s10 σ8 H10 _ I10 q10) fun z2 s11 ⟨yv, H11, I11, r11, q11⟩ => ?_
        exact run_put (X := X.blk s3 H3 scope ce fp) (fa := fa) hu I11 q11 r10 r11 fun s12 H12 I12 nx => fin I12 nx
  exact codeAny_compStart_dict loop (T.self X.A 0 _ _ _ st4 loop)
end
end Mp
set_option maxHeartbeats 1000000
/-! Dct7: dict comprehensions, as the interpreter has them. -/
namespace Mp
open PySem PySem.Spec PyProof.Rows L2
section
variable {T : At} {own : List Nat} {e k it : E} {tg : Tg} {ifs : List E} {elt kx ta ia : Expr} {ifa : List Expr} {scope : Scope} {ownA : List (Str × Nat)} {pos : Pos}
theorem imp_dc {σ : L2.St} {H : Hp} {Q : VK} (hsl : ∀ i ∈ slots tg, i ∈ own) (h : tE T.c T.C T.G T.W (.dc own k e tg it ifs) σ H Q) :
    tDcn T.c (tI T.c T.C T.G T.W it) (gT T.c tg) (tTs T.c T.C T.G (fun _ _ _ _ => False) ifs) (tE T.c T.C T.G (fun _ _ _ _ => False) k) (tE T.c T.C T.G (fun _ _ _ _ => False) e) own σ H Q := by
  obtain ⟨Z, s, f, r, p⟩ := h
  have p : post T.c T.W σ Z H f (kX T.c) ((ev T.C T.G it s).bind (kDc1 T.C T.G own k e tg ifs)) Q := p
  refine ⟨Z, s, f, r, ?_⟩
  cases q : ev T.C T.G it s with
  | exc e s' => rw [q] at p; exact p
  | stuck => rw [q] at p; exact p
  | ok x s1 =>
    rw [q] at p
    have p : post T.c T.W σ Z H f (kX T.c) ((ofO ((itemsD x).map fun l => l.map Mp.X.d) s1).bind (kDc2 T.C T.G own k e tg ifs)) Q := p
    cases q2 : itemsD x with
    | none => rw [q2] at p; exact p.elim
    | some ds =>
      rw [q2] at p
      have p : post T.c T.W σ Z H f (kX T.c) ((dcL (dcT T.C T.G own k e tg ifs) (ds.map Mp.X.d) [] (kills own s1)).bind (kDc3 own s1)) Q := p
      refine ⟨ds, q2, fun J Z1 H1 f1 r1 a1 yl Dd hD => ?_⟩
      have rw1 := r1.killsW (own := own)
      have zD : ¬ Z1 Dd := fun z => r1.zo Dd z hD
      have fD : ¬ inF (fkill own f1) Dd := fun ⟨i, hi⟩ => by
        obtain ⟨o, e, _⟩ := rw1.ow i Dd hi
        rw [hD] at e; cases e
      refine ⟨fun i m H' => m = ds.length - i ∧ i ≤ ds.length ∧ ∃ Z' s' f' ys F, Rel T.c Z' H' s' (wipe σ own) f' ∧ Fr Z1 H1 (fkill own f1) Z' H' f' ∧ Tmp T.c Z' H' f' (.dic ys) (.ref Dd) (Dd :: F) ∧ From H1 (fkill own f1) (Dd :: F) ∧
        post T.c T.W σ Z H f (kX T.c) ((dcL (dcT T.C T.G own k e tg ifs) ((ds.drop i).map Mp.X.d) ys s').bind (kDc3 own s1)) Q, ⟨ds.length, by simp, Nat.zero_le _, Z1, _, _, [], [], rw1.laid hD, Fr.laid hD, ⟨.dic upd_same DK.nil .nil, by simp, fun a ha => ?_, fun a ha => ?_⟩, fun a ha => ?_, by simpa using p⟩, ?_⟩
      · rw [List.mem_singleton.mp ha]; exact zD
      · rw [List.mem_singleton.mp ha]; exact fD
      · rw [List.mem_singleton.mp ha]; exact .inr hD
      rintro i m H' ⟨rfl, hi, Z', s', f', ys, F, r', a', t', fr', p'⟩
      have k' := a'.kp rw1
      obtain ⟨y1, y2⟩ := yl Z' H' k'
      by_cases hlt : i < ds.length
      · refine .inr ?_
        have hd : ds[i]? = some ds[i] := List.getElem?_eq_getElem hlt
        obtain ⟨go, yy⟩ := y1 i _ hd
        rw [List.drop_eq_getElem_cons hlt, List.map_cons] at p'
        have p' : post T.c T.W σ Z H f (kX T.c) (((dcT T.C T.G own k e tg ifs (.d ds[i]) s').calm.bind fun y s' => match y with
          | none => dcL (dcT T.C T.G own k e tg ifs) ((ds.drop (i + 1)).map Mp.X.d) ys s'
          | some (k', y) => if okIn k' ys ∧ ys.length < lim then dcL (dcT T.C T.G own k e tg ifs) ((ds.drop (i + 1)).map Mp.X.d) (putD k' y ys) s' else .stuck).bind (kDc3 own s1)) Q := p'
        refine ⟨go, fun H3 => ds.length - (i + 1) < ds.length - i ∧ i + 1 ≤ ds.length ∧ ∃ Z' s' f' ys F, Rel T.c Z' H3 s' (wipe σ own) f' ∧ Fr Z1 H1 (fkill own f1) Z' H3 f' ∧ Tmp T.c Z' H3 f' (.dic ys) (.ref Dd) (Dd :: F) ∧ From H1 (fkill own f1) (Dd :: F) ∧
          post T.c T.W σ Z H f (kX T.c) ((dcL (dcT T.C T.G own k e tg ifs) ((ds.drop (i + 1)).map Mp.X.d) ys s').bind (kDc3 own s1)) Q, fun H3 ⟨h1, h2, h3⟩ => ⟨_, h1, rfl, h2, h3⟩, fun v H3 yv => ?_⟩
        obtain ⟨ext, rd⟩ := yy v H3 yv
        have r3 := r'.fr ext
        have a3 : Fr Z' H' f' Z' H3 f' := Fr.ext ext
        refine ⟨Z', s', f', ds[i], r3, rd, ?_⟩
        unfold dcT at p'
        cases qa : asg tg (.d ds[i]) s' with
        | none => rw [qa] at p'; exact p'.elim
        | some s4 =>
          rw [qa] at p'
          intro σ4 f4 r4 a4 b4
          have b4' : But own (wipe σ own) σ4 := fun i hi => b4 i fun z => hi (hsl i z)
          have w4 : wipe σ4 own = wipe σ own := by
            rw [wipe_but (σ := wipe σ own) (by rw [← r4.len, ← r3.len, asg_len qa]) b4', wipe_wipe]
          refine ⟨w4, Z', s4, f4, r4, ?_⟩
          have p' : post T.c T.W σ Z H f (kX T.c) ((((tsts T.C T.G ifs s4).bind (kKV T.C T.G own k e)).calm.bind fun y s' => match y with
            | none => dcL (dcT T.C T.G own k e tg ifs) ((ds.drop (i + 1)).map Mp.X.d) ys s'
            | some (k', y) => if okIn k' ys ∧ ys.length < lim then dcL (dcT T.C T.G own k e tg ifs) ((ds.drop (i + 1)).map Mp.X.d) (putD k' y ys) s' else .stuck).bind (kDc3 own s1)) Q := p'
          cases qt : tsts T.C T.G ifs s4 with
          | exc e' s5 => rw [qt] at p'; exact p'.elim
          | stuck => rw [qt] at p'; exact p'.elim
          | ok b s5 =>
            rw [qt] at p'
            intro b' Z5 H5 f5 r5 a5 hb
            rw [show b' = b from hb]
            have a05 := ((a3.trans a4).trans a5)
            have t5 := t'.fr r' a05
            have aa5 := a'.trans a05
            cases b with
            | false =>
              rw [if_neg (by simp)]
              have p' : post T.c T.W σ Z H f (kX T.c) ((dcL (dcT T.C T.G own k e tg ifs) ((ds.drop (i + 1)).map Mp.X.d) ys (kills own s5)).bind (kDc3 own s1)) Q := p'
              have r6 := r5.killsW (own := own)
              rw [w4] at r6
              exact ⟨by omega, hlt, Z5, _, _, ys, F, r6, aa5.trans Fr.kills, t5.fr r5 Fr.kills, fr', p'⟩
            | true =>
              rw [if_pos rfl]
              have p' : post T.c T.W σ Z H f (kX T.c) ((((ev T.C T.G k s5).bind (kV1 T.C T.G own e)).calm.bind fun y s' => match y with
                | none => dcL (dcT T.C T.G own k e tg ifs) ((ds.drop (i + 1)).map Mp.X.d) ys s'
                | some (k', y) => if okIn k' ys ∧ ys.length < lim then dcL (dcT T.C T.G own k e tg ifs) ((ds.drop (i + 1)).map Mp.X.d) (putD k' y ys) s' else .stuck).bind (kDc3 own s1)) Q := p'
              refine ⟨Z5, s5, f5, r5, ?_⟩
              cases qk : ev T.C T.G k s5 with
              | exc e' s6 => rw [qk] at p'; exact p'.elim
              | stuck => rw [qk] at p'; exact p'.elim
              | ok ky s6 =>
                rw [qk] at p'
                intro kv Z6 H6 f6 r6 a6 ⟨Fk, tk, fk⟩
                refine ⟨Z6, s6, f6, r6, ?_⟩
                have p' : post T.c T.W σ Z H f (kX T.c) ((((ev T.C T.G e s6).bind (kV2 own ky)).calm.bind fun y s' => match y with
                  | none => dcL (dcT T.C T.G own k e tg ifs) ((ds.drop (i + 1)).map Mp.X.d) ys s'
                  | some (k', y) => if okIn k' ys ∧ ys.length < lim then dcL (dcT T.C T.G own k e tg ifs) ((ds.drop (i + 1)).map Mp.X.d) (putD k' y ys) s' else .stuck).bind (kDc3 own s1)) Q := p'
                cases qe : ev T.C T.G e s6 with
                | exc e' s7 => rw [qe] at p'; exact p'.elim
                | stuck => rw [qe] at p'; exact p'.elim
                | ok y s7 =>
                  rw [qe] at p'
                  intro yv Z7 H7 f7 r7 a7 ⟨Fy, ty, fy⟩
                  cases ky with
                  | d kd =>
                    have p' : post T.c T.W σ Z H f (kX T.c) ((if okIn kd ys ∧ ys.length < lim then dcL (dcT T.C T.G own k e tg ifs) ((ds.drop (i + 1)).map Mp.X.d) (putD kd y ys) (kills own s7) else .stuck).bind (kDc3 own s1)) Q := p'
                    split at p'
                    · rename_i hz
                      have a67 := a6.trans a7
                      have t7 := (t5.fr r5 a6).fr r6 a7
                      have tk7 := tk.fr r6 a7
                      have apart := Tmp.apart (t5.fr r5 a6) fy
                      have hkk := okIn_kind hz.1
                      cases tk7.rx with
                      | d hkd =>
                        obtain ⟨bk, vsk, rfl, _, _⟩ : ∃ a vs, kv = .ref a ∧ SqT T.c.K H7 a vs ∧ True := by
                          obtain ⟨lk, rfl, _, _⟩ := kindK_tup hkk
                          obtain ⟨a, vs, e1, e2, _⟩ := hkd.sq
                          exact ⟨a, vs, e1, e2, trivial⟩
                        obtain ⟨D', es, F', eD, eF, hDd, dk, hr⟩ := t7.dic
                        cases eD
                        obtain rfl := (List.cons.inj eF).2
                        obtain ⟨nDF, nd7⟩ := List.nodup_cons.mp t7.nd
                        have nDy : Dd ∉ Fy := apart Dd List.mem_cons_self
                        have nzD := t7.nz Dd List.mem_cons_self
                        have nfD := t7.nf Dd List.mem_cons_self
                        have hw : ∃ o, H7 Dd = some o ∧ Mp.own o = true := ⟨_, hDd, rfl⟩
                        refine ⟨Z7, ys, es, kd, F, hDd, dk, hr, hkd, hz.1, hz.2, fun P u b ru hb => ?_⟩
                        cases hb
                        obtain ⟨F2, g1, g2, g3⟩ := REs.put (P := P) (kv := yv) hkk hkd ty.rx ru ty.nd hr dk.kd nd7 fun a ha => apart a (List.mem_cons_of_mem _ ha)
                        have nD2 : Dd ∉ F2 := fun z => (g3 Dd z).elim nDF nDy
                        have kpD : Kp Z7 H7 Z7 (upd H7 Dd (dicO Dd ((putX (nk kd) bk u (xsOf ys es)).map (entryOfKey (nestedKind P T.c.w))))) := ⟨fun x o e _ h => by
                          have hne : x ≠ Dd := fun z => by
                            subst z
                            rcases h with h | h
                            · rw [hDd] at e; cases e; cases h
                            · exact nzD h
                          rw [upd_ne hne]
                          exact e, fun _ z => z⟩
                        refine ⟨by omega, hlt, Z7, kills own s7, fkill own f7, putD kd y ys, F2, ?_, ?_, ?_, ?_, p'⟩
                        · have r8 := r7.killsW (own := own)
                          rw [w4] at r8
                          exact r8.other (fun z => nfD (fkill_inF z)) nzD hw
                        · exact ((aa5.trans a67).trans (Fr.kills (own := own))).other (.inr hD) hw
                        · refine ⟨.dic upd_same (dk.put hkk) (g1.kp kpD fun x hx o e => ?_), List.nodup_cons.mpr ⟨nD2, g2⟩, fun x hx => ?_, fun x hx z => ?_⟩
                          · rw [upd_ne fun z : x = Dd => nD2 (z ▸ hx)]
                            exact e
                          · rcases List.mem_cons.mp hx with rfl | hx
                            · exact nzD
                            · exact (g3 x hx).elim (fun z => t7.nz x (List.mem_cons_of_mem _ z)) (ty.nz x)
                          · have z := fkill_inF z
                            rcases List.mem_cons.mp hx with rfl | hx
                            · exact nfD z
                            · exact (g3 x hx).elim (fun w => t7.nf x (List.mem_cons_of_mem _ w) z) fun w => ty.nf x w z
                        · have fy' : From H1 (fkill own f1) Fy := From.fr (aa5.trans a6) fy
                          intro x hx
                          rcases List.mem_cons.mp hx with rfl | hx
                          · exact fr' x List.mem_cons_self
                          · exact (g3 x hx).elim (fun z => fr' x (List.mem_cons_of_mem _ z)) (fy' x)
                    · exact p'.elim
                  | _ => exact p'.elim
      · have e : i = ds.length := by omega
        subst e
        refine .inl ⟨y2, ?_⟩
        rw [List.drop_length] at p'
        have p' : post T.c T.W σ Z H f (kX T.c) (.ok (.dic ys) (back own s1 s')) Q := p'
        obtain ⟨rb, ab⟩ := r1.back r' a'
        refine p' (.ref Dd) Z' H' _ rb (a1.trans ab) ⟨Dd :: F, ⟨t'.rx, t'.nd, t'.nz, fun b hb ⟨j, hj⟩ => ?_⟩, From.fr a1 fun b hb => (fr' b hb).imp fkill_inF id⟩
        by_cases h : j ∈ own
        · simp only [if_pos h] at hj
          rcases fr' b hb with ⟨l, hl⟩ | z
          · obtain ⟨h1, h2⟩ := fkill_mem hl
            exact r1.dj j l (fun e => h1 (e ▸ h)) b hj h2
          · obtain ⟨o, e, _⟩ := r1.ow j b hj
            rw [z] at e; cases e
        · simp only [if_neg h] at hj; exact t'.nf b hb ⟨j, hj⟩
theorem se_dc (hu : T.X.A.units + 70 < cLine) (hc : T.X.calm = true) (hN : T.X.N.Nodup) (hi : SI T ta it ia) (ok : BlkOk T.X.N T.X.env.scope scope ownA) (ho : ownA.map (·.2) = own) (hsl : ∀ i ∈ slots tg, i ∈ own)
    (hg : ∀ (s : Shared) (H : Hp) (C : Addr) (cl : List (Str × Addr)) (fp : List Addr), SGt (T.blk s H scope (compEnvC scope cl C T.X.env) fp) tg ta)
    (ht : ∀ (s : Shared) (H : Hp) (C : Addr) (cl : List (Str × Addr)) (fp : List Addr), SPT (T.blk s H scope (compEnvC scope cl C T.X.env) fp) ifs ifa)
    (hk : ∀ (s : Shared) (H : Hp) (C : Addr) (cl : List (Str × Addr)) (fp : List Addr), SE (T.blk s H scope (compEnvC scope cl C T.X.env) fp) k kx)
    (he : ∀ (s : Shared) (H : Hp) (C : Addr) (cl : List (Str × Addr)) (fp : List Addr), SE (T.blk s H scope (compEnvC scope cl C T.X.env) fp) e elt) (hs : ∀ x, foldedSetIterable ia T.X.env x = pure x) :
    SE T (.dc own k e tg it ifs) (.DictComp kx elt [⟨ta, ia, ifa, 0⟩] scope pos) := PE.imp (pe_dcn (fa := T.fa) (wi := tI T.c T.C T.G T.W it) (g := gT T.c tg) (tt := tTs T.c T.C T.G (fun _ _ _ _ => False) ifs) (tk := tE T.c T.C T.G (fun _ _ _ _ => False) k) (tv := tE T.c T.C T.G (fun _ _ _ _ => False) e) hu hc hN hi ok hg ht hk he hs) fun σ H Q h => by
  rw [ho]
  exact imp_dc hsl h
end
end Mp
set_option maxHeartbeats 1000000
/-! Sk1: list.sort with a key: any function whose calls are known. -/
namespace Mp
open PySem PySem.Spec PyProof.Rows L2 SrtO
open PySem.W (EachIs)
section
variable {prog : Program} {w : World} {A : Around} {E : Value → Shared → Prop} {s : Shared} {a kS : Addr} {vs : List Value} {keys : Array Value} {e e1 : Nat} {P : PySem.Fin → Shared → Prop}
theorem mp_key_tail {st : SortSt} (hk : s.heap.get? kS = some (seqObj "list" keys e)) (ha : s.heap.get? a = some (seqObj "list" #[] e1)) (hka : kS ≠ a) (hsz : keys.size ≤ sizeLine) (hz : (arrOf st).size ≤ sizeLine) (hfl : failedOf st = none)
    (h : ∀ hm h' c, h'.get? a = some (seqObj "list" ((arrOf st).map (·.2)) c) → Heap.SameBut kS s.heap hm → Heap.SameBut a hm h' → P (.done (.ret .none)) { s with heap := h' }) :
    wpAny (model prog w) A (ksk_tail a false e1 (.ref kS) st) P E s := by
  have s1 := Heap.SameBut.update s.heap kS (Obj.mapSeq fun _ => (#[] : Array Value))
  have na1 : (s.heap.update kS (Obj.mapSeq fun _ => (#[] : Array Value))).get? a = some (seqObj "list" #[] e1) := (s1.2 a hka.symm).trans ha
  have s2 := Heap.SameBut.update (s.heap.update kS (Obj.mapSeq fun _ => (#[] : Array Value))) a (Obj.mapSeq fun _ => (arrOf st).map (·.2))
  have hz' : ((arrOf st).map (·.2)).size ≤ sizeLine + 1 := by rw [Array.size_map]; exact Nat.le_succ_of_le hz
  unfold ksk_tail
  refine wpAny_bind (listUpdate_at hk rfl ?_ hsz (Nat.zero_le _))
  refine wpAny_bind (wpAny_letGo ?_)
  refine wpAny_bind (seqEpoch_at na1 rfl ?_)
  refine wpAny_bind (listUpdate_at na1 rfl ?_ (Nat.zero_le _) hz')
  rw [hfl]
  simp only [bne_self_eq_false, Bool.false_eq_true, if_false]
  exact wpAny_pure (h _ _ _ (get?_update_seq na1 fun _ => (arrOf st).map (·.2)) s1 s2)
theorem mp_key_end {ltv : Value → Value → Bool} (O : Swo ltv) (hk : s.heap.get? kS = some (seqObj "list" keys e)) (ha : s.heap.get? a = some (seqObj "list" #[] e1)) (hka : kS ≠ a) (hsz : keys.size = vs.length) (hZ : vs.length ≤ sizeLine)
    (hC : 2 ≤ vs.length → ∃ κ, (∀ (Q : SortKind → Shared → Prop) (E : Value → Shared → Prop), Q κ s → wpAny (model prog w) A (keyKind' keys) Q E s) ∧ Cmp prog w A s κ (fun p => p.1 ∈ keys.toList) (lt2 ltv))
    (h : ∀ (out : List Keyed) hm h' c, Srtd (lt2 ltv) out → Stb (lt2 ltv) out (keys.toList.zip vs) → h'.get? a = some (seqObj "list" (out.map (·.2)).toArray c) → Heap.SameBut kS s.heap hm → Heap.SameBut a hm h' → P (.done (.ret .none)) { s with heap := h' }) :
    wpAny (model prog w) A (ksk_end a false vs.toArray e1 (.ref kS) keys) P E s := by
  have ez : (keys.zip vs.toArray).toList = keys.toList.zip vs := by rw [Array.toList_zip]
  have lz : (keys.zip vs.toArray).size = vs.length := by rw [Array.size_zip, hsz, List.size_toArray, Nat.min_self]
  have fin : ∀ st' : SortSt, Srtd (lt2 ltv) (arrOf st').toList → Stb (lt2 ltv) (arrOf st').toList (keys.zip vs.toArray).toList → failedOf st' = none → wpAny (model prog w) A (ksk_tail a false e1 (.ref kS) st') P E s := by
    intro st' h1 h2 h3
    have hl : (arrOf st').size = vs.length := by
      have := h2.perm.length_eq
      rw [Array.length_toList, Array.length_toList, lz] at this
      exact this
    refine mp_key_tail hk ha hka (by rw [hsz]; exact hZ) (by rw [hl]; exact hZ) h3 fun hm h' c g1 g2 g3 => ?_
    rw [ez] at h2
    refine h _ hm h' c h1 h2 ?_ g2 g3
    rw [g1]
    congr 2
    rw [← Array.toList_map, Array.toArray_toList]
  unfold ksk_end
  try dsimp only
  simp only [Bool.false_eq_true, if_false]
  by_cases hl2 : vs.toArray.size < 2
  · rw [if_pos hl2, if_pos hl2]
    refine wpAny_bind (wpAny_pure ?_)
    rw [StateT.run_pure]
    refine wpAny_bind (wpAny_pure ?_)
    try dsimp only
    refine fin (SortSt.mk' general' (keys.zip vs.toArray) #[] 7 none) ?_ (Stb.refl _) rfl
    have hshort : (keys.zip vs.toArray).toList.length < 2 := by rw [Array.length_toList, lz]; simpa using hl2
    show Srtd (lt2 ltv) (keys.zip vs.toArray).toList
    match (keys.zip vs.toArray).toList, hshort with
    | [], _ => exact List.Pairwise.nil
    | [v], _ => exact List.pairwise_singleton _ _
    | _ :: _ :: l, h => exact absurd h (by rw [List.length_cons, List.length_cons]; omega)
  · rw [if_neg hl2, if_neg hl2]
    rw [List.size_toArray] at hl2
    obtain ⟨κ, hkind, hT⟩ := hC (by omega)
    refine wpAny_bind (hkind _ _ ?_)
    have hall : AllL (fun p : Keyed => p.1 ∈ keys.toList) (keys.zip vs.toArray).toList := fun p hm => by
      rw [ez] at hm
      exact (List.of_mem_zip hm).1
    refine wpAny_bind (wpAny_mono (wpS_sortO (st0 := SortSt.mk' κ (keys.zip vs.toArray) #[] 7 none)
      (Q := fun _ st' => Srtd (lt2 ltv) (arrOf st').toList ∧ Stb (lt2 ltv) (arrOf st').toList (keys.zip vs.toArray).toList ∧ failedOf st' = none) (swo2 O) hT rfl hall rfl rfl fun st' a1 a2 a3 => ⟨a1, a2, a3⟩) ?_ fun _ _ e => e)
    rintro ⟨⟨⟩, st'⟩ s' ⟨rfl, hp1, hp2, hf⟩
    try dsimp only
    exact fin st' hp1 hp2 hf
end
/-- the calls of a key, one by one -/
def tKeys (c1 : V → Hp → VK → Prop) : List V → Hp → (List V → Hp → Prop) → Prop
  | [], H, Q => Q [] H
  | v :: r, H, Q => c1 v H fun k H1 => tKeys c1 r H1 fun ks H2 => Q (k :: ks) H2
/-- a call of the key fu reads so -/
def Call1 (X : Cx) (A : Around) (σ : L2.St) (fu : Value) (c1 : V → Hp → VK → Prop) : Prop :=
  ∀ (pins : List (Addr × Obj)) (s : Shared) (H : Hp) (v : V) (u : Value) (Q : VK), Inv X pins σ H s → RelV v u → c1 v H Q → wpAny (model X.prog X.w) A (PySem.call fu [u]) (EP X pins σ Q) (fun _ _ => False) s
section
variable {X : Cx} {pins : List (Addr × Obj)} {σ : L2.St} {H : Hp} {s : Shared} {A : Around} {E : Value → Shared → Prop} {a kS : Addr} {P : PySem.Fin → Shared → Prop} {fu : Value} {c1 : V → Hp → VK → Prop}
/-- two addresses of ours that no one else knows -/
structure Two (X : Cx) (pins : List (Addr × Obj)) (a kS : Addr) : Prop where
  ga : ∀ H' : Hp, H' a = none → FpOk X pins H' a
  gk : ∀ H' : Hp, H' kS = none → FpOk X pins H' kS
  ne : kS ≠ a
abbrev pin2 (kS a : Addr) (ok oa : Obj) (pins : List (Addr × Obj)) : List (Addr × Obj) := (kS, ok) :: (a, oa) :: pins
theorem Two.pin (t : Two X pins a kS) {ok oa : Obj} (I : Inv X pins σ H s) (hk : s.heap.get? kS = some ok) (ha : s.heap.get? a = some oa) (nk : H kS = none) (na : H a = none) (dk : ∀ v, ok.data ≠ .cell v) (da : ∀ v, oa.data ≠ .cell v) : Inv X (pin2 kS a ok oa pins) σ H s :=
  I.pins_of fun p hp => by
    rcases List.mem_cons.mp hp with rfl | hp
    · obtain ⟨_, g1, g2, _⟩ := t.gk H nk
      exact ⟨hk, nk, g1, g2, dk⟩
    · rcases List.mem_cons.mp hp with rfl | hp
      · obtain ⟨_, g1, g2, _⟩ := t.ga H na
        exact ⟨ha, na, g1, g2, da⟩
      · exact I.pin p (List.mem_append_right _ hp)
theorem Two.unpin {ok oa : Obj} (I : Inv X (pin2 kS a ok oa pins) σ H s) : s.heap.get? kS = some ok ∧ s.heap.get? a = some oa ∧ H kS = none ∧ H a = none ∧ Inv X pins σ H s := by
  have h1 := I.pin (kS, ok) (List.mem_append_right _ List.mem_cons_self)
  have h2 := I.pin (a, oa) (List.mem_append_right _ (List.mem_cons_of_mem _ List.mem_cons_self))
  exact ⟨h1.1, h2.1, h1.2.1, h2.2.1, I.pins_of fun p hp => I.pin p (List.mem_append_right _ (List.mem_cons_of_mem _ (List.mem_cons_of_mem _ hp)))⟩
theorem seq_nocell {n : String} {its : Array Value} {e : Nat} : ∀ v, (seqObj n its e).data ≠ .cell v := fun v z => by cases z
/-- the key store turns -/
theorem Two.turn (t : Two X pins a kS) {ok oa ok' : Obj} {h' : Heap} (I : Inv X (pin2 kS a ok oa pins) σ H s) (hs : Heap.SameBut kS s.heap h') (hk : h'.get? kS = some ok') (dk : ∀ v, ok'.data ≠ .cell v) (da : ∀ v, oa.data ≠ .cell v) : Inv X (pin2 kS a ok' oa pins) σ H { s with heap := h' } := by
  obtain ⟨_, ha, nk, na, I0⟩ := Two.unpin I
  obtain ⟨g0, g1, g2, g3, g4, g5⟩ := t.gk H nk
  have I1 : Inv X pins σ H { s with heap := h' } := I0.turned (t' := s.toks) (fun b o hb e => (hs.2 b hb).trans e) g0 g1 g3 g4 g5
  exact t.pin I1 hk ((hs.2 a (Ne.symm t.ne)).trans ha) nk na dk da
theorem mp_key_rest {vs : List Value} {items : List V} {e1 : Nat} {Fin : List V → Hp → Prop} (t : Two X pins a kS) (hc : Call1 X A σ fu c1) (I : Inv X (pin2 kS a (seqObj "list" #[] 0) (seqObj "list" #[] e1) pins) σ H s) (rv : Vals items vs) (hZ : vs.length ≤ sizeLine) (q : tKeys c1 items H Fin)
    (h : ∀ (H1 : Hp) (s1 : Shared) (ks : List V) (kA : Array Value) (e : Nat), Inv X (pin2 kS a (seqObj "list" kA e) (seqObj "list" #[] e1) pins) σ H1 s1 → Vals ks kA.toList → Fin ks H1 → ks.length = items.length → wpAny (model X.prog X.w) A (ksk_end a false vs.toArray e1 (.ref kS) kA) P E s1) :
    wpAny (model X.prog X.w) A (ksk_rest a fu false vs.toArray e1 (.ref kS)) P E s := by
  unfold ksk_rest
  refine wpAny_bind (wpAny_rule ?_)
  first
    | rw [List.forIn_toArray]
    | (rw [← Array.forIn_toList]; simp only [List.toList_toArray])
    | rw [← Array.forIn_toList]
  refine wpAny_bind (ksk_fold (fun i s' => ∃ (H' : Hp) (ks : List V) (kA : Array Value) (e : Nat), Inv X (pin2 kS a (seqObj "list" kA e) (seqObj "list" #[] e1) pins) σ H' s' ∧ Vals ks kA.toList ∧ ks.length = i ∧ tKeys c1 (items.drop i) H' (fun r => Fin (ks ++ r))) vs 0 s ⟨H, [], #[], 0, I, .nil, rfl, q⟩ ?_ ?_)
  · rintro j x s' hx ⟨H', ks, kA, e, I', rk, hl, q'⟩
    simp only [Nat.zero_add] at hl q' ⊢
    have hj : j < vs.length := (List.getElem?_eq_some_iff.mp hx).1
    have hlen := rv.length
    have hji : j < items.length := by omega
    obtain ⟨u, hu, ru⟩ := rv.get (List.getElem?_eq_getElem hji)
    rw [hx] at hu; cases hu
    rw [List.drop_eq_getElem_cons hji] at q'
    have q' : c1 items[j] H' fun k H1 => tKeys c1 (items.drop (j + 1)) H1 fun r H2 => Fin (ks ++ (k :: r)) H2 := q'
    refine wpAny_bind (wpAny_attempt (wpAny_mono (hc _ s' H' _ x _ I' ru q') (fun kv s2 ⟨k, H2, I2, rkv, q2⟩ => ?_) fun _ _ z => z.elim))
    try dsimp only
    obtain ⟨hk2, _⟩ := Two.unpin I2
    have hkl : kA.size = j := by rw [← Array.length_toList, ← rk.length, hl]
    have s1 := Heap.SameBut.update s2.heap kS (Obj.mapSeq (·.push kv))
    refine wpAny_bind (listUpdate_at hk2 rfl ?_ (by omega) (by rw [Array.size_push]; omega))
    refine wpAny_pure ⟨rfl, H2, ks ++ [k], kA.push kv, _, t.turn I2 s1 (get?_update_seq hk2 (·.push kv)) seq_nocell seq_nocell, ?_, by rw [List.length_append, hl]; rfl, ?_⟩
    · rw [Array.toList_push]
      exact rk.append (.cons rkv .nil)
    · simpa only [List.append_assoc, List.cons_append, List.nil_append] using q2
  · rintro s' ⟨H', ks, kA, e, I', rk, hl, q'⟩
    have hlen := rv.length
    rw [Nat.zero_add] at hl q'
    rw [List.drop_of_length_le (by omega)] at q'
    have q' : Fin (ks ++ []) H' := q'
    rw [List.append_nil] at q'
    obtain ⟨hk2, _⟩ := Two.unpin I'
    try dsimp only
    refine wpAny_bind (listItems_at hk2 rfl ?_)
    exact h H' s' ks kA e I' rk q' (by omega)
end
end Mp
set_option maxHeartbeats 1000000
/-! Sk2: sorted, of a list, a tuple, a dict; with a key. -/
namespace Mp
open PySem PySem.Spec PyProof.Rows L2 SrtO
open PySem.W (EachIs)
/-- collecting v gives vs -/
def Coll (prog : Program) (w : World) (s : Shared) (v : Value) (vs : List Value) : Prop :=
  ∀ (A : Around) (Q : List Value → Shared → Prop) (E : Value → Shared → Prop), A.handled = none → (∀ h' tk, (∀ b o, s.heap.get? b = some o → h'.get? b = some o) → Q vs { s with heap := h', toks := tk }) → wpAny (model prog w) A (collect v) Q E s
theorem mp_src {prog : Program} {w : World} {d : Addr} {es : Array DictEntry} {ep : Nat} (lo : (d == sysModules) = false) :
    PySem.W.KdlSrc prog w "dict" d d es.size (fun i v => ∃ hi : i < es.size, v = es[i].key) (fun h => h.DictRaw d es ep) where
  type := fun _ hm => hm.typeIs
  there := fun _ ⟨_, ho, _⟩ => ⟨Heap.lt_size ho, Heap.lt_size ho⟩
  keep := fun _ _ hm hk => hm.at fun o e => hk d (.inl rfl) o e
  notList := by decide
  notTuple := by decide
  hint := fun _ _ _ _ hm hq => PySem.W.kdl_hint_dict hm.typeIs hq
  iter := fun _ s hh hm => ⟨_, _, (fun _ _ hq => wpAny_pyIter_dict_raw lo hm hq), Walks.rawKeys hh _ d (let ⟨_, ho, _⟩ := hm; Nat.ne_of_lt (Heap.lt_size ho)) es ep, ⟨⟨_, Heap.get?_push_size _ rfl, rfl, rfl⟩, hm.at fun o e => Heap.get?_push_of_some _ e⟩⟩
section
variable {X : Cx} {fa : Lay} {pins : List (Addr × Obj)} {σ : L2.St} {Z : Ad} {H : Hp} {s : Shared} {x : V} {F : List Addr} {a : Mp.X} {ds : List D}
theorem coll_of (I : Inv X pins σ H s) (ha : RX (cf X fa) Z H a x F) (e : srtIn a = some ds) : ∃ (p : Addr) (vs : List V) (its : List Value), x = .ref p ∧ Vals vs its ∧ RDs (cf X fa) Z H ds vs ∧ its.length ≤ sizeLine ∧ Coll X.prog X.w s (.ref p) its := by
  have up : ∀ (its : List Value) b o, s.heap.get? b = some o → ((s.heap.push (seqObj "list" #[] 0)).update s.heap.objs.size (Obj.mapSeq (· ++ its.toArray))).get? b = some o := fun its b o e => by
    rw [Heap.get?_update_ne _ _ _ _ (Nat.ne_of_lt (Heap.lt_size e))]
    exact Heap.get?_push_of_some _ e
  have lst : isl a = some ds → ∃ (p : Addr) (vs : List V) (its : List Value), x = .ref p ∧ Vals vs its ∧ RDs (cf X fa) Z H ds vs ∧ its.length ≤ sizeLine ∧ Coll X.prog X.w s (.ref p) its := fun e => by
    obtain ⟨p, vs, hx, hq, hl⟩ := ha.isl e
    obtain ⟨its, rv, pl, hz⟩ := I.list hq.sq
    have hzz : its.length ≤ sizeLine := by have := rv.length; omega
    exact ⟨p, vs, its, hx, rv, hl, hzz, fun A Q E _ q => collect_list pl.isList (q _ s.toks (up its)) hzz⟩
  unfold srtIn at e
  split at e
  · cases e
    obtain ⟨p, vs, hx, hq, hl⟩ := ha.tup
    obtain ⟨its, rv, pl, hz⟩ := I.tuple hq
    have hzz : its.length ≤ sizeLine := by have := rv.length; omega
    exact ⟨p, vs, its, hx, rv, hl, hzz, fun A Q E _ q => collect_tup pl (q _ s.toks (up its)) hzz⟩
  · cases e; exact lst rfl
  · exact lst e
  · cases e
    cases ha with
    | @dic p es _ F1 hp dk hr =>
      obtain ⟨hsys, hl, o, ep, ho, hx, hd⟩ := dic_obj I hp
      obtain ⟨vs, hv, hk⟩ := hr.kvals
      refine ⟨p, vs, es.map (·.key), rfl, hk, hv, by simpa using hl, fun A Q E hh q => ?_⟩
      refine PySem.W.kdu_collect (mp_src (es := es.toArray) (ep := ep) hsys) hh ⟨o, ho, hx, hd⟩ (by simpa using hl) fun h' tk acc k hacc => ?_
      have e : acc.toList = es.map (·.key) := by
        obtain ⟨h1, h2⟩ := hacc
        apply List.ext_getElem?
        intro i
        by_cases hi : i < es.length
        · obtain ⟨hi', hv⟩ := h2 i _ (Array.getElem?_eq_getElem (by rw [h1]; simpa using hi))
          rw [Array.getElem?_toList, Array.getElem?_eq_getElem (by rw [h1]; simpa using hi), hv, List.getElem?_map, List.getElem?_eq_getElem hi]
          simp
        · rw [List.getElem?_eq_none (by rw [Array.length_toList, h1]; simpa using hi), List.getElem?_eq_none (by simpa using hi)]
      rw [e]
      exact q h' tk k
  · cases e
end
end Mp
set_option maxHeartbeats 1000000
/-! Sk3: sorted of a dict; sorted with a key. -/
namespace Mp
open PySem PySem.Spec PyProof.Rows L2 SrtO
open PySem.W (EachIs)
theorem soD_of {X : Cx} {fa : Lay} (hc : X.calm = true) (hu : X.A.units + 70 < cLine) : SoD X fa := by
  intro pins s σ H xs us Q I r hh
  obtain ⟨x, Z, l, F, r', rfl, ha, e0, q⟩ := hh
  have e : ((srtIn (.dic l)).bind fun ds => sortedK (ds.map fun a => (a, a))) = some r' := e0
  obtain ⟨ds, e1, e2⟩ := Option.bind_eq_some_iff.mp e
  obtain ⟨K, rfl⟩ := sortedK_some e2
  rw [sortKeyed_self] at q
  have K : ds.length < 2 ∨ SrtOk ds := by
    rcases K with K | K
    · exact .inl (by simpa using K)
    · refine .inr ?_
      have : (ds.map fun a => (a, a)).map (·.1) = ds := by rw [List.map_map]; exact List.map_id _
      rwa [this] at K
  obtain ⟨p, vs, its, rfl, rv, rd, hz, hcol⟩ := coll_of I ha e1
  obtain rfl := Vals.ref1 r
  refine Calls.call_function_entry kind_sorted plain_sorted entry_sorted (args_sorted1 _) ?_
  unfold Builtin.«sorted»
  refine wpAny_bind (m := checkCount "sorted" 1 1 _) (wpAny_pure ?_)
  refine wpAny_bind (hcol _ _ _ (show X.A.handled = none from I.ok.hd hc) fun h' tk k => ?_)
  refine wpAny_bind (wpAny_newList ?_ hz)
  have hoL : (h'.push (seqObj "list" its.toArray 0)).get? h'.objs.size = some (seqObj "list" its.toArray 0) := Heap.get?_push_size _ rfl
  have I1 : Inv X pins σ H { s with heap := h', toks := tk } := I.kept (t' := tk) k
  have keep : ∀ b o, h'.get? b = some o → b ≠ h'.objs.size ∧ (h'.push (seqObj "list" its.toArray 0)).get? b = some o := fun b o e => ⟨Nat.ne_of_lt (Heap.lt_size e), Heap.get?_push_of_some _ e⟩
  refine wpAny_bind (wpAny_holding (wpAny_call_entry slot_list_sort ⟨_, hoL, rfl⟩ entry_list_sort (list_sort_ord (swo_ltv h' ds) hoL hz (fun h2 => ?_) fun out h1 h2 => ⟨_, rfl, ?_⟩) (args_list_sort _)))
  · intro h₁ keep'
    obtain ⟨κ, c1, c2⟩ := sort_able I1 rv rd K hu h2 (h'.push (seqObj "list" its.toArray 0)) h'.objs.size keep h₁ keep'
    exact ⟨κ, c1, c2⟩
  · obtain ⟨vs', r1, r2⟩ := sort_rel I1 rv rd K h1 h2
    obtain ⟨ep, he'⟩ := sortedHeap_at (out := out.toArray) hoL
    have hlen : vs'.length ≤ sizeLine := by
      have := h2.perm.length_eq
      have := r1.length
      omega
    refine wpAny_pure ⟨_, rfl, .ref h'.objs.size, upd H h'.objs.size (.lst vs'), I1.laid (t' := tk) (fun b o e => ?_) (Nat.le_refl _) ⟨hlen, out, ep, r1, he'⟩, rfl, q.lst r2 (I1.hok.fresh (Nat.le_refl _))⟩
    have hb : b < h'.objs.size := Heap.lt_size e
    rw [sortedHeap_old (Nat.ne_of_lt hb) (by rw [size_push']; exact Nat.lt_succ_of_lt hb)]
    exact Heap.get?_push_of_some _ e
end Mp
set_option maxHeartbeats 1000000
set_option pp.maxSteps 60
set_option pp.deepTerms false
/-! Sk4: sorted with a key. -/
namespace Mp
open PySem PySem.Spec PyProof.Rows L2 SrtO
open PySem.W (EachIs)
section
variable {X : Cx} {fa : Lay} {pins : List (Addr × Obj)} {σ : L2.St} {Z : Ad} {H : Hp} {s : Shared}
/-- a key and an item, what they stand for -/
abbrev RK (c : Cf) (Z : Ad) (H : Hp) (h : Heap) (p : Keyed) (t : V × D × D) : Prop := (∃ as, Reads h p.1 t.2.1 as) ∧ RelV t.1 p.2 ∧ RD c Z H t.2.2 t.1
theorem eachK (I : Inv X pins σ H s) : ∀ {l : List (D × D)} {kA its : List Value} {ks vs : List V}, Vals ks kA → RDs (cf X fa) Z H (l.map (·.1)) ks → Vals vs its → RDs (cf X fa) Z H (l.map (·.2)) vs → EachIs (RK (cf X fa) Z H s.heap) (kA.zip its) (vs.zip l)
  | [], _, _, _, _, rk, .nil, rv, .nil => by
    cases rk
    exact .nil
  | (k, d) :: l, _, _, _, _, .cons rk1 rk, .cons hk1 hk, .cons rv1 rv, .cons hv1 hv => by
    obtain ⟨as, r⟩ := Dp.reads I k _ _ hk1.dp.1 rk1
    exact .cons ⟨⟨as, r⟩, rv1, hv1⟩ (eachK I rk hk rv hv)
theorem eachK_out {c : Cf} {h : Heap} : ∀ {ps : List Keyed} {ts : List (V × D × D)}, EachIs (RK c Z H h) ps ts → Vals (ts.map (·.1)) (ps.map (·.2)) ∧ RDs c Z H (ts.map (·.2.2)) (ts.map (·.1))
  | _, _, .nil => ⟨.nil, .nil⟩
  | _, _, .cons h t => ⟨.cons h.2.1 (eachK_out t).1, .cons h.2.2 (eachK_out t).2⟩
theorem sortK_rel (I : Inv X pins σ H s) {l : List (D × D)} {kA its : List Value} {ks vs : List V} (rk : Vals ks kA) (hk : RDs (cf X fa) Z H (l.map (·.1)) ks) (rv : Vals vs its) (hv : RDs (cf X fa) Z H (l.map (·.2)) vs) (K : l.length < 2 ∨ SrtOk (l.map (·.1))) {out : List Keyed}
    (h1 : Srtd (lt2 (ltv s.heap (l.map (·.1)))) out) (h2 : Stb (lt2 (ltv s.heap (l.map (·.1)))) out (kA.zip its)) : ∃ vs', Vals vs' (out.map (·.2)) ∧ RDs (cf X fa) Z H (sortKeyed l) vs' := by
  have l1 := hk.length
  have l2 := rk.length
  have l3 := hv.length
  have l4 := rv.length
  rw [List.length_map] at l1 l3
  have e := eachK I rk hk rv hv
  have lz : (kA.zip its).length = l.length := by rw [List.length_zip]; omega
  rcases K with K | K
  · rw [perm_short h2.perm (by omega)]
    obtain ⟨a, b⟩ := eachK_out e
    refine ⟨_, a, ?_⟩
    have : sortKeyed l = (vs.zip l).map (·.2.2) := by
      unfold sortKeyed
      rw [isort_short K]
      have z := (zip_snd (a := vs) (b := l) (by omega)).1
      rw [show (fun t : V × D × D => t.2.2) = (fun p : D × D => p.2) ∘ (fun t : V × D × D => t.2) from rfl, ← List.map_map, z]
    rw [this]
    exact b
  · rw [isort_of (swo2 (swo_ltv _ _)) h1 h2]
    have e' := isort_rel (lt := lt2 (ltv s.heap (l.map (·.1)))) (mt := fun p q : V × D × D => ltB p.2.1 q.2.1) e fun x y x' y' r r' m m' => by
      have hm : y.2.1 ∈ l.map (·.1) := List.mem_map.mpr ⟨y.2, (List.of_mem_zip m).2, rfl⟩
      have hm' : y'.2.1 ∈ l.map (·.1) := List.mem_map.mpr ⟨y'.2, (List.of_mem_zip m').2, rfl⟩
      obtain ⟨as, q⟩ := r.1
      obtain ⟨as', q'⟩ := r'.1
      show ltv s.heap (l.map (·.1)) x.1 x'.1 = _
      unfold ltv
      rw [dec_eq hm q, dec_eq hm' q', (K.lt hm hm').2]
    obtain ⟨a, b⟩ := eachK_out e'
    refine ⟨_, a, ?_⟩
    have : sortKeyed l = (isort (fun p q : V × D × D => ltB p.2.1 q.2.1) (vs.zip l)).map (·.2.2) := by
      unfold sortKeyed
      have z := (zip_snd (a := vs) (b := l) (by omega)).1
      rw [show (fun t : V × D × D => t.2.2) = (fun p : D × D => p.2) ∘ (fun t : V × D × D => t.2) from rfl, ← List.map_map, isort_map (lt := fun p q : D × D => ltB p.1 q.1) (fun t : V × D × D => t.2), z]
    rw [this]
    exact b
/-- what is asked of sorted(x, key=f): c1 the calls of f -/
def rSrtK (X : Cx) (fa : Lay) (c1 : V → Hp → VK → Prop) : List V → List V → Hp → VK → Prop := fun vs zs H Q => ∃ (x : V) (q : Addr) (Z : Ad) (a : Mp.X) (F : List Addr) (ds : List D), vs = [x] ∧ zs = [.ref q] ∧ RX (cf X fa) Z H a x F ∧ srtIn a = some ds ∧ (∀ σ, Call1 X X.A.in1.in1 σ (.ref q) c1) ∧
  ∀ items, RDs (cf X fa) Z H ds items → tKeys c1 items H fun ks H1 => ∃ (Z1 : Ad) (l : List (D × D)), RDs (cf X fa) Z1 H1 ds items ∧ RDs (cf X fa) Z1 H1 (l.map (·.1)) ks ∧ l.map (·.2) = ds ∧ ∃ r, sortedK l = some r ∧ ResOk (cf X fa) Z1 H1 r Q
theorem c_sortK {c1 : V → Hp → VK → Prop} (hc : X.calm = true) (hu : X.A.units + 70 < cLine) : CallRK X (.builtin "sorted") [Str.ofString "key"] (rSrtK X fa c1) := by
  intro pins s σ H xs zs us ws Q I r rz hh
  obtain ⟨x, qf, Z, a, F, ds, rfl, rfl, ha, e1, hcall, ht⟩ := hh
  obtain ⟨p, vs, its, rfl, rv, rd, hz, hcol⟩ := coll_of I ha e1
  obtain rfl := Vals.ref1 r
  obtain rfl := Vals.ref1 rz
  show wpAny (model X.prog X.w) X.A (PySem.call (.builtin "sorted") [.ref p] [(Str.ofString "key", .ref qf)]) _ _ s
  refine call_function_entry_kw kind_sorted plain_sorted entry_sorted (ksk_s1 _ _) ?_
  unfold Builtin.«sorted»
  refine wpAny_bind (m := checkCount "sorted" 1 1 _) (wpAny_pure ?_)
  refine wpAny_bind (hcol _ _ _ (show X.A.handled = none from I.ok.hd hc) fun h' tk k => ?_)
  refine wpAny_bind (wpAny_newList ?_ hz)
  have I1 : Inv X pins σ H { s with heap := h', toks := tk } := I.kept (t' := tk) k
  generalize hD : h'.objs.size = D
  have hoL : (h'.push (seqObj "list" its.toArray 0)).get? D = some (seqObj "list" its.toArray 0) := by rw [← hD]; exact Heap.get?_push_size _ rfl
  have nD : H D = none := I1.hok.fresh (Nat.le_of_eq hD)
  have gD : ∀ H' : Hp, H' D = none → FpOk X pins H' D := fun H' hn => I1.fpOk (Nat.le_of_eq hD) hn
  have I2 : Inv X pins σ H { s with heap := h'.push (seqObj "list" its.toArray 0), toks := tk } := I1.kept (t' := tk) fun b o e => Heap.get?_push_of_some _ e
  refine wpAny_bind (wpAny_holding (wpAny_call_entry_kw slot_list_sort ⟨_, hoL, rfl⟩ entry_list_sort ?_ (ksk_l1 _ _)))
  rw [ksk_t1]
  unfold ksk_tree
  refine wpAny_bind (listItems_at hoL rfl ?_)
  refine wpAny_bind (listUpdate_at hoL rfl ?_ (by rw [List.size_toArray]; exact hz) (Nat.zero_le _))
  have sb := Heap.SameBut.update (h'.push (seqObj "list" its.toArray 0)) D (Obj.mapSeq fun _ => (#[] : Array Value))
  obtain ⟨ep, ho1⟩ : ∃ ep, ((h'.push (seqObj "list" its.toArray 0)).update D (Obj.mapSeq fun _ => (#[] : Array Value))).get? D = some (seqObj "list" #[] ep) := ⟨_, get?_update_seq hoL fun _ => #[]⟩
  refine wpAny_bind (seqEpoch_at ho1 rfl ?_)
  refine wpAny_bind (wpAny_newTuple ?_ (by show its.length ≤ _; exact hz))
  refine wpAny_bind (wpAny_newList ?_ (Nat.zero_le _))
  refine wpAny_holding ?_
  obtain ⟨g0, g1, g2, g3, g4, g5⟩ := gD H nD
  have I3 : Inv X pins σ H { s with heap := (h'.push (seqObj "list" its.toArray 0)).update D (Obj.mapSeq fun _ => (#[] : Array Value)), toks := tk } := I2.turned (t' := tk) (fun b o hb e => (sb.2 b hb).trans e) g0 g1 g3 g4 g5
  generalize hh3 : (h'.push (seqObj "list" its.toArray 0)).update D (Obj.mapSeq fun _ => (#[] : Array Value)) = h3 at I3 ho1 ⊢
  have I4 : Inv X pins σ H { s with heap := h3.push (seqObj "tuple" its.toArray 0), toks := tk } := I3.kept (t' := tk) fun b o e => Heap.get?_push_of_some _ e
  have ho2 : (h3.push (seqObj "tuple" its.toArray 0)).get? D = some (seqObj "list" #[] ep) := Heap.get?_push_of_some _ ho1
  have hkS : ((h3.push (seqObj "tuple" its.toArray 0)).push (seqObj "list" #[] 0)).get? (h3.push (seqObj "tuple" its.toArray 0)).objs.size = some (seqObj "list" #[] 0) := Heap.get?_push_size _ rfl
  have nK : H (h3.push (seqObj "tuple" its.toArray 0)).objs.size = none := I4.hok.fresh (Nat.le_refl _)
  have t2 : Two X pins D (h3.push (seqObj "tuple" its.toArray 0)).objs.size := ⟨gD, fun H' hn => I4.fpOk (Nat.le_refl _) hn, Nat.ne_of_gt (Heap.lt_size ho2)⟩
  have I5 : Inv X pins σ H { s with heap := (h3.push (seqObj "tuple" its.toArray 0)).push (seqObj "list" #[] 0), toks := tk } := I4.kept (t' := tk) fun b o e => Heap.get?_push_of_some _ e
  have I6 := t2.pin (ok := seqObj "list" #[] 0) (oa := seqObj "list" #[] ep) I5 hkS (Heap.get?_push_of_some _ ho2) nK nD seq_nocell seq_nocell
  refine mp_key_rest (s := { s with heap := (h3.push (seqObj "tuple" its.toArray 0)).push (seqObj "list" #[] 0), toks := tk }) t2 (hcall σ) I6 rv hz (ht vs rd) fun H1 s1 ks kA e I7 rk fin hlen => ?_
  · obtain ⟨Z1, l, rd1, rk1, rfl, rr, es, qres⟩ := fin
    obtain ⟨hk7, ha7, nk7, na7, I8⟩ := Two.unpin I7
    obtain ⟨K, rfl⟩ := sortedK_some es
    have hl1 := rk1.length
    have hl2 := rk.length
    have hl3 := rv.length
    have hl4 := rd1.length
    rw [List.length_map] at hl1 hl4
    have hkA : kA.size = its.length := by rw [← Array.length_toList]; omega
    refine mp_key_end (swo_ltv s1.heap (l.map (·.1))) hk7 ha7 t2.ne hkA hz (fun h2 => ?_) fun out hm h'' c o1 o2 g1' g2' g3' => ?_
    · have K : SrtOk (l.map (·.1)) := K.resolve_left (by omega)
      have e3 := each3 I8 rk rk1
      have ek := each3_keys (h' := s1.heap) (fun _ _ e => e) e3
      rw [(zip_snd rk1.length.symm).1] at ek
      have kk : ∀ v ∈ kA.toList, ∃ d ∈ l.map (·.1), (∃ as, Reads s1.heap v d as ∧ d.canLay0 = true) ∧ dec s1.heap (l.map (·.1)) v = d := fun v hv => by
        obtain ⟨p, hp, r⟩ := each_left e3 v hv
        obtain ⟨as, q, l'⟩ := r.2.2
        have hm : p.2 ∈ l.map (·.1) := (List.of_mem_zip hp).2
        exact ⟨p.2, hm, ⟨as, q, l'⟩, dec_eq hm q⟩
      obtain ⟨κ, b1, b2⟩ := cmp_keys (prog := X.prog) (w := X.w) (A := X.A.in1.in1) (s := s1) (h0 := s1.heap) K ek kk (by show X.A.units + 1 + 1 + 64 < _; omega) (by rw [Array.length_toList]; omega)
      rw [Array.toArray_toList] at b1
      exact ⟨κ, fun Q E q => b1 Q E q, fun p q hp hq => b2 p.1 hp q.1 hq _ _ ⟨rfl, rfl⟩⟩
    · obtain ⟨vs', r1, r2⟩ := sortK_rel I8 rk rk1 rv rd1 K o1 o2
      obtain ⟨k0, k1, k2, k3, k4, k5⟩ := t2.gk H1 nk7
      have I9 : Inv X pins σ H1 { s1 with heap := hm } := I8.turned (t' := s1.toks) (fun b o hb e => (g2'.2 b hb).trans e) k0 k1 k3 k4 k5
      have hlen : vs'.length ≤ sizeLine := by
        have h6 : out.length = its.length := by rw [o2.perm.length_eq, List.length_zip, Array.length_toList, hkA, Nat.min_self]
        have h5 := r1.length
        rw [List.length_map] at h5
        omega
      have I10 := I9.take (t' := s1.toks) (h' := h'') (it := D) (o := .lst vs') (fun b o hb e => (g3'.2 b hb).trans e) (t2.ga H1 na7) ⟨hlen, out.map (·.2), c, r1, g1'⟩
      refine ⟨_, rfl, wpAny_pure ⟨_, rfl, ?_⟩⟩
      exact ⟨.ref D, _, I10, rfl, qres.lst r2 na7⟩
end
end Mp
set_option maxHeartbeats 1000000
/-! Snd8: defs. -/
namespace Mp
open PySem PySem.Spec PyProof.Rows L2
/-- room for calls, for calls by sorted, for lambdas' bodies -/
structure RoomX (k : Nat) (A : Around) : Prop where
  r : Room k A
  i : Room k A.in1.in1
  l : ∀ env, Room k (A.in1.in1.deeper env)
theorem roomX_of {k : Nat} {A : Around} (r : Room (k + 1) A) (env : Env) : RoomX k (A.deeper env) := by
  have h1 := r.dp
  have h2 := r.un
  refine ⟨r.deeper env, ⟨r.hd, ?_, ?_⟩, fun env' => ⟨r.hd, ?_, ?_⟩⟩
  · show A.depth + 1 + 3 * k + 5 < _; omega
  · show A.units + 3 + 1 + 1 + 16 * k + 200 < _; omega
  · show A.depth + 1 + 1 + 3 * k + 5 < _; omega
  · show A.units + 3 + 1 + 1 + 3 + 16 * k + 200 < _; omega
section
variable {P : Program} {w : World} {K : PySem.W.Frag} {mg : Str → Option Value} {base : Heap} {k : Nat} {f : Addr} {fd : FuncData} {x qual : Str} {params : Arguments} {body : List Stmt} {scope : Scope} {N ps : List Str} {sp : Sp} {dvs : List V} {kws : List (Str × V)}
/-- a def of the text, by its body -/
theorem fnG_ofX (F : FunD K x qual params body scope dvs kws f fd) (S : FnScope N ps scope) (len : ∀ vs H Q E, sp vs H Q E → vs.length = ps.length)
    (hbody : ∀ (cdv : Value) (_ : ∀ q, f = He.fAd K q → cdv = .ref (He.codeOf K q)) (A : Around) (outer : List Env) (s : Shared) (H : Hp) (vs : List V) (Q : VK) (E : XK), RoomX k (A.deeper (envOfC qual scope s.heap.objs.size f cdv)) → A.guards = some [] → sp vs H Q E →
      ∃ t, PSs (cxOf (CX P w) P w K mg base N qual scope f cdv A outer s H E) body t ∧ t { nx := fun _ H' => Q .non H', rt := Q } (start N vs) H) : FnG P w K mg base (k + 1) f fd ps sp := by
  obtain ⟨oc, od, dV, kV, doc, pm, an, cdv, ct, osl, rfl, lk, hcd, _, _⟩ := F.ex
  refine ⟨len, fun A outer s H args us vs Q E hr hg e0 hb r hsp => ?_⟩
  have hl := len _ _ _ _ hsp
  have KX : K.In s.heap := e0.mod.kin.keeps fun b o e => (e0.bs b o e).1
  have lim : s.heap.NoLimit := e0.mod.nolimit.keeps fun b o e => (e0.bs b o e).1
  have hkind : ∀ y ∈ ps.zip us, scope.names.lookup y.1 = some .local ∨ (scope.names.lookup y.1 = some .cell ∧ ((cellsFrom (s.heap.objs.size + 1) scope.names []).lookup y.1).isSome = true) := fun ⟨n, v⟩ hy => by
    rcases S.par n (List.of_mem_zip hy).1 with q | q
    · exact .inl q
    · exact .inr ⟨q, PySem.W.cellsFrom_some _ _ _ (.inl q)⟩
  refine codeAny_call_function hr.depth (KX _ _ lk) rfl S.co S.gen rfl (PySem.W.codeRec_of KX hcd) (hb _ _ _ _ ?_)
  refine wpAny_newFunctionEnv_cells S.kind hkind fun env he s1 x => ?_
  subst he
  refine ⟨lim.keeps x.toInCall.keep, codeAny_func ?_⟩
  obtain ⟨cc, hcc⟩ := He.codeIn_ref hcd
  obtain ⟨t, ht, hq⟩ := hbody cdv (fun q e => by subst e; rw [hcc, He.codeOf_eq lk hcc]) A outer s H vs Q E (roomX_of hr _) hg hsp
  have I : Inv (cxOf (CX P w) P w K mg base N qual scope f cdv A outer s H E) [] (start N vs) H s1 := inv_start S hr.hd e0 hl r x
  refine wpAny_mono (ht.run [] s1 (start N vs) H _ I hq) (fun fl s' hs => ?_) fun e s' hs => hs
  have fin : ∀ {σ' : L2.St} {H' : Hp} {v : V} {u : Value}, Inv (cxOf (CX P w) P w K mg base N qual scope f cdv A outer s H E) [] σ' H' s' → RelV v u → Q v H' → CE outer P w H s Q u s' :=
    fun {σ' H' v u} J rv q => ⟨v, H', J.os, J.bare, J.base, J.hok, rv, q⟩
  cases fl with
  | ret u =>
    obtain ⟨v, σ', H', J, rv, q⟩ := hs
    exact fin J rv q
  | next =>
    obtain ⟨σ', H', J, q⟩ := hs
    exact fin (v := V.non) (u := Value.none) J rfl q
  | brk =>
    obtain ⟨_, _, _, q⟩ := hs
    exact False.elim q
  | cont =>
    obtain ⟨_, _, _, q⟩ := hs
    exact False.elim q
end
theorem putBack_src : ∀ {is : List Nat} {xs : List X} {s : S} {i : Nat} {x : X}, (putBack is xs s)[i]? = some (some x) → s[i]? = some (some x) ∨ ∃ k : Nat, is[k]? = some i ∧ xs[k]? = some x
  | [], _, _, _, _, h => .inl h
  | _ :: _, [], _, _, _, h => .inl h
  | j :: is, y :: xs, s, i, x, h => by
    rcases putBack_src (is := is) (xs := xs) (s := s.set j (some y)) h with h | ⟨k, h1, h2⟩
    · by_cases e : j = i
      · subst e
        by_cases hl : j < s.length
        · rw [List.getElem?_set_self hl] at h; cases h
          exact .inr ⟨0, rfl, rfl⟩
        · rw [List.getElem?_eq_none (by simpa using hl)] at h; cases h
      · rw [List.getElem?_set_ne e] at h; exact .inl h
    · exact .inr ⟨k + 1, by simpa using h1, by simpa using h2⟩
theorem muOut_some : ∀ {mu : List Nat} {s : S} {ms : List X}, muOut mu s = some ms → ms.length = mu.length ∧ ∀ (k j : Nat) (x : X), mu[k]? = some j → ms[k]? = some x → s[j]? = some (some x)
  | [], s, ms, h => by
    have : ms = [] := by simpa [muOut] using h.symm
    subst this
    exact ⟨rfl, fun k j x h => by simp at h⟩
  | j :: mu, s, ms, h => by
    have h : ((s[j]?.bind id).bind fun x => (muOut mu s).bind fun r => some (x :: r)) = some ms := by
      have : muOut (j :: mu) s = ((s[j]?.bind id).bind fun x => (muOut mu s).bind fun r => some (x :: r)) := by
        unfold muOut
        rw [List.mapM_cons]
        rfl
      rw [← this]; exact h
    obtain ⟨x, h1, h2⟩ := Option.bind_eq_some_iff.mp h
    obtain ⟨r, h3, h4⟩ := Option.bind_eq_some_iff.mp h2
    cases h4
    obtain ⟨l, q⟩ := muOut_some h3
    refine ⟨by simp [l], fun k j' y e1 e2 => ?_⟩
    cases k with
    | zero =>
      simp at e1 e2
      subst e1 e2
      obtain ⟨o, e3, e4⟩ := Option.bind_eq_some_iff.mp h1
      have e4 : o = some x := e4
      subst e4
      exact e3
    | succ k => exact q k j' y (by simpa using e1) (by simpa using e2)
section
variable {c : Cf} {Z Z' : Ad} {H H' : Hp} {f : Fp} {σ : L2.St}
/-- the slots at the entry -/
theorem Rel.start {xs : List X} {vs : List V} {N : List Str} {m : Nat} (r : Rel c Z H (xs.map some) (vs.map some) f) (hm : m = N.length - vs.length) : Rel c Z H (xs.map some ++ List.replicate m none) (L2.start N vs) f where
  len := by
    have := r.len
    unfold L2.start
    rw [List.length_append, List.length_append, List.length_replicate, List.length_replicate, this, hm]
  at_ := fun i x e => by
    unfold L2.start
    have hl := r.len
    by_cases h : i < xs.length
    · rw [List.getElem?_append_left (by simpa using h)] at e
      obtain ⟨v, e1, e2⟩ := r.at_ i x e
      exact ⟨v, by rw [List.getElem?_append_left (by rw [← hl]; simpa using h)]; exact e1, e2⟩
    · rw [List.getElem?_append_right (by simpa using h), List.getElem?_replicate] at e
      split at e <;> cases e
  nd := r.nd
  dj := r.dj
  nz := r.nz
  ow := r.ow
  zo := r.zo
  tb := r.tb
/-- what is handed back -/
theorem Rel.backs {mu : List Nat} {ms : List X} {s' : S} {σ' : L2.St} {vs : List V} {N : List Str} {f' : Fp} (r : Rel c Z' H' s' σ' f') (hm : muOut mu s' = some ms) (hs : Same mu (L2.start N vs) σ') (hl : ∀ j ∈ mu, j < vs.length) :
    Rel c Z' H' (putBack mu ms (List.replicate vs.length none)) (vs.map some) f' where
  len := by rw [putBack_len, List.length_replicate, List.length_map]
  at_ := fun i x e => by
    rcases putBack_src e with e | ⟨k, h1, h2⟩
    · rw [List.getElem?_replicate] at e
      split at e <;> cases e
    · have h3 := (muOut_some hm).2 k i x h1 h2
      obtain ⟨v, e1, e2⟩ := r.at_ i x h3
      have hi := List.mem_of_getElem? h1
      rw [hs i hi] at e1
      unfold L2.start at e1
      rw [List.getElem?_append_left (by simpa using hl i hi)] at e1
      exact ⟨v, e1, e2⟩
  nd := r.nd
  dj := r.dj
  nz := r.nz
  ow := r.ow
  zo := r.zo
  tb := r.tb
end
/-- the defs of a text: their bodies, parameters, addresses -/
def muF (F : Nat → Option Fd) (f : Nat) : List Nat := (F f).elim [] Fd.mu
def arF (F : Nat → Option Fd) (f : Nat) : Nat := (F f).elim 0 Fd.ps
section
variable {P : Program} {w : World} {K : PySem.W.Frag} {mg : Str → Option Value} {base : Heap} {L : Lay} {F : Nat → Option Fd} {G : List D} {k f : Nat} {fd : Fd}
abbrev cfL (K : PySem.W.Frag) (w : World) (L : Lay) : Cf := ⟨K, w, L⟩
/-- where a def's body stands -/
noncomputable abbrev atB (P : Program) (w : World) (K : PySem.W.Frag) (mg : Str → Option Value) (base : Heap) (L : Lay) (F : Nat → Option Fd) (G : List D) (k : Nat) (N : List Str) (qual : Str) (scope : Scope) (fa : Addr) (cdv : Value) (mu : List Nat) (A : Around) (outer : List Env) (s : Shared) (H : Hp) (E : XK) : At :=
  { X := cxOf (CX P w) P w K mg base N qual scope fa cdv A outer s H E, fa := L, C := call F G k, G := G, W := fun cls d _ H => E cls d H, mu := mu }
theorem def_okG {x qual : Str} {params : Arguments} {body : List Stmt} {scope : Scope} {N ps : List Str} {fdm : FuncData} (hF : F f = some fd) (FD : FunD K x qual params body scope [] [] (L.fa f) fdm) (hb : Binds K fdm ps []) (S : FnScope N ps scope) (hps : ps.length = fd.ps) (hns : N.length = fd.ns) (hmu : ∀ j ∈ fd.mu, j < fd.ps)
    (hbody : ∀ (cdv : Value) (_ : ∀ q, L.fa f = He.fAd K q → cdv = .ref (He.codeOf K q)) (A : Around) (outer : List Env) (s : Shared) (H : Hp) (E : XK), RoomX k (A.deeper (envOfC qual scope s.heap.objs.size (L.fa f) cdv)) → A.guards = some [] → SSs (atB P w K mg base L F G k N qual scope (L.fa f) cdv fd.mu A outer s H E) fd.body body) :
    FnG P w K mg base (k + 1) (L.fa f) fdm ps (spF (cfL K w L) (muF F f) (call F G (k + 1)) f (arF F f)) := by
  have em : muF F f = fd.mu := by unfold muF; rw [hF]; rfl
  have ea : arF F f = fd.ps := by unfold arF; rw [hF]; rfl
  rw [em, ea]
  refine fnG_ofX FD S (fun vs H Q E q => by rw [hps]; exact q.1) fun cdv hco A outer s H vs Q E hr hg q => ?_
  refine ⟨_, hbody cdv hco A outer s H E hr hg, ?_⟩
  obtain ⟨hlen, Z, xs, f0, r, o⟩ := q
  have hx : xs.length = fd.ps := by have := r.len; rw [List.length_map, List.length_map] at this; rw [this, hlen]
  have r0 := r.start (N := N) (m := fd.ns - fd.ps) (by rw [hns, hlen])
  refine ⟨Z, _, f0, r0, ?_⟩
  rw [call_eq k xs hF hx] at o
  have bk : ∀ {s' : List (Option X)} {σ' : L2.St} {Z' : Ad} {H' : Hp} {f' : Fp} {ms : List X}, Rel (cfL K w L) Z' H' s' σ' f' → muOut fd.mu s' = some ms → Same fd.mu (L2.start N vs) σ' → Rel (cfL K w L) Z' H' (putBack fd.mu ms (List.replicate vs.length none)) (vs.map some) f' :=
    fun r h1 h2 => r.backs h1 h2 fun j hj => by rw [hlen]; exact hmu j hj
  show postS (cfL K w L) _ fd.mu _ Z H f0 (exs (call F G k) G fd.body (xs.map some ++ List.replicate (fd.ns - fd.ps) none)) _
  generalize exs (call F G k) G fd.body (xs.map some ++ List.replicate (fd.ns - fd.ps) none) = fl at o
  cases fl with
  | nx s' =>
    have o : outP (cfL K w L) fd.mu Z H f0 vs (outM (muOut fd.mu s') (Out.ok (.d .none))) Q E := o
    cases q : muOut fd.mu s' with
    | none => rw [q] at o; exact o.elim
    | some ms =>
      rw [q] at o
      exact fun σ' Z' H' f' r' a' b' => o (muOut_some q).1 .non Z' H' [] f' (bk r' q b') a' (Tmp.d .none) From.nil
  | rt x s' =>
    have o : outP (cfL K w L) fd.mu Z H f0 vs (outM (muOut fd.mu s') (Out.ok x)) Q E := o
    cases q : muOut fd.mu s' with
    | none => rw [q] at o; exact o.elim
    | some ms =>
      rw [q] at o
      exact fun v σ' Z' H' f' F' r' a' b' t fr => o (muOut_some q).1 v Z' H' F' f' (bk r' q b') a' t fr
  | exc e s' =>
    have o : outP (cfL K w L) fd.mu Z H f0 vs (outM (muOut fd.mu s') (Out.exc e)) Q E := o
    cases q : muOut fd.mu s' with
    | none => rw [q] at o; exact o.elim
    | some ms =>
      rw [q] at o
      exact fun σ' Z' H' f' d r' a' b' hx => o (muOut_some q).1 d Z' H' f' (bk r' q b') a' hx
  | bk s' => exact o.elim
  | ct s' => exact o.elim
  | stuck => exact o.elim
theorem def_ok {x qual : Str} {params : Arguments} {body : List Stmt} {scope : Scope} {N ps : List Str} {fdm : FuncData} (hF : F f = some fd) (FD : FunD K x qual params body scope [] [] (L.fa f) fdm) (hb : Binds K fdm ps []) (S : FnScope N ps scope) (hps : ps.length = fd.ps) (hns : N.length = fd.ns) (hmu : ∀ j ∈ fd.mu, j < fd.ps)
    (hbody : ∀ (cdv : Value) (_ : ∀ q, L.fa f = He.fAd K q → cdv = .ref (He.codeOf K q)) (A : Around) (outer : List Env) (s : Shared) (H : Hp) (E : XK), RoomX k (A.deeper (envOfC qual scope s.heap.objs.size (L.fa f) cdv)) → A.guards = some [] → SSs (atB P w K mg base L F G k N qual scope (L.fa f) cdv fd.mu A outer s H E) fd.body body) :
    FnAt P w K mg base (k + 1) (L.fa f) (spF (cfL K w L) (muF F f) (call F G (k + 1)) f (arF F f)) := ⟨fdm, ps, def_okG hF FD hb S hps hns hmu hbody, FD.kp, hb⟩
/-- no call at all -/
theorem def_0 {x qual : Str} {params : Arguments} {body : List Stmt} {scope : Scope} {ps : List Str} {fdm : FuncData} (FD : FunD K x qual params body scope [] [] (L.fa f) fdm) (hb : Binds K fdm ps []) (hps : ps.length = arF F f) :
    FnAt P w K mg base 0 (L.fa f) (spF (cfL K w L) (muF F f) (call F G 0) f (arF F f)) :=
  ⟨fdm, ps, ⟨fun vs H Q E q => by rw [hps]; exact q.1, fun A outer s H args us vs Q E hr hg e0 hb r q => by
    obtain ⟨_, Z, xs, f0, _, o⟩ := q
    exact False.elim o⟩, FD.kp, hb⟩
theorem call_ar : ∀ (k : Nat) (f : Nat) (xs : List X), call F G k f xs ≠ .stuck → xs.length = arF F f
  | 0, _, _, h => absurd rfl h
  | k + 1, f, xs, h => by
    unfold call at h
    cases q : F f with
    | none => rw [q] at h; exact absurd rfl h
    | some fd =>
      rw [q] at h
      unfold arF
      rw [q]
      by_cases hl : xs.length = fd.ps
      · exact hl
      · exact absurd (if_neg hl) h
end
end Mp
set_option maxHeartbeats 1000000
/-! Sk5: sorted(x, key=f), f a def of the text. -/
namespace Mp
open PySem PySem.Spec PyProof.Rows L2 SrtO
theorem CX_no' {P : Program} {w : World} {o : List Env} {H : Hp} {s : Shared} {e : Value} {s' : Shared} (h : L2.CX P w o H s (fun _ _ _ => False) e s') : False := by
  obtain ⟨_, _, _, _, _, _, _, _, _, _, _, _, z⟩ := h
  exact z
section
variable {X : Cx} {k : Nat} {f : Addr} {sp : Sp} {A : Around}
theorem call1_def (D : FnAt X.prog X.w X.K X.mg X.base k f sp) (hr : Room k A) (hg : A.guards = some []) (hf : A.frames = X.A.frames) (σ : L2.St) : Call1 X A σ (.ref f) (fun v H Q => sp [v] H Q fun _ _ _ => False) := by
  obtain ⟨fd, ps, F, hk, hb⟩ := D.ex
  intro pins s H v u Q I r h
  have hl : ([u] ++ []).length = ps.length := by rw [List.append_nil]; exact F.len _ _ _ _ h
  have hb' := hb s [u] I.kIn hl
  rw [List.append_nil] at hb'
  have e0 := I.env0
  refine wpAny_call (codeAny_mono (F.run A X.stack s H ⟨[u], []⟩ [u] [v] Q _ hr hg ⟨hf.trans e0.frames, e0.mod, e0.bs, e0.bsz, e0.funs, e0.frf, e0.hok, e0.bare⟩ hb' (.cons r .nil) h) fun r s' hq => ?_)
  cases r with
  | error e => exact CX_no' hq
  | ok fl =>
    cases fl with
    | ret u => exact I.after hq
    | next => exact False.elim hq
    | brk => exact False.elim hq
    | cont => exact False.elim hq
end
section
variable {c : Cf} {Z Z' : Ad} {H H' : Hp} {f g : Fp} {s : S} {σ : L2.St}
/-- behind a call that was given data alone -/
theorem Rel.past {ss : S} {σ' : L2.St} (r : Rel c Z H s σ f) (a : Fr Z H (fun _ => []) Z' H' g) (r' : Rel c Z' H' ss σ' g) : Rel c Z' H' s σ f ∧ Fr Z H f Z' H' f := by
  have k : ∀ b o, H b = some o → nt o = true → H' b = some o := fun b o e ht => a.keep b o e ht fun ⟨_, z⟩ => nomatch z
  have zn : ∀ b, H b ≠ none → Z' b → Z b := fun b hb z => by
    rcases a.znew b z with z | ⟨_, z⟩ | z
    · exact z
    · cases z
    · exact absurd z hb
  have kp : Kp Z H Z' H' := ⟨fun b o e ht _ => k b o e ht, a.zz⟩
  refine ⟨⟨r.len, fun i x e => let ⟨v, e1, e2⟩ := r.at_ i x e; ⟨v, e1, e2.kp kp fun b hb o e => k b o e (own_at (e2.own b hb) e)⟩, r.nd, r.dj, fun i b hb z => ?_, fun i b hb => let ⟨o, e, h⟩ := r.ow i b hb; ⟨o, k b o e (own_nt h), h⟩, r'.zo, r'.tb⟩, ⟨fun b o e ht _ => k b o e ht, a.zz, fun b z => ?_, fun b z => .inl z, a.live, a.tb⟩⟩
  · obtain ⟨o, e, _⟩ := r.ow i b hb
    exact r.nz i b hb (zn b (by rw [e]; exact fun z => nomatch z) z)
  · rcases a.znew b z with z | ⟨_, z⟩ | z
    · exact .inl z
    · cases z
    · exact .inr (.inr z)
theorem Rel.one {d : D} {v : V} (h : RD c Z H d v) (r : Rel c Z H s σ f) : Rel c Z H ([X.d d].map some) ([v].map some) (fun _ => []) where
  len := rfl
  at_ := fun i x e => by
    match i with
    | 0 => cases e; exact ⟨v, rfl, .d h⟩
    | i + 1 => simp at e
  nd := fun _ => List.nodup_nil
  dj := fun _ _ _ _ h => nomatch h
  nz := fun _ _ h => nomatch h
  ow := fun _ _ h => nomatch h
  zo := r.zo
  tb := r.tb
theorem keys_run {C : Calls} {fn : Nat} {items : List V} : ∀ {ds : List D} {l : List (D × D)} {Z : Ad} {H : Hp} {items : List V} {Fi : List V → Hp → Prop}, keyC C fn ds = some l → Rel c Z H s σ f → RDs c Z H ds items →
    (∀ Z' H' ks, Rel c Z' H' s σ f → Fr Z H f Z' H' f → l.map (·.2) = ds → RDs c Z' H' ds items → RDs c Z' H' (l.map (·.1)) ks → Fi ks H') → tKeys (fun v H Q => spF c [] C fn 1 [v] H Q fun _ _ _ => False) items H Fi
  | [], l, Z, H, _, Fi, e, r, .nil, q => by
    cases e
    exact q Z H [] r Fr.refl rfl .nil .nil
  | d :: ds, l, Z, H, _, Fi, e, r, .cons (v := v) (vs := vs) h1 h2, q => by
    have e : (match C fn [.d d] with
      | .ok y _ => (dat? y).bind fun k => (keyC C fn ds).map ((k, d) :: ·)
      | _ => none) = some l := e
    refine ⟨rfl, Z, [.d d], fun _ => [], Rel.one h1 r, ?_⟩
    cases qc : C fn [.d d] with
    | stuck => rw [qc] at e; cases e
    | exc _ _ => rw [qc] at e; cases e
    | ok y ms =>
      rw [qc] at e
      obtain ⟨k, e1, e2⟩ := Option.bind_eq_some_iff.mp e
      obtain ⟨l', e3, rfl⟩ := Option.map_eq_some_iff.mp e2
      intro hm kv Z1 H1 F g rg ag t fr
      obtain ⟨r1, a1⟩ := r.past ag rg
      have nF : ∀ b ∈ F, H b = none := fun b hb => (fr b hb).elim (fun ⟨_, z⟩ => nomatch z) id
      have r2 := r1.give (F := F) (fun b hb ⟨i, hi⟩ => by
        obtain ⟨o, e, _⟩ := r.ow i b hi
        rw [nF b hb] at e; cases e) fun b hb z => by
        obtain ⟨o, e, _⟩ := t.rx.own b hb
        rw [z] at e; cases e
      have a2 : Fr Z H f (fun b => Z1 b ∨ b ∈ F) H1 f := a1.frz fun b hb => .inr (nF b hb)
      have hk : RD c (fun b => Z1 b ∨ b ∈ F) H1 k kv := t.rx.frz ⟨fun _ _ e _ _ => e, fun _ z => .inl z⟩ e1 fun b hb => .inr hb
      have kp := a2.kp r
      exact keys_run (items := items) e3 r2 (h2.kp kp) fun Z' H' ks r3 a3 el rd rk => q Z' H' (kv :: ks) r3 (a2.trans a3) (by simp [el]) (.cons (h1.kp ⟨fun b o e ht h => (a3.kp r2).keep b o (kp.keep b o e ht h) ht (h.imp id fun z => kp.zz b z), fun b z => (a3.kp r2).zz b (kp.zz b z)⟩) rd) (.cons (hk.kp (a3.kp r2)) rk)
end
section
variable {T : At} {e : E} {a : Expr} {pos p fp kp : Pos} {fx : Str} {f k : Nat} {mu : Nat → List Nat} {ar : Nat → Nat}
theorem bt_sorted' : bootBuiltins "sorted" = some (.builtin "sorted") := by decide +kernel
theorem se_srtf (hc : T.X.calm = true) (D : FnAt T.X.prog T.X.w T.X.K T.X.mg T.X.base k (T.fa.fa f) (spF T.c (mu f) T.C f (ar f))) (hr : Room k T.X.A.in1.in1) (hgd : T.X.A.guards = some []) (hm : T.X.mg "sorted" = none) (hmf : T.X.mg fx = some (.ref (T.fa.fa f))) (h : SV T e a)
    (hmu : mu f = [] := by rfl) (har : ar f = 1 := by rfl) (hg : Gl T.X "sorted" := by rfl) (hgf : Gl T.X fx := by rfl) (hdf : (fx == ("__debug__" : Str)) = false := by decide) (hs : starEach [a] T.X.env = [(false, eval a T.X.env)] := by rfl)
    (he : backTo pos (starEach [a] T.X.env) = (false, eval a T.X.env) :: backTo pos (starEach [] T.X.env) := by rfl) (hpl : (backTo pos (starEach [a] T.X.env)).any (·.1) = false := by rfl)
    (hall : (backToKw pos (keywordEach [⟨some "key", .Name fx fp, kp⟩] T.X.env)).all (·.1.isSome) = true := by rfl) (hnone : (backToKw pos (keywordEach [⟨some "key", .Name fx fp, kp⟩] T.X.env)).any (·.1.isNone) = false := by rfl)
    (hks : (backToKw pos (keywordEach [⟨some "key", .Name fx fp, kp⟩] T.X.env)).filterMap (·.1) = [Str.ofString "key"] := by rfl) :
    SE T (.srtf e f) (.Call (.Name "sorted" p) [a] [⟨some "key", .Name fx fp, kp⟩] pos) := by
  have hu : T.X.A.units + 70 < cLine := by have := hr.un; have e : T.X.A.in1.in1.units = T.X.A.units + 1 + 1 := rfl; omega
  refine PE.imp (pe_callBK (c_sortK (fa := T.fa) (c1 := fun v H Q => spF T.c [] T.C f 1 [v] H Q fun _ _ _ => False) hc hu) hg hm bt_sorted' (pa_cons h pa_nil hs) (pk_cons (pe_glob (v := .ref (T.fa.fa f)) hgf hmf rfl hdf) pk_nil) (by decide) (by decide) he hpl hall hnone hks) fun σ H Q ⟨Z, s, fp, r, q⟩ => ?_
  refine ⟨Z, s, fp, r, post.bind (k := kF1 T.C f) (K' := kX T.c) (Q := Q) q fun x s1 v Z1 H1 f1 _ r1 a1 ⟨F, t⟩ p1 => ?_⟩
  have p1 : post T.c T.W σ Z H fp (kX T.c) ((ofO (srtIn x) s1).bind (kF2 T.C f)) Q := p1
  cases q1 : srtIn x with
  | none => rw [q1] at p1; exact p1.elim
  | some ds =>
    rw [q1] at p1
    have p1 : post T.c T.W σ Z H fp (kX T.c) (ofO ((keyC T.C f ds).bind sortedK) s1) Q := p1
    cases q2 : keyC T.C f ds with
    | none => rw [q2] at p1; exact p1.elim
    | some l =>
      rw [q2] at p1
      have p1 : post T.c T.W σ Z H fp (kX T.c) (ofO (sortedK l) s1) Q := p1
      cases q3 : sortedK l with
      | none => rw [q3] at p1; exact p1.elim
      | some rr =>
        rw [q3] at p1
        refine ⟨v, T.fa.fa f, Z1, x, F, ds, rfl, rfl, t, q1, fun σ => ?_, fun items rd => keys_run (items := items) q2 r1 rd fun Z' H' ks r2 a2 el rd' rk => ⟨Z', l, rd', rk, el, rr, q3, post.op r2 (a1.trans a2) p1⟩⟩
        have D' := call1_def D hr hgd rfl σ
        rw [hmu, har] at D'
        exact D'
end
end Mp
set_option maxHeartbeats 1000000
/-! Lam1: lambdas of their parameters and globals alone: made, called. -/
namespace Mp
open PySem PySem.Spec PyProof.Rows L2
open LamX (CodeO TabB inv_table among_app)
/-- the lambda's function object at f, its code object at c' -/
def lamO (f : Addr) (q : Str) (params : Arguments) (body : Expr) (scope : Scope) (c' : Addr) : HO := .ext fun h => ∃ pm ctv, h.get? f = some (PySem.W.kla_obj "<lambda>" q params body scope [] pm c' ctv)
/-- more is known; tables may have grown -/
def Grow (H H' : Hp) : Prop := ∀ b o, H b = some o → (nt o = true → H' b = some o) ∧ ∀ ps, o = .tbl ps → ∃ ps', H' b = some (.tbl ps')
theorem Grow.refl (H : Hp) : Grow H H := fun b o e => ⟨fun _ => e, fun ps z => ⟨ps, by rw [← z]; exact e⟩⟩
theorem Grow.laid {H H' : Hp} {p : Addr} {o : HO} (g : Grow H H') (hp : H p = none) : Grow H (upd H' p o) := fun b u e => by
  have hne : b ≠ p := fun z => by rw [z, hp] at e; cases e
  rw [upd_ne hne]
  exact g b u e
theorem Grow.live {H H' : Hp} (g : Grow H H') (b : Addr) (h : H b ≠ none) : H' b ≠ none := fun z => by
  cases q : H b with
  | none => exact h q
  | some o =>
    obtain ⟨g1, g2⟩ := g b o q
    cases ht : nt o with
    | true => rw [g1 ht] at z; cases z
    | false =>
      cases o with
      | tbl ps => obtain ⟨ps', e⟩ := g2 ps rfl; rw [e] at z; cases z
      | _ => cases ht
section
variable {c : Cf} {Z : Ad} {H H' : Hp} {f : Fp} {s : S} {σ : L2.St}
theorem Rel.grow (r : Rel c Z H s σ f) (g : Grow H H') (t : Tbs c.L.tbs H') : Rel c Z H' s σ f ∧ Fr Z H f Z H' f :=
  have kp : Kp Z H Z H' := ⟨fun b o e ht _ => (g b o e).1 ht, fun _ z => z⟩
  ⟨⟨r.len, fun i x e => let ⟨v, e1, e2⟩ := r.at_ i x e; ⟨v, e1, e2.kp kp fun b hb o e => (g b o e).1 (own_at (e2.own b hb) e)⟩, r.nd, r.dj, r.nz, fun i b hb => let ⟨o, e, h⟩ := r.ow i b hb; ⟨o, (g b o e).1 (own_nt h), h⟩, fun b z => g.live b (r.zo b z), t⟩,
   ⟨fun b o e ht _ => (g b o e).1 ht, fun _ z => z, fun _ z => .inl z, fun _ z => .inl z, g.live, fun T t p hp => let ⟨ps, e⟩ := t p hp; (g _ _ e).2 ps rfl⟩⟩
end
section
variable {X : Cx} {pins : List (Addr × Obj)} {σ : L2.St} {H : Hp} {s : Shared}
theorem clo_nil {cells : List (Str × Addr)} {names : List (Str × NameKind)} (h : ∀ y ∈ names, y.2 ≠ .free) : cloFrom cells names [] = [] := by
  cases q : cloFrom cells names [] with
  | nil => rfl
  | cons p r =>
    have hm : (p.1, p.2) ∈ cloFrom cells names [] := by rw [q]; exact List.mem_cons_self
    rcases cloFrom_mem hm with z | ⟨z, _⟩
    · cases z
    · exact absurd rfl (h _ z)
theorem lamO_new {P : Program} {w : World} {H' : Hp} {h : Heap} {f c' : Addr} {q : Str} {params : Arguments} {body : Expr} {scope : Scope} {pm ctv : Value} (e : h.get? f = some (PySem.W.kla_obj "<lambda>" q params body scope [] pm c' ctv)) : ObjOk P w H' h f (lamO f q params body scope c') :=
  ⟨⟨pm, ctv, e⟩, ⟨_, e⟩, fun g1 g2 ⟨pm, ctv, e⟩ k => ⟨pm, ctv, k _ e⟩⟩
theorem lam_make {T : List (Addr × Str)} {c P : Addr} {params : Arguments} {body : Expr} {scope : Scope} {pos : Pos} {E : Value → Shared → Prop} {Q : Value → Shared → Prop} (I : Inv X pins σ H s) (TB : TabB X.base X.mg c P) (hcode : X.env.code = .ref c)
    (hm : (P, X.env.qual ++ "<lambda>") ∈ T) (hu : ∀ p ∈ T, p.1 = P → p.2 = X.env.qual ++ "<lambda>") (hT : Tbs T H) (hdef : defaultsOf params X.env = ([], [])) (hfree : ∀ y ∈ scope.names, y.2 ≠ .free)
    (h : ∀ (f c' : Addr) (oc : Obj) (H1 : Hp) (s' : Shared), Inv X pins σ H1 s' → Grow H H1 → Tbs T H1 → H1 f = some (lamO f (X.env.qual ++ "<lambda>") params body scope c') → H1 c' = some (.frz oc (CodeO c' (X.env.qual ++ "<lambda>"))) → Q (.ref f) s') :
    wpAny (model X.prog X.w) X.A (eval (.Lambda params body scope pos) X.env) Q E s := by
  obtain ⟨ps, hP, ht, ha⟩ := hT _ hm
  refine PySem.W.kla_eval hdef ?_
  have hfree' : ∀ y ∈ scope.names, y.2 = .free → ∃ c, X.env.cells.lookup y.1 = some c := fun y hy e => absurd e (hfree y hy)
  have bP : s.heap.BuiltinsAt X.mg P := TB.bm.keeps I.bk
  have hP' : s.heap.get? P = some { cls := .none, data := .fields ps } := I.hok P _ hP
  have hcl : closureFor scope X.env = pure [] := by rw [closure_ok hfree', clo_nil hfree]
  cases hc : codeAmong pos ps.toList with
  | none =>
    refine PySem.W.kla_makeFunction (mg := X.mg) (c := c) (P := P) (ps := ps) hcl I.ok.glob (I.mod.glob.keeps I.bk) hcode (TB.code.keeps I.bk) hP' ht hc TB.gP bP fun c' ctv h' tk hx hge hlt hrec htb => ?_
    obtain ⟨c2, oc, vs, t, e2, hoc, hd, hv⟩ := hrec
    cases e2
    have hsz : s.heap.objs.size ≤ h'.objs.size := Nat.le_trans hge (Nat.le_of_lt hlt)
    have nC : H c' = none := I.hok.fresh hge
    have nF : H h'.objs.size = none := I.hok.fresh hsz
    have fC : h'.objs.size ≠ c' := Nat.ne_of_gt hlt
    have fP : h'.objs.size ≠ P := Nat.ne_of_gt (Nat.lt_of_lt_of_le (Heap.lt_size hP') hsz)
    have I1 := inv_table (t' := tk) (more := #[rawInt pos.line, rawInt pos.col, .ref c']) (h' := h'.push (PySem.W.kla_obj "<lambda>" (X.env.qual ++ "<lambda>") params body scope [] ((X.mg "__name__").getD .none) c' ctv)) I hP
      (fun b o hb e => Heap.get?_push_of_some _ (hx b o hb e)) (Heap.get?_push_of_some _ htb) hge ⟨oc, vs, t, Heap.get?_push_of_some _ hoc, hd, hv⟩
    obtain ⟨od, I2⟩ := I1.lock (d := c') upd_same True.intro
    have n2 : upd (upd (upd H P (.tbl (ps ++ #[rawInt pos.line, rawInt pos.col, .ref c']))) c' (CodeO c' (X.env.qual ++ "<lambda>"))) c' (.frz od (CodeO c' (X.env.qual ++ "<lambda>"))) h'.objs.size = none := by rw [upd_ne fC, upd_ne fC, upd_ne fP]; exact nF
    have ff : h'.objs.size < (h'.push (PySem.W.kla_obj "<lambda>" (X.env.qual ++ "<lambda>") params body scope [] ((X.mg "__name__").getD .none) c' ctv)).objs.size := by rw [Heap.size_push]; exact Nat.lt_succ_self _
    have I3 := I2.take (t' := tk) (it := h'.objs.size) (o := lamO h'.objs.size (X.env.qual ++ "<lambda>") params body scope c') (h' := h'.push (PySem.W.kla_obj "<lambda>" (X.env.qual ++ "<lambda>") params body scope [] ((X.mg "__name__").getD .none) c' ctv))
      (fun _ _ _ e => e) (I.fpOk hsz n2) (lamO_new (Heap.get?_push_size _ rfl))
    have eL : (ps ++ #[rawInt pos.line, rawInt pos.col, .ref c']).toList = ps.toList ++ [rawInt pos.line, rawInt pos.col, .ref c'] := by simp
    have atP : ∀ o : HO, upd (upd (upd (upd H P (.tbl (ps ++ #[rawInt pos.line, rawInt pos.col, .ref c']))) c' (CodeO c' (X.env.qual ++ "<lambda>"))) c' (.frz od (CodeO c' (X.env.qual ++ "<lambda>")))) h'.objs.size o P = some (.tbl (ps ++ #[rawInt pos.line, rawInt pos.col, .ref c'])) := fun o => by
      rw [upd_ne (Ne.symm fP), upd_ne (ne_of_none hP nC), upd_ne (ne_of_none hP nC), upd_same]
    have oth : ∀ (o : HO) (b : Addr) (u : HO), H b = some u → b ≠ P → upd (upd (upd (upd H P (.tbl (ps ++ #[rawInt pos.line, rawInt pos.col, .ref c']))) c' (CodeO c' (X.env.qual ++ "<lambda>"))) c' (.frz od (CodeO c' (X.env.qual ++ "<lambda>")))) h'.objs.size o b = some u := fun o b u e hb => by
      rw [upd_ne (ne_of_none e nF), upd_ne (ne_of_none e nC), upd_ne (ne_of_none e nC), upd_ne hb]; exact e
    refine h h'.objs.size c' od _ _ I3 (fun b u e => ?_) (fun p hp => ?_) upd_same (by rw [upd_ne (Ne.symm fC), upd_same])
    · by_cases hb : b = P
      · subst hb
        rw [hP] at e; cases e
        exact ⟨fun z => (by cases z), fun ps' _ => ⟨_, atP _⟩⟩
      · exact ⟨fun _ => oth _ b u e hb, fun ps' z => ⟨ps', by rw [← z]; exact oth _ b u e hb⟩⟩
    · by_cases hb : p.1 = P
      · rw [hu p hp hb, hb]
        refine ⟨_, atP _, by rw [eL]; exact PySem.TriplesOk_snoc _ _ _ _ ht, fun p' cv hcv => ?_⟩
        rw [eL] at hcv
        rcases among_app _ ht hcv with z | z
        · obtain ⟨c0, oc0, e1, e2⟩ := ha p' cv z
          exact ⟨c0, oc0, e1, oth _ c0 _ e2 (fun z => by rw [z, hP] at e2; cases e2)⟩
        · exact ⟨c', od, z, by rw [upd_ne (Ne.symm fC), upd_same]⟩
      · obtain ⟨ps', a1, a2, a3⟩ := hT p hp
        refine ⟨ps', oth _ _ _ a1 hb, a2, fun p' cv hcv => ?_⟩
        obtain ⟨c0, oc0, e1, e2⟩ := a3 p' cv hcv
        exact ⟨c0, oc0, e1, oth _ c0 _ e2 (fun z => by rw [z, hP] at e2; cases e2)⟩
  | some cv =>
    obtain ⟨c', oc, e, hco⟩ := ha pos cv hc
    subst e
    refine PySem.W.kla_makeFunctionHit (mg := X.mg) (c := c) (P := P) (ps := ps) hcl I.ok.glob (I.mod.glob.keeps I.bk) hcode (TB.code.keeps I.bk) hP' ht hc bP fun ctv h' tk hx hsz => ?_
    have nF : H h'.objs.size = none := I.hok.fresh hsz
    have I1 : Inv X pins σ H { s with heap := h'.push (PySem.W.kla_obj "<lambda>" (X.env.qual ++ "<lambda>") params body scope [] ((X.mg "__name__").getD .none) c' ctv), toks := tk } := I.kept fun b o e => Heap.get?_push_of_some _ (hx b o e)
    have I2 := I1.take (t' := tk) (it := h'.objs.size) (o := lamO h'.objs.size (X.env.qual ++ "<lambda>") params body scope c') (h' := h'.push (PySem.W.kla_obj "<lambda>" (X.env.qual ++ "<lambda>") params body scope [] ((X.mg "__name__").getD .none) c' ctv))
      (fun _ _ _ e => e) (I.fpOk hsz nF) (lamO_new (Heap.get?_push_size _ rfl))
    have up : ∀ b o, H b = some o → upd H h'.objs.size (lamO h'.objs.size (X.env.qual ++ "<lambda>") params body scope c') b = some o := fun b o e => by rw [upd_ne (ne_of_none e nF)]; exact e
    exact h h'.objs.size c' oc _ _ I2 ((Grow.refl H).laid nF) (hT.mono fun b o e _ => up b o e) upd_same (up _ _ hco)
end
end Mp
set_option maxHeartbeats 1000000
/-! Snd9: the rules with their small conditions filled in. -/
namespace Mp
open PySem PySem.Spec PyProof.Rows L2
theorem bt_len : bootBuiltins "len" = some (.builtin "len") := by decide +kernel
theorem bt_all : bootBuiltins "all" = some (.builtin "all") := by decide +kernel
theorem bt_any : bootBuiltins "any" = some (.builtin "any") := by decide +kernel
theorem bt_abs : bootBuiltins "abs" = some (.builtin "abs") := by decide +kernel
theorem bt_repr : bootBuiltins "repr" = some (.builtin "repr") := by decide +kernel
theorem bt_isinstance : bootBuiltins "isinstance" = some (.builtin "isinstance") := by decide +kernel
theorem bt_int : bootBuiltins "int" = some (.type "int") := by decide +kernel
theorem bt_bool : bootBuiltins "bool" = some (.type "bool") := by decide +kernel
theorem bt_str : bootBuiltins "str" = some (.type "str") := by decide +kernel
theorem bt_tuple : bootBuiltins "tuple" = some (.type "tuple") := by decide +kernel
theorem bt_list : bootBuiltins "list" = some (.type "list") := by decide +kernel
theorem bt_dict : bootBuiltins "dict" = some (.type "dict") := by decide +kernel
section
variable {X : Cx} {L : Lay}
theorem trD : TrD X L := trivial
end
section
variable {T : At} {e e1 e2 e3 : E} {a b d : Expr} {pos p p' : Pos} {i : Nat} {x : Str}
theorem q_len (hm : T.X.mg "len" = none) (h : SV T e a) (hg : Gl T.X "len" := by rfl) (hs : starEach [a] T.X.env = [(false, eval a T.X.env)] := by rfl) : SE T (.u .len e) (.Call (.Name "len" p) [a] [] pos) := se_c1 (c_len unD_len) hg hm bt_len (by decide) (by decide) h hs
theorem q_all (hc : T.X.calm = true) (hm : T.X.mg "all" = none) (h : SV T e a) (hg : Gl T.X "all" := by rfl) (hs : starEach [a] T.X.env = [(false, eval a T.X.env)] := by rfl) : SE T (.u .all_ e) (.Call (.Name "all" p) [a] [] pos) := se_c1 (c_all hc) hg hm bt_all (by decide) (by decide) h hs
theorem q_any (hc : T.X.calm = true) (hm : T.X.mg "any" = none) (h : SV T e a) (hg : Gl T.X "any" := by rfl) (hs : starEach [a] T.X.env = [(false, eval a T.X.env)] := by rfl) : SE T (.u .any_ e) (.Call (.Name "any" p) [a] [] pos) := se_c1 (c_any hc) hg hm bt_any (by decide) (by decide) h hs
theorem bt_sorted : bootBuiltins "sorted" = some (.builtin "sorted") := by decide +kernel
theorem q_sorted (hc : T.X.calm = true) (hu : T.X.A.units + 70 < cLine) (hm : T.X.mg "sorted" = none) (h : SV T e a) (hg : Gl T.X "sorted" := by rfl) (hs : starEach [a] T.X.env = [(false, eval a T.X.env)] := by rfl) : SE T (.u .sorted e) (.Call (.Name "sorted" p) [a] [] pos) := se_c1 (c_sorted hu (soD_of hc hu)) hg hm bt_sorted (by decide) (by decide) h hs
theorem q_abs (hm : T.X.mg "abs" = none) (h : SV T e a) (hg : Gl T.X "abs" := by rfl) (hs : starEach [a] T.X.env = [(false, eval a T.X.env)] := by rfl) : SE T (.u .abs e) (.Call (.Name "abs" p) [a] [] pos) := se_c1 c_abs hg hm bt_abs (by decide) (by decide) h hs
theorem q_repr (hgd : T.X.A.guards = some []) (hu : T.X.A.units + 64 < cLine) (hm : T.X.mg "repr" = none) (h : SV T e a) (hg : Gl T.X "repr" := by rfl) (hs : starEach [a] T.X.env = [(false, eval a T.X.env)] := by rfl) : SE T (.u .repr e) (.Call (.Name "repr" p) [a] [] pos) := se_c1 (c_repr hgd hu) hg hm bt_repr (by decide) (by decide) h hs
theorem q_int (hm : T.X.mg "int" = none) (h : SV T e a) (hg : Gl T.X "int" := by rfl) (hs : starEach [a] T.X.env = [(false, eval a T.X.env)] := by rfl) : SE T (.u .int e) (.Call (.Name "int" p) [a] [] pos) := se_t1 c_int hg hm bt_int (by decide) (by decide) h hs
theorem q_tuple (hm : T.X.mg "tuple" = none) (h : SV T e a) (hg : Gl T.X "tuple" := by rfl) (hs : starEach [a] T.X.env = [(false, eval a T.X.env)] := by rfl) : SE T (.u .tuple e) (.Call (.Name "tuple" p) [a] [] pos) := se_t1 c_tuple hg hm bt_tuple (by decide) (by decide) h hs
theorem q_list (hm : T.X.mg "list" = none) (h : SV T e a) (hg : Gl T.X "list" := by rfl) (hs : starEach [a] T.X.env = [(false, eval a T.X.env)] := by rfl) : SE T (.u .list e) (.Call (.Name "list" p) [a] [] pos) := se_t1 c_list hg hm bt_list (by decide) (by decide) h hs
theorem q_is {o : U} {n : String} {pr : Ki → Bool} {y : Str} (hk : ∀ (K : PySem.W.Frag) (k : Ki), PySem.W.kitOne K (.type (tyOf k)) (.type n) = some (pr k)) (ho : ∀ z : Mp.X, uop o z = uIs pr z) (hm : T.X.mg "isinstance" = none) (hmy : T.X.mg y = none) (hvy : bootBuiltins y = some (.type n)) (hny : y ≠ "__name__") (hdy : (y == ("__debug__" : Str)) = false)
    (h : SV T e a) (hg : Gl T.X "isinstance" := by rfl) (hgy : Gl T.X y := by rfl) (hs : starEach [a, .Name y p'] T.X.env = (false, eval a T.X.env) :: starEach [.Name y p'] T.X.env := by rfl) (hs2 : starEach [.Name y p'] T.X.env = [(false, eval (.Name y p') T.X.env)] := by rfl) :
    SE T (.u o e) (.Call (.Name "isinstance" p) [a, .Name y p'] [] pos) := se_is hk ho hg hm bt_isinstance (by decide) (by decide) (pe_bltn hgy hmy hvy rfl hny hdy) h hs hs2
theorem q_isInt (hm : T.X.mg "isinstance" = none) (hmy : T.X.mg "int" = none) (h : SV T e a) (hg : Gl T.X "isinstance" := by rfl) (hgy : Gl T.X "int" := by rfl) (hs : starEach [a, .Name "int" p'] T.X.env = (false, eval a T.X.env) :: starEach [.Name "int" p'] T.X.env := by rfl) (hs2 : starEach [.Name "int" p'] T.X.env = [(false, eval (.Name "int" p') T.X.env)] := by rfl) :
    SE T (.u .isInt e) (.Call (.Name "isinstance" p) [a, .Name "int" p'] [] pos) := q_is is_int (fun _ => rfl) hm hmy bt_int (by decide) (by decide) h hg hgy hs hs2
theorem q_isBool (hm : T.X.mg "isinstance" = none) (hmy : T.X.mg "bool" = none) (h : SV T e a) (hg : Gl T.X "isinstance" := by rfl) (hgy : Gl T.X "bool" := by rfl) (hs : starEach [a, .Name "bool" p'] T.X.env = (false, eval a T.X.env) :: starEach [.Name "bool" p'] T.X.env := by rfl) (hs2 : starEach [.Name "bool" p'] T.X.env = [(false, eval (.Name "bool" p') T.X.env)] := by rfl) :
    SE T (.u .isBool e) (.Call (.Name "isinstance" p) [a, .Name "bool" p'] [] pos) := q_is is_bool (fun _ => rfl) hm hmy bt_bool (by decide) (by decide) h hg hgy hs hs2
theorem q_isStr (hm : T.X.mg "isinstance" = none) (hmy : T.X.mg "str" = none) (h : SV T e a) (hg : Gl T.X "isinstance" := by rfl) (hgy : Gl T.X "str" := by rfl) (hs : starEach [a, .Name "str" p'] T.X.env = (false, eval a T.X.env) :: starEach [.Name "str" p'] T.X.env := by rfl) (hs2 : starEach [.Name "str" p'] T.X.env = [(false, eval (.Name "str" p') T.X.env)] := by rfl) :
    SE T (.u .isStr e) (.Call (.Name "isinstance" p) [a, .Name "str" p'] [] pos) := q_is is_str (fun _ => rfl) hm hmy bt_str (by decide) (by decide) h hg hgy hs hs2
theorem q_isTup (hm : T.X.mg "isinstance" = none) (hmy : T.X.mg "tuple" = none) (h : SV T e a) (hg : Gl T.X "isinstance" := by rfl) (hgy : Gl T.X "tuple" := by rfl) (hs : starEach [a, .Name "tuple" p'] T.X.env = (false, eval a T.X.env) :: starEach [.Name "tuple" p'] T.X.env := by rfl) (hs2 : starEach [.Name "tuple" p'] T.X.env = [(false, eval (.Name "tuple" p') T.X.env)] := by rfl) :
    SE T (.u .isTup e) (.Call (.Name "isinstance" p) [a, .Name "tuple" p'] [] pos) := q_is is_tup (fun _ => rfl) hm hmy bt_tuple (by decide) (by decide) h hg hgy hs hs2
end
end Mp
set_option maxHeartbeats 1000000
/-! Lam2: a lambda called; sorted(x, key=lambda ..). -/
namespace Mp
open PySem PySem.Spec PyProof.Rows L2 SrtO
open LamX (CodeO TabB)
/-- the arguments of the lambda are bound so -/
def LBinds (params : Arguments) (body : Expr) (scope : Scope) (q : Str) (ps : List Str) : Prop :=
  ∀ (pm ctv cv : Value) (u : Value), bindArgs (PySem.W.kla_fn "<lambda>" q params body scope [] pm cv ctv) ⟨[u], []⟩ = pure (ps.zip [u])
section
variable {X : Cx} {k : Nat} {A : Around} {params : Arguments} {body : Expr} {scope : Scope} {q : Str} {n : Str} {t : V → TE}
/-- the calls of the lambda at f -/
def cLam (f c' : Addr) (q : Str) (params : Arguments) (body : Expr) (scope : Scope) (oc : Obj) (t : TE) : V → Hp → VK → Prop := fun v H Q => H f = some (lamO f q params body scope c') ∧ H c' = some (.frz oc (CodeO c' q)) ∧ t [some v] H Q
theorem call1_lam {f c' : Addr} {oc : Obj} {t : TE} (S : FnScope [n] [n] scope) (hb : LBinds params body scope q [n]) (hdp : A.depth < recursionLimit) (hd : A.handled = none) (hr : ∀ env, Room k (A.deeper env)) (hf : A.frames = X.A.frames)
    (hbody : ∀ (outer : List Env) (s : Shared) (H : Hp), Room k (A.deeper (envOfC q scope s.heap.objs.size f (.ref c'))) → PE (cxOf (CX X.prog X.w) X.prog X.w X.K X.mg X.base [n] q scope f (.ref c') A outer s H fun _ _ _ => False) body t) (σ : L2.St) :
    Call1 X A σ (.ref f) (cLam f c' q params body scope oc t) := by
  intro pins s H v u Q I r ⟨h1, h2, h3⟩
  obtain ⟨⟨pm, ctv, of1⟩, _, _⟩ := I.hok f _ h1
  obtain ⟨_, ⟨oc', vs, tq, hoc, hdd, hv⟩, _, _⟩ := I.hok c' _ h2
  have e1 := I.env0
  have e0 : Env0 X.prog X.w X.K X.mg X.base A X.stack s H := ⟨hf.trans e1.frames, e1.mod, e1.bs, e1.bsz, e1.funs, e1.frf, e1.hok, e1.bare⟩
  have lim : s.heap.NoLimit := e0.mod.nolimit.keeps fun b o e => (e0.bs b o e).1
  have hkind : ∀ y ∈ [n].zip [u], scope.names.lookup y.1 = some .local ∨ (scope.names.lookup y.1 = some .cell ∧ ((cellsFrom (s.heap.objs.size + 1) scope.names []).lookup y.1).isSome = true) := fun ⟨x, v⟩ hy => by
    rcases S.par x (List.of_mem_zip hy).1 with q | q
    · exact .inl q
    · exact .inr ⟨q, PySem.W.cellsFrom_some _ _ _ (.inl q)⟩
  refine wpAny_call (codeAny_mono (R := CR (CX X.prog X.w) X.stack X.prog X.w H s Q fun _ _ _ => False) ?_ fun r s' hq => ?_)
  · refine PySem.W.kla_callFunE hdp of1 rfl S.co S.gen rfl ⟨c', oc', vs, tq, rfl, hoc, hdd, hv⟩ ?_
    rw [hb]
    refine wpAny_pure (wpAny_newFunctionEnv_cells S.kind hkind fun env he s1 x => ?_)
    subst he
    refine ⟨lim.keeps x.toInCall.keep, ?_⟩
    have J : Inv (cxOf (CX X.prog X.w) X.prog X.w X.K X.mg X.base [n] q scope f (.ref c') A X.stack s H fun _ _ _ => False) [] (start [n] [v]) H s1 := inv_start S hd e0 rfl (.cons r .nil) x
    refine PySem.W.kla_codeExpr (wpAny_mono ((hbody X.stack s H (hr _)).run [] s1 (start [n] [v]) H Q J h3) (fun v s' hq => ?_) fun e s' hq => hq)
    obtain ⟨w', H', J', rv, q⟩ := hq
    exact ⟨w', H', J'.os, J'.bare, J'.base, J'.hok, rv, q⟩
  · cases r with
    | error e => exact CX_no' hq
    | ok fl =>
      cases fl with
      | ret u => exact I.after hq
      | next => exact False.elim hq
      | brk => exact False.elim hq
      | cont => exact False.elim hq
end
end Mp
set_option maxHeartbeats 1000000
/-! Lam3: the rule of sorted(x, key=lambda ..). -/
namespace Mp
open PySem PySem.Spec PyProof.Rows L2 SrtO
open LamX (CodeO TabB)
section
variable {c : Cf} {s : S} {σ : L2.St} {f : Fp}
theorem keysL_run {C : Calls} {G : List D} {e : E} {fa c' : Addr} {q : Str} {params : Arguments} {body : Expr} {scope : Scope} {oc : Obj} {W : WX} : ∀ {ds : List D} {l : List (D × D)} {Z : Ad} {H : Hp} {items : List V} {Fi : List V → Hp → Prop},
    keyG (fun d => ev C G e [some (.d d)]) ds = some l → Rel c Z H s σ f → RDs c Z H ds items → H fa = some (lamO fa q params body scope c') → H c' = some (.frz oc (CodeO c' q)) →
    (∀ Z' H' ks, Rel c Z' H' s σ f → Fr Z H f Z' H' f → l.map (·.2) = ds → RDs c Z' H' ds items → RDs c Z' H' (l.map (·.1)) ks → Fi ks H') → tKeys (cLam fa c' q params body scope oc (tE c C G W e)) items H Fi
  | [], l, Z, H, _, Fi, e, r, .nil, _, _, q => by
    cases e
    exact q Z H [] r Fr.refl rfl .nil .nil
  | d :: ds, l, Z, H, _, Fi, e1, r, .cons (v := v) (vs := vs) h1 h2, hf, hc, q => by
    have e1 : (match ev C G e [some (.d d)] with
      | .ok y _ => (dat? y).bind fun k => (keyG (fun d => ev C G e [some (.d d)]) ds).map ((k, d) :: ·)
      | _ => none) = some l := e1
    refine ⟨hf, hc, Z, [some (.d d)], fun _ => [], Rel.one h1 r, ?_⟩
    cases qc : ev C G e [some (.d d)] with
    | stuck => rw [qc] at e1; cases e1
    | exc _ _ => rw [qc] at e1; cases e1
    | ok y s' =>
      rw [qc] at e1
      obtain ⟨k, e2, e3⟩ := Option.bind_eq_some_iff.mp e1
      obtain ⟨l', e4, rfl⟩ := Option.map_eq_some_iff.mp e3
      intro kv Z1 H1 g rg ag ⟨F, t, fr⟩
      obtain ⟨r1, a1⟩ := r.past ag rg
      have nF : ∀ b ∈ F, H b = none := fun b hb => (fr b hb).elim (fun ⟨_, z⟩ => nomatch z) id
      have r2 := r1.give (F := F) (fun b hb ⟨i, hi⟩ => by
        obtain ⟨o, e, _⟩ := r.ow i b hi
        rw [nF b hb] at e; cases e) fun b hb z => by
        obtain ⟨o, e, _⟩ := t.rx.own b hb
        rw [z] at e; cases e
      have a2 : Fr Z H f (fun b => Z1 b ∨ b ∈ F) H1 f := a1.frz fun b hb => .inr (nF b hb)
      have hk : RD c (fun b => Z1 b ∨ b ∈ F) H1 k kv := t.rx.frz ⟨fun _ _ e _ _ => e, fun _ z => .inl z⟩ e2 fun b hb => .inr hb
      have kp := a2.kp r
      have no : ∀ b, ¬ inF (fun _ : Nat => ([] : List Addr)) b := fun b ⟨_, z⟩ => nomatch z
      exact keysL_run e4 r2 (h2.kp kp) (ag.keep _ _ hf rfl (no _)) (ag.keep _ _ hc rfl (no _)) fun Z' H' ks r3 a3 el rd rk => q Z' H' (kv :: ks) r3 (a2.trans a3) (by simp [el]) (.cons (h1.kp ⟨fun b o e ht h => (a3.kp r2).keep b o (kp.keep b o e ht h) ht (h.imp id fun z => kp.zz b z), fun b z => (a3.kp r2).zz b (kp.zz b z)⟩) rd) (.cons (hk.kp (a3.kp r2)) rk)
end
/-- a lambda's function object, new -/
def tLam (T : List (Addr × Str)) (q : Str) (params : Arguments) (body : Expr) (scope : Scope) : TE := fun σ H Q => Tbs T H ∧ ∀ (f c' : Addr) (oc : Obj) (H1 : Hp), Grow H H1 → Tbs T H1 → H1 f = some (lamO f q params body scope c') → H1 c' = some (.frz oc (CodeO c' q)) → Q (.ref f) H1
theorem pe_lam {X : Cx} {T : List (Addr × Str)} {c P : Addr} {params : Arguments} {body : Expr} {scope : Scope} {pos : Pos} (TB : TabB X.base X.mg c P) (hcode : X.env.code = .ref c) (hm : (P, X.env.qual ++ "<lambda>") ∈ T) (hu : ∀ p ∈ T, p.1 = P → p.2 = X.env.qual ++ "<lambda>")
    (hdef : defaultsOf params X.env = ([], [])) (hfree : ∀ y ∈ scope.names, y.2 ≠ .free) : PE X (.Lambda params body scope pos) (tLam T (X.env.qual ++ "<lambda>") params body scope) :=
  ⟨fun pins s σ H Q I ⟨hT, h⟩ => lam_make I TB hcode hm hu hT hdef hfree fun f c' oc H1 s' I1 g t1 hf hc => ⟨.ref f, H1, I1, rfl, h f c' oc H1 g t1 hf hc⟩⟩
theorem c_sortKx {X : Cx} {fa : Lay} (hc : X.calm = true) (hu : X.A.units + 70 < cLine) : CallRK X (.builtin "sorted") [Str.ofString "key"] (fun vs zs H Q => ∃ c1, rSrtK X fa c1 vs zs H Q) := by
  intro pins s σ H xs zs us ws Q I r rz hh
  obtain ⟨c1, hh⟩ := hh
  exact c_sortK (c1 := c1) hc hu pins s σ H xs zs us ws Q I r rz hh
section
variable {T : At} {e le : E} {a body : Expr} {pos p lp kp : Pos} {k j : Nat} {params : Arguments} {scope : Scope} {n : Str} {cc P : Addr}
theorem se_srtk (hc : T.X.calm = true) (hr : ∀ env, Room k (T.X.A.in1.in1.deeper env)) (hd : T.X.A.handled = none) (hdp : T.X.A.depth < recursionLimit) (hu : T.X.A.units + 70 < cLine) (hm : T.X.mg "sorted" = none) (h : SV T e a)
    (TB : TabB T.X.base T.X.mg cc P) (hcode : T.X.env.code = .ref cc) (hmt : (P, T.X.env.qual ++ "<lambda>") ∈ T.fa.tbs) (hut : ∀ p ∈ T.fa.tbs, p.1 = P → p.2 = T.X.env.qual ++ "<lambda>")
    (S : FnScope [n] [n] scope) (hb : LBinds params body scope (T.X.env.qual ++ "<lambda>") [n]) (hdef : defaultsOf params T.X.env = ([], [])) (hfree : ∀ y ∈ scope.names, y.2 ≠ .free)
    (hbody : ∀ (f c' : Addr) (outer : List Env) (s : Shared) (H : Hp), Room k (T.X.A.in1.in1.deeper (envOfC (T.X.env.qual ++ "<lambda>") scope s.heap.objs.size f (.ref c'))) →
      SE { X := cxOf (CX T.X.prog T.X.w) T.X.prog T.X.w T.X.K T.X.mg T.X.base [n] (T.X.env.qual ++ "<lambda>") scope f (.ref c') T.X.A.in1.in1 outer s H fun _ _ _ => False, fa := T.fa, C := T.C, G := T.G, W := fun _ _ _ _ => False, mu := [] } le body)
    (hg : Gl T.X "sorted" := by rfl) (hs : starEach [a] T.X.env = [(false, eval a T.X.env)] := by rfl)
    (he : backTo pos (starEach [a] T.X.env) = (false, eval a T.X.env) :: backTo pos (starEach [] T.X.env) := by rfl) (hpl : (backTo pos (starEach [a] T.X.env)).any (·.1) = false := by rfl)
    (hall : (backToKw pos (keywordEach [⟨some "key", .Lambda params body scope lp, kp⟩] T.X.env)).all (·.1.isSome) = true := by rfl) (hnone : (backToKw pos (keywordEach [⟨some "key", .Lambda params body scope lp, kp⟩] T.X.env)).any (·.1.isNone) = false := by rfl)
    (hks : (backToKw pos (keywordEach [⟨some "key", .Lambda params body scope lp, kp⟩] T.X.env)).filterMap (·.1) = [Str.ofString "key"] := by rfl) :
    SE T (.srtk e j le) (.Call (.Name "sorted" p) [a] [⟨some "key", .Lambda params body scope lp, kp⟩] pos) := by
  refine PE.imp (pe_callBK (c_sortKx (fa := T.fa) hc hu) hg hm bt_sorted' (pa_cons h pa_nil hs) (pk_cons (pe_lam TB hcode hmt hut hdef hfree) pk_nil) (by decide) (by decide) he hpl hall hnone hks) fun σ H Q ⟨Z, s, fp, r, q⟩ => ?_
  refine ⟨Z, s, fp, r, post.bind (k := kK1 T.C T.G j le) (K' := kX T.c) (Q := Q) q fun x s1 v Z1 H1 f1 _ r1 a1 ⟨F, t⟩ p1 => ?_⟩
  have p1 : post T.c T.W σ Z H fp (kX T.c) ((ofO (srtIn x) s1).bind (kK2 T.C T.G le)) Q := p1
  cases q1 : srtIn x with
  | none => rw [q1] at p1; exact p1.elim
  | some ds =>
    rw [q1] at p1
    have p1 : post T.c T.W σ Z H fp (kX T.c) (ofO ((keyG (fun d => ev T.C T.G le [some (.d d)]) ds).bind sortedK) s1) Q := p1
    cases q2 : keyG (fun d => ev T.C T.G le [some (.d d)]) ds with
    | none => rw [q2] at p1; exact p1.elim
    | some l =>
      rw [q2] at p1
      have p1 : post T.c T.W σ Z H fp (kX T.c) (ofO (sortedK l) s1) Q := p1
      cases q3 : sortedK l with
      | none => rw [q3] at p1; exact p1.elim
      | some rr =>
        rw [q3] at p1
        refine ⟨r1.tb, fun f c' oc H2 g tb2 hf hc' => ?_⟩
        obtain ⟨r2, a2⟩ := r1.grow g tb2
        have t2 := t.kp (a2.kp r1) fun b hb o e => (g b o e).1 (own_at (t.own b hb) e)
        refine ⟨cLam f c' (T.X.env.qual ++ "<lambda>") params body scope oc (tE T.c T.C T.G (fun _ _ _ _ => False) le), v, f, Z1, x, F, ds, rfl, rfl, t2, q1, fun σ => call1_lam (A := T.X.A.in1.in1) (t := tE T.c T.C T.G (fun _ _ _ _ => False) le) S hb hdp hd hr rfl (fun outer s H hr => hbody f c' outer s H hr) σ, fun items rd => keysL_run q2 r2 rd hf hc' fun Z' H' ks r3 a3 el rd' rk => ⟨Z', l, rd', rk, el, rr, q3, post.op r3 ((a1.trans a2).trans a3) p1⟩⟩
end
end Mp
set_option maxHeartbeats 1000000
/-! Snd10: a module's constants; the law's end. -/
namespace Mp
open PySem PySem.Spec PyProof.Rows L2
mutual
/-- the value denotes these data -/
def datB (K : PySem.W.Frag) : D → Value → Bool
  | .none, .none => true
  | .bool b, .bool c => b == c
  | .int i, .int j _ => decide (i = j)
  | .str x, .str y _ => decide (x = y) && (PyData.strOk x && decide (x.length ≤ lim))
  | .tuple l, .ref a => (match K.lookup a with
    | some ⟨.type c, _, .seq its _, _⟩ => decide (c = "tuple") && (decide (its.size ≤ lim) && datsB K l its.toList)
    | _ => false)
  | _, _ => false
def datsB (K : PySem.W.Frag) : List D → List Value → Bool
  | [], [] => true
  | d :: l, u :: us => datB K d u && datsB K l us
  | _, _ => false
end
theorem ba {a b : Bool} (h : (a && b) = true) : a = true ∧ b = true := by cases a <;> cases b <;> simp_all
mutual
theorem datB_ok {c : Cf} : ∀ {d : D} {u : Value}, datB c.K d u = true → ∃ v, RelV v u ∧ ∀ Z H, RD c Z H d v
  | .none, u, h => by
    cases u <;> first | exact ⟨.non, rfl, fun _ _ => .none⟩ | cases h
  | .bool b, u, h => by
    cases u <;> first | cases h | skip
    rename_i b'
    have e : b = b' := by simpa [datB] using h
    subst e
    exact ⟨.bl b, rfl, fun _ _ => .bool b⟩
  | .int i, u, h => by
    cases u <;> first | cases h | skip
    rename_i j t
    have e : i = j := of_decide_eq_true h
    subst e
    exact ⟨.int i, ⟨t, rfl⟩, fun _ _ => .int i⟩
  | .str x, u, h => by
    cases u <;> first | cases h | skip
    rename_i y t
    obtain ⟨h1, h2⟩ := ba h
    obtain ⟨h3, h4⟩ := ba h2
    have e : x = y := of_decide_eq_true h1
    subst e
    exact ⟨.str x, ⟨t, rfl⟩, fun _ _ => .str x ⟨h3, of_decide_eq_true h4⟩⟩
  | .tuple l, u, h => by
    cases u <;> first | cases h | skip
    rename_i a
    unfold datB at h
    split at h
    · rename_i cn od its n sl e
      obtain ⟨h1, h2⟩ := ba h
      obtain ⟨h3, h4⟩ := ba h2
      have h1 : cn = "tuple" := of_decide_eq_true h1
      subst h1
      obtain ⟨vs, r, hd⟩ := datsB_ok h4
      exact ⟨.ref a, rfl, fun Z H => .tup (.inr ⟨_, its, n, e, rfl, rfl, by rw [← lim_eq]; exact of_decide_eq_true h3, r⟩) (hd Z H)⟩
    · cases h
  | .list l, u, h => by cases u <;> cases h
  | .dict l, u, h => by cases u <;> cases h
theorem datsB_ok {c : Cf} : ∀ {l : List D} {us : List Value}, datsB c.K l us = true → ∃ vs, Vals vs us ∧ ∀ Z H, RDs c Z H l vs
  | [], [], _ => ⟨[], .nil, fun _ _ => .nil⟩
  | [], _ :: _, h => by cases h
  | _ :: _, [], h => by cases h
  | d :: l, u :: us, h => by
    obtain ⟨h1, h2⟩ := ba (show (datB c.K d u && datsB c.K l us) = true from h)
    obtain ⟨v, r, hd⟩ := datB_ok h1
    obtain ⟨vs, rs, hds⟩ := datsB_ok h2
    exact ⟨v :: vs, .cons r rs, fun Z H => .cons (hd Z H) (hds Z H)⟩
end
/-- a constant of the module -/
def cstB (K : PySem.W.Frag) (x : Str) (d : D) : Bool := match PySem.W.nsIn K mainGlobals x with
  | some (some u) => datB K d u
  | _ => false
theorem cstB_ok {K : PySem.W.Frag} {w : World} {L : Lay} {h : Heap} {mg : Str → Option Value} {x : Str} {d : D} (KX : K.In h) (G : h.Ns mainGlobals mg) (e : cstB K x d = true) : ∃ u v, mg x = some u ∧ RelV v u ∧ ∀ Z H, RD (cfL K w L) Z H d v := by
  unfold cstB at e
  split at e
  · rename_i u hu
    obtain ⟨v, r, hd⟩ := datB_ok (c := cfL K w L) e
    exact ⟨u, v, PySem.W.mg_of KX G hu, r, hd⟩
  · cases e
theorem q_gl {T : At} {x : Str} {i : Nat} {g : D} {p : Pos} (h : ∃ u v, T.X.mg x = some u ∧ RelV v u ∧ ∀ Z H, RD T.c Z H g v) (hG : T.G[i]? = some g) (hg : Gl T.X x := by rfl) (hd : (x == ("__debug__" : Str)) = false := by decide) : SE T (.gl i) (.Name x p) := by
  obtain ⟨u, v, h1, h2, h3⟩ := h
  exact se_gl (pe_glob hg h1 h2 hd) hG h3
end Mp
set_option maxHeartbeats 1000000
/-! Snd11: the law's end. -/
namespace Mp
open PySem PySem.Spec PyProof.Rows L2
theorem CX_no {P : Program} {w : World} {H : Hp} {s : Shared} {e : Value} {s' : Shared} (h : L2.CX P w [] H s (fun _ _ _ => False) e s') : False := by
  obtain ⟨_, _, _, _, _, _, _, _, _, _, _, _, z⟩ := h
  exact z
/-- the script's list: frozen, or the module's own -/
def RdF (K : PySem.W.Frag) (H : Hp) (a : Addr) (vs : List V) : Prop := (∃ o, H a = some (.frz o (.lst vs))) ∨ ∃ (its : Array Value) (n : Nat), K.lookup a = some { cls := .type "list", data := .seq its n } ∧ its.size ≤ sizeLine ∧ Vals vs its.toList
/-- the tables' addresses are empty tables -/
def Emp (cs : List (Addr × Addr)) (H : Hp) : Prop := ∀ p ∈ cs, H p.2 = some (.tbl #[])
theorem law_callG {P : Program} {w : World} {K : PySem.W.Frag} {mg mb : Str → Option Value} {k : Nat} {fa a : Addr} {cs : List (Addr × Addr)} {fd : FuncData} {x : Str} {sp : Sp} {s₁ : Shared} {vs : List Value} {ns : List Int}
    (KX : K.In s₁.heap) (hns : s₁.heap.Ns mainGlobals mg) (hb : s₁.heap.Ns builtinsNs mb) (hbb : ∀ x : Str, x ≠ "__name__" → mb x = bootBuiltins x) (hlim : s₁.heap.NoLimit) (hg : s₁.gens = #[])
    (hT : ∀ p ∈ cs, s₁.heap.get? p.2 = some { cls := .none, data := .fields #[] }) (nT : ∀ p ∈ cs, K.lookup p.2 = none) (hC : ∀ p ∈ cs, PySem.W.CodeHd s₁.heap p.1 p.2)
    (hbm : ∃ (bm : Addr) (ob : Obj), mg "__builtins__" = some (.ref bm) ∧ bm ≠ builtinsNs ∧ s₁.heap.get? bm = some ob ∧ ob.cls = .type "module" ∧ ob.dict = some builtinsNs ∧ ob.data = .plain)
    (ha : s₁.heap.get? a = some { cls := .type "list", data := .seq vs.toArray }) (hi : IntsAre vs ns) (hl : ns.length ≤ sizeLine) (hr : Room k callerA)
    (F : ∀ base : Heap, K.In base → base.Ns mainGlobals mg → (∀ p ∈ cs, LamX.TabB base mg p.1 p.2) → FnG P w K mg base k fa fd [x] sp) (hbind : ∀ (s : Shared) (u : Value), BindsTo s fd ⟨[u], []⟩ [(x, u)])
    (hsp : ∀ H : Hp, Emp cs H → RdF K H a (ns.map V.int) → sp [.ref a] H (fun v _ => v = .bl true) fun _ _ _ => False) :
    codeAny (model P w) callerA (.call (.ref fa) ⟨[.ref a], []⟩) (fun r s' => r = .ok (.ret (.bool true)) ∧ OldK s₁.heap s'.heap ∧ s'.os = s₁.os ∧ AllBare s'.gens) s₁ := by
  have rv := vals_ints hi
  have lenV := hi.length
  obtain ⟨Tt, hTt⟩ : ∃ Tt : Addr → Prop, ∀ b, Tt b ↔ ∃ p ∈ cs, p.2 = b := ⟨_, fun b => Iff.rfl⟩
  have tabO : ∀ {b}, Tt b → s₁.heap.get? b = some { cls := .none, data := .fields #[] } := fun {b} z => by
    obtain ⟨p, hp, rfl⟩ := (hTt b).mp z
    exact hT p hp
  have tabK : ∀ {b}, Tt b → K.lookup b = none := fun {b} z => by
    obtain ⟨p, hp, rfl⟩ := (hTt b).mp z
    exact nT p hp
  have na : ¬ Tt a := fun z => by
    have q := (tabO z).symm.trans ha
    exact nomatch congrArg Obj.data (Option.some.inj q)
  have core : ∀ H : Hp, (∀ b, Tt b → H b = some (.tbl #[])) → (∀ b, H b ≠ none → Tt b ∨ (b = a ∧ K.lookup a = none ∧ ∃ o xs, H b = some (.frz o (.lst xs)))) → RdF K H a (ns.map V.int) → HOk P w H s₁.heap →
      codeAny (model P w) callerA (.call (.ref fa) ⟨[.ref a], []⟩) (fun r s' => r = .ok (.ret (.bool true)) ∧ OldK s₁.heap s'.heap ∧ s'.os = s₁.os ∧ AllBare s'.gens) s₁ := by
    intro H hH hO hS hok
    have hidden : ∀ {b : Addr} {o : Obj}, s₁.heap.get? b = some o → H b = none → (hidT s₁.heap H).get? b = some o := fun e n => hidT_get e n
    have free : ∀ {b : Addr} {o : Obj}, s₁.heap.get? b = some o → o.data ≠ .seq vs.toArray → o.data ≠ .fields #[] → H b = none := fun {b o} e d1 d2 => by
      cases q : H b with
      | none => rfl
      | some u =>
        rcases hO b (by rw [q]; exact fun z => nomatch z) with z | ⟨z, _⟩
        · rw [tabO z] at e; cases e; exact (d2 rfl).elim
        · subst z
          rw [ha] at e; cases e; exact (d1 rfl).elim
    have nsK : ∀ {b : Addr} {m : Str → Option Value}, s₁.heap.Ns b m → (hidT s₁.heap H).Ns b m := fun {b m} ⟨o, es, ep, e, d, r⟩ => ⟨o, es, ep, hidden e (free e (by rw [d]; exact fun z => nomatch z) (by rw [d]; exact fun z => nomatch z)), d, r⟩
    have hKb : K.In (hidT s₁.heap H) := fun b o e => hidden (KX b o e) (by
      cases q : H b with
      | none => rfl
      | some u =>
        rcases hO b (by rw [q]; exact fun z => nomatch z) with z | ⟨z, z2, _⟩
        · rw [tabK z] at e; cases e
        · subst z
          rw [z2] at e; cases e)
    have hM : Mod K mg (hidT s₁.heap H) := ⟨hKb, nsK hns, ⟨mb, nsK hb, hbb⟩, let ⟨mc, h1, h2⟩ := hlim; ⟨mc, nsK h1, h2⟩⟩
    have TB : ∀ p ∈ cs, LamX.TabB (hidT s₁.heap H) mg p.1 p.2 := fun p hp => by
      have hTp := hT p hp
      refine ⟨?_, ?_, fun z => ?_⟩
      · obtain ⟨o, us, file, tf, flags, tg, inF, text, tt, e1, r1, r2, r3, more⟩ := hC p hp
        exact ⟨o, us, file, tf, flags, tg, inF, text, tt, hidden e1 (free e1 (by rw [r2]; exact fun z => nomatch z) (by rw [r2]; intro z; cases z; simp at r3)), r1, r2, r3, more⟩
      · obtain ⟨bm, ob, b1, b2, b3, b4, b5, b6⟩ := hbm
        refine ⟨bm, ob, b1, b2, fun q => ?_, fun q => ?_, hidden b3 (free b3 (by rw [b6]; exact fun z => nomatch z) (by rw [b6]; exact fun z => nomatch z)), b4, b5, b6⟩
        · obtain ⟨o, es, ep, e, hd, _⟩ := hns
          subst q
          rw [b3] at e; cases e
          rw [b6] at hd; cases hd
        · subst q
          rw [hTp] at b3; cases b3; cases b6
      · obtain ⟨o, es, ep, e, hd, _⟩ := hns
        rw [z, hTp] at e
        cases e; cases hd
    have e0 : Env0 P w K mg (hidT s₁.heap H) callerA [] s₁ H := ⟨rfl, hM, fun b o e => of_hidT e, Nat.le_of_eq (hidT_size _ _), trivial, fun b hb => absurd (show b ∈ ([] : List Addr) from hb) (by simp), hok, .of_eq hg⟩
    refine codeAny_mono ((F _ hKb (nsK hns) TB).run callerA [] s₁ H ⟨[.ref a], []⟩ [.ref a] [.ref a] _ _ hr rfl e0 (hbind s₁ (.ref a)) (.cons rfl .nil) (hsp H (fun p hp => hH _ ((hTt _).mpr ⟨p, hp, rfl⟩)) hS)) fun r s' h => ?_
    cases r with
    | error e => exact (CX_no h).elim
    | ok fl =>
      cases fl with
      | next => exact False.elim h
      | brk => exact False.elim h
      | cont => exact False.elim h
      | ret u =>
        obtain ⟨v, H', os, bare, un, hok', r', q⟩ := h
        have q' : v = .bl true := q
        subst q'
        obtain rfl : u = Value.bool true := r'
        have same : ∀ b o, ¬ Tt b → s₁.heap.get? b = some o → s'.heap.get? b = some o := fun b o nb e => by
          cases q : H b with
          | none => exact un.keep b o e q (by intro z; exact absurd (show b ∈ ([] : List Addr) from z) (by simp)) (by simp)
          | some u =>
            rcases hO b (by rw [q]; exact fun z => nomatch z) with z | ⟨_, _, ob, xs, z⟩
            · exact absurd z nb
            · have z2 := un.frzs b ob _ z
              obtain ⟨e1, _⟩ := hok b _ z
              obtain ⟨e2, _⟩ := hok' b _ z2
              rw [e] at e1; cases e1
              exact e2
        refine ⟨rfl, ⟨fun b o e => ?_, fun b o e => ?_⟩, os, bare⟩
        · by_cases hb : Tt b
          · obtain ⟨more, z⟩ := un.tbls b #[] (hH b hb)
            have z2 := hok' b _ z
            obtain ⟨p, hp, rfl⟩ := (hTt b).mp hb
            rw [hT p hp] at e
            cases e
            exact .inr (.inl ⟨((hC p hp).tab (hT p hp)).isCodeTable, rfl, #[], #[] ++ more, rfl, by rw [Array.empty_append]; exact z2⟩)
          · exact .inl (same b o hb e)
        · by_cases hb : Tt b
          · obtain ⟨more, z⟩ := un.tbls b #[] (hH b hb)
            exact ⟨_, hok' b _ z⟩
          · exact ⟨o, same b o hb e⟩
  classical
  cases hk : K.lookup a with
  | some o =>
    have e := KX a o hk
    rw [ha] at e
    cases e
    refine core (fun b => if Tt b then some (.tbl #[]) else none) (fun b z => if_pos z) (fun b z => ?_) (.inr ⟨vs.toArray, _, hk, by rw [List.size_toArray, lenV]; exact hl, by simpa using rv⟩) (fun b u z => ?_)
    · by_cases hb : Tt b
      · exact .inl hb
      · exact absurd (if_neg hb) z
    · by_cases hb : Tt b
      · have z' := (if_pos hb).symm.trans z
        cases z'
        exact tabO hb
      · have z' := (if_neg hb).symm.trans z
        cases z'
  | none =>
    have at2 : ∀ b, ¬ Tt b → ∀ u : HO, (if b = a then some (HO.frz { cls := .type "list", data := .seq vs.toArray } (.lst (ns.map V.int))) else if Tt b then some (.tbl #[]) else none) = some u → b = a ∧ u = HO.frz { cls := .type "list", data := .seq vs.toArray } (.lst (ns.map V.int)) := fun b hb u z => by
      by_cases h : b = a
      · have z' := (if_pos h).symm.trans z
        cases z'
        exact ⟨h, rfl⟩
      · have z' := ((if_neg h).trans (if_neg hb)).symm.trans z
        cases z'
    refine core (fun b => if b = a then some (.frz { cls := .type "list", data := .seq vs.toArray } (.lst (ns.map V.int))) else if Tt b then some (.tbl #[]) else none) (fun b z => (if_neg (show ¬ b = a from fun e => na (e ▸ z))).trans (if_pos z)) (fun b z => ?_) (.inl ⟨_, if_pos rfl⟩) (fun b u z => ?_)
    · by_cases hb : Tt b
      · exact .inl hb
      · obtain ⟨u, hu⟩ := Option.ne_none_iff_exists'.mp z
        obtain ⟨h1, h2⟩ := at2 b hb u hu
        exact .inr ⟨h1, hk, _, _, hu.trans (congrArg some h2)⟩
    · by_cases hb : Tt b
      · have z' := ((if_neg (show ¬ b = a from fun e => na (e ▸ hb))).trans (if_pos hb)).symm.trans z
        cases z'
        exact tabO hb
      · obtain ⟨h1, h2⟩ := at2 b hb u z
        subst h1 h2
        exact ⟨ha, by rw [List.length_map]; exact hl, vs, _, rv, ha⟩
theorem walk_ofG {l : PySem.W.OpenLaw} {n k : Nat} {q : Program} {loose : List Str} {XP : (Str → Option Value) → Heap → Prop} {YP : World → Heap → Prop} {d : DefRec} {x : Str}
    (hn : l.most = some n) (hn2 : n ≤ sizeLine) (hdf : d.params.defaults = []) (hr : Room k callerA)
    (F : ∀ (w : World) (mg : Str → Option Value) (fa : Addr) (h : Heap), YP w h → h.Ns mainGlobals mg → mg d.name = some (.ref fa) →
      ∃ (K : PySem.W.Frag) (fd : FuncData) (cs : List (Addr × Addr)) (sp : Sp), K.In h ∧ (∀ p ∈ cs, h.get? p.2 = some { cls := .none, data := .fields #[] }) ∧ (∀ p ∈ cs, K.lookup p.2 = none) ∧ (∀ p ∈ cs, PySem.W.CodeHd h p.1 p.2) ∧ (∀ (s : Shared) (u : Value), BindsTo s fd ⟨[u], []⟩ [(x, u)]) ∧
        (∀ (H : Hp) (a : Addr) (ns : List Int), ns.length ≤ n → (∀ z ∈ ns, Builtin.Int.intBits z ≤ 1048576) → Emp cs H → RdF K H a (ns.map V.int) → sp [.ref a] H (fun v _ => v = .bl true) fun _ _ _ => False) ∧
        ∀ base : Heap, K.In base → base.Ns mainGlobals mg → (∀ p ∈ cs, LamX.TabB base mg p.1 p.2) → FnG l.prog w K mg base k fa fd [x] sp) :
    PySem.W.WalkO q loose XP YP l.row.toRowW d [] (fun f vs => PySem.call f vs) := by
  refine Att.attach_callB hn hdf fun w s₀ s₁ mg mb fa o pm cd doc a vs ns G Y ho hd hcd hmg hobj hints hlen hbits hg => ?_
  obtain ⟨K, fd, cs, sp, KX, hT, nT, hC, hb, hsp, hF⟩ := F w mg fa _ Y G.T.g hmg
  exact law_callG KX G.T.g G.T.b G.T.builtins G.T.nolimit hg hT nT hC G.T.bmain hobj hints (Nat.le_trans hlen hn2) hr hF hb fun H hO hS => hsp H a ns hlen hbits hO hS
theorem rds_ints {c : Cf} {Z : Ad} {H : Hp} : ∀ ns : List Int, RDs c Z H (ns.map PyData.int) (ns.map V.int)
  | [] => .nil
  | n :: ns => .cons (.int n) (rds_ints ns)
/-- what the law's def promises, by its run -/
theorem sp_law {K : PySem.W.Frag} {w : World} {L : Lay} {cs : List (Addr × Addr)} {C : Calls} {f : Nat} {H : Hp} {a : Addr} {ns : List Int} (h : C f [.d (.list (ns.map .int))] = .ok (.d (.bool true)) []) (hE : Emp cs H) (hL : ∀ p ∈ L.tbs, ∃ q ∈ cs, q.2 = p.1) (hS : RdF K H a (ns.map V.int)) :
    spF (cfL K w L) [] C f 1 [.ref a] H (fun v _ => v = .bl true) fun _ _ _ => False := by
  have hI : ∀ (Z : Ad), RDs (cfL K w L) Z H (ns.map PyData.int) (ns.map V.int) := fun Z => rds_ints ns
  have rd : RD (cfL K w L) (fun _ => False) H (.list (ns.map PyData.int)) (.ref a) := by
    rcases hS with ⟨o, hS⟩ | ⟨its, n, h1, h2, h3⟩
    · exact .lstF hS (hI _)
    · exact .lstK h1 h2 h3 (hI _)
  refine ⟨rfl, fun _ => False, [.d (.list (ns.map .int))], fun _ => [], ⟨rfl, fun i x e => ?_, fun _ => List.nodup_nil, (fun _ _ _ _ h => nomatch h), (fun _ _ h => nomatch h), (fun _ _ h => nomatch h), (fun _ z => False.elim z), fun p hp => ?_⟩, ?_⟩
  · cases i with
    | zero => cases e; exact ⟨.ref a, rfl, .d rd⟩
    | succ i => simp at e
  · obtain ⟨q, hq, e⟩ := hL p hp
    exact ⟨#[], e ▸ hE q hq, True.intro, fun pos cv z => nomatch z⟩
  · rw [h]
    intro _ v Z' H' F g _ _ t _
    exact t.rx.bool
end Mp
set_option maxHeartbeats 1000000
/-! Snd12: the rules as the printer writes them. -/
namespace Mp
open PySem PySem.Spec PyProof.Rows L2
theorem Room.u70 {k : Nat} {A : Around} (r : Room k A) : A.units + 70 < cLine := by have := r.un; omega
theorem Room.u65 {k : Nat} {A : Around} (r : Room k A) : A.units + 65 < cLine := by have := r.un; omega
section
variable {T : At} {e e1 e2 e3 : E} {a b d : Expr} {es : List E} {as : List Expr} {pos p p' : Pos} {i f k : Nat} {x : Str} {mu : Nat → List Nat} {ar : Nat → Nat}
theorem q_call (D : FnAt T.X.prog T.X.w T.X.K T.X.mg T.X.base k (T.fa.fa f) (spF T.c (mu f) T.C f (ar f))) (hr : Room k T.X.A) (hgd : T.X.A.guards = some []) (tk : Takes T.X T.W) (hm : T.X.mg x = some (.ref (T.fa.fa f))) (h : SG T es (a :: as))
    (hmu : muPos 0 es = mu f := by rfl) (hl : es.length = ar f := by rfl) (hg : Gl T.X x := by rfl) (hdb : (x == ("__debug__" : Str)) = false := by decide) (hn : noStar es = true := by rfl) (hd : (muSlots es).Nodup := by decide)
    (he : starEach (a :: as) T.X.env = (false, eval a T.X.env) :: starEach as T.X.env := by rfl) (hpl : (backTo pos (starEach as T.X.env)).any (·.1) = false := by rfl) :
    SE T (.call f es) (.Call (.Name x p) (a :: as) [] pos) := se_call D hr hgd tk hg hm hdb hn hd hmu hl h he hpl
theorem q_call0 (D : FnAt T.X.prog T.X.w T.X.K T.X.mg T.X.base k (T.fa.fa f) (spF T.c (mu f) T.C f (ar f))) (hr : Room k T.X.A) (hgd : T.X.A.guards = some []) (tk : Takes T.X T.W) (hm : T.X.mg x = some (.ref (T.fa.fa f)))
    (hmu : [] = mu f := by rfl) (hl : 0 = ar f := by rfl) (hg : Gl T.X x := by rfl) (hdb : (x == ("__debug__" : Str)) = false := by decide) : SE T (.call f []) (.Call (.Name x p) [] [] pos) := se_call0 D hr hgd tk hg hm hdb hmu hl
theorem q_callv (D : Defs T.X T.fa mu ar T.C k) (hC : ∀ f xs, T.C f xs ≠ .stuck → xs.length = ar f) (hr : Room k T.X.A) (hgd : T.X.A.guards = some []) (tk : Takes T.X T.W) (hx : PE T.X (.Name x p) (tVar i)) (h : SG T es (a :: as))
    (hn : noStar es = true := by rfl) (hmu : muSlots es = [] := by rfl) (he : starEach (a :: as) T.X.env = (false, eval a T.X.env) :: starEach as T.X.env := by rfl) (hpl : (backTo pos (starEach as T.X.env)).any (·.1) = false := by rfl) :
    SE T (.callv i es) (.Call (.Name x p) (a :: as) [] pos) := se_callv D hC hr hgd tk hx hn hmu h he hpl
theorem q_g1 (ha : SE T e a) (hr : SG T es as) (hn : isStar e = false := by rfl) (hs : starEach (a :: as) T.X.env = (false, eval a T.X.env) :: starEach as T.X.env := by rfl) : SG T (e :: es) (a :: as) := sg_cons hn ha hr hs
theorem q_gm {i : Nat} (ha : PE T.X a (tVar i)) (hr : SG T es as) (hs : starEach (a :: as) T.X.env = (false, eval a T.X.env) :: starEach as T.X.env := by rfl) : SG T (.mu i :: es) (a :: as) := sg_mu ha hr hs
theorem q_a1 (ha : SE T e a) (hr : SA T es as) (hn : isStar e = false := by rfl) (hs : starEach (a :: as) T.X.env = (false, eval a T.X.env) :: starEach as T.X.env := by rfl) : SA T (e :: es) (a :: as) := sa_cons hn ha hr hs
end
/-- what may be said of a module at the entry of a def: the text's facts are given by their names -/
structure Cl (K : PySem.W.Frag) (mg : Str → Option Value) (x : Str) : Prop where
  m : mg x = some (.ref (He.ga K x))
  e : PySem.W.excIn K (He.ga K x) He.veBase "ValueError.__new__" = true
  k : PySem.W.keepIn K (.ref (He.ga K x)) = true
  b : PySem.W.subIn K (.ref (He.ga K x)) (.type "BaseException") = some true
  t : PySem.W.typeIn K (.ref (He.ga K x)) = some (.type "type")
end Mp
set_option maxHeartbeats 1000000
/-! Snd13: the tables of lambdas, by names. -/
namespace Mp
open PySem PySem.Spec PyProof.Rows L2
/-- the table of the def's lambdas, their name -/
def tbOf (K : PySem.W.Frag) (p : He.Defn) : Addr × Str := ((He.cT K p).2, p.1 ++ ".<locals>." ++ "<lambda>")
theorem mem_tf {K : PySem.W.Frag} {tf : List He.Defn} {p : He.Defn} (h : p ∈ tf) : He.cT K p ∈ tf.map (He.cT K) := List.mem_map.mpr ⟨p, h, rfl⟩
theorem mem_tb {K : PySem.W.Frag} {tf : List He.Defn} {p : He.Defn} (h : p ∈ tf) : tbOf K p ∈ tf.map (tbOf K) := List.mem_map.mpr ⟨p, h, rfl⟩
theorem ut_of {T : List (Addr × Str)} {a : Addr} {q : Str} (hn : (T.map (·.1)).Nodup) (h : (a, q) ∈ T) : ∀ p ∈ T, p.1 = a → p.2 = q := by
  induction T with
  | nil => cases h
  | cons t r ih =>
    obtain ⟨h1, h2⟩ := List.nodup_cons.mp hn
    intro p hp e
    rcases List.mem_cons.mp h with k | k
    · subst k
      rcases List.mem_cons.mp hp with k2 | k2
      · rw [k2]
      · exact (h1 (List.mem_map.mpr ⟨p, k2, e⟩)).elim
    · rcases List.mem_cons.mp hp with k2 | k2
      · subst k2
        exact (h1 (List.mem_map.mpr ⟨(a, q), k, e.symm⟩)).elim
      · exact ih h2 k p k2 e
theorem free_of {l : List (Str × NameKind)} (h : (l.all fun y => match y.2 with | .free => false | _ => true) = true) : ∀ y ∈ l, y.2 ≠ .free := fun y hy e => by
  have := List.all_eq_true.mp h y hy
  rw [e] at this
  cases this
theorem all_id {l : List Bool} (h : l.all id = true) (i : Nat) {b : Bool} (hi : l[i]? = some b) : b = true := List.all_eq_true.mp h b (List.mem_of_getElem? hi)
end Mp
set_option maxHeartbeats 0
namespace Hd
open PySem PySem.Spec PyProof.Rows L2
def top (i : Nat) : Stmt := PySem.Challenge.pw_certainrows_k02_blocks_and_doubts.main.body.getD i (.Pass ⟨0, 0, 0, 0⟩)
abbrev dOf (n : Str) (i : Nat) : He.DefD := ⟨(n, none), n, n, defArgs (top i), defBody (top i), defScope (top i), [], []⟩
def fn : List He.DefD := [dOf "is_number" 12, dOf "is_name" 13, dOf "great" 14, dOf "is_value" 15, dOf "is_tuple_of" 16, dOf "is_sized" 17, dOf "is_row" 18, dOf "is_rows_form" 19, dOf "is_store_form" 20, dOf "value_key" 21, dOf "row_key" 22, dOf "ascending" 23, dOf "are_rising" 25, dOf "table_names" 26, dOf "table_of" 27, dOf "columns_of" 28, dOf "keys_of" 29, dOf "check_rows" 32, dOf "checked_store" 33, dOf "rows_of" 34, dOf "with_rows" 35, dOf "key_of" 37, dOf "blocks_by_keys" 38, dOf "blocks" 39, dOf "block_with" 40, dOf "all_blocks" 41, dOf "doubtful" 42, dOf "is_doubtful" 43, dOf "is_settled" 44, dOf "cut_to" 45, dOf "_law_bag" 47, dOf "_law_take" 48, dOf "_law_some" 49, dOf "_law_mixed" 50, dOf "_law_alike" 51, dOf "_law_value_key" 52, dOf "_law_row_key" 53, dOf "_law_sorted" 54, dOf "_law_scheme" 55, dOf "_law_small_value" 56, dOf "_law_store" 57, dOf "_law_blocks" 58, dOf "_law_every_block" 59, dOf "_law_come_to" 60, dOf "law" 61]
def fa : List He.Fa := [.glo "is_number", .glo "is_name", .glo "great", .glo "is_value", .glo "is_tuple_of", .glo "is_sized", .glo "is_row", .glo "is_rows_form", .glo "is_store_form", .glo "value_key", .glo "row_key", .glo "ascending", .glo "are_rising", .glo "table_names", .glo "table_of", .glo "columns_of", .glo "keys_of", .glo "check_rows", .glo "checked_store", .glo "rows_of", .glo "with_rows", .glo "key_of", .glo "blocks_by_keys", .glo "blocks", .glo "block_with", .glo "all_blocks", .glo "doubtful", .glo "is_doubtful", .glo "is_settled", .glo "cut_to", .glo "_law_bag", .glo "_law_take", .glo "_law_some", .glo "_law_mixed", .glo "_law_alike", .glo "_law_value_key", .glo "_law_row_key", .glo "_law_sorted", .glo "_law_scheme", .glo "_law_small_value", .glo "_law_store", .glo "_law_blocks", .glo "_law_every_block", .glo "_law_come_to", .glo "law", .free "abs", .free "all", .free "bool", .free "enumerate", .free "int", .free "isinstance", .free "len", .free "range", .free "repr", .free "sorted", .free "str", .free "tuple", .free "zip", .glo "CertainError", .glo "BadStore", .glo "Nothing", .glo "TooLarge", .exc "CertainError", .exc "Nothing", .exm "CertainError" "CertainError" true, .exm "BadStore" "CertainError" true, .exm "Nothing" "CertainError" true, .exm "TooLarge" "CertainError" true, .exm "CertainError" "BadStore" false, .exm "BadStore" "BadStore" true, .exm "Nothing" "BadStore" false, .exm "TooLarge" "BadStore" false, .exm "CertainError" "Nothing" false, .exm "BadStore" "Nothing" false, .exm "Nothing" "Nothing" true, .exm "TooLarge" "Nothing" false, .exm "CertainError" "TooLarge" false, .exm "BadStore" "TooLarge" false, .exm "Nothing" "TooLarge" false, .exm "TooLarge" "TooLarge" true]
def tf : List He.Defn := [("_law_sorted", none)]
def ex (K : PySem.W.Frag) : Bool := [decide (((tf.map (Mp.tbOf K)).map (·.1)).Nodup), Mp.cstB K "LETTERS" (.str (Str.ofString "abcdefghijklmnopqrstuvwxyz")), Mp.cstB K "DIGITS" (.str (Str.ofString "0123456789")), Mp.cstB K "MOST_LETTERS" (.int 8), Mp.cstB K "MOST_FIGURES" (.int 30), Mp.cstB K "RESERVED" (.tuple [(.str (Str.ofString "all")), (.str (Str.ofString "and")), (.str (Str.ofString "any")), (.str (Str.ofString "as")), (.str (Str.ofString "block")), (.str (Str.ofString "each")), (.str (Str.ofString "free")), (.str (Str.ofString "from")), (.str (Str.ofString "in")), (.str (Str.ofString "key")), (.str (Str.ofString "never")), (.str (Str.ofString "of")), (.str (Str.ofString "or")), (.str (Str.ofString "question")), (.str (Str.ofString "row")), (.str (Str.ofString "some")), (.str (Str.ofString "sure")), (.str (Str.ofString "table")), (.str (Str.ofString "to")), (.str (Str.ofString "with"))]), Mp.cstB K "MOST_ROWS" (.int 200), decide (PySem.W.exmOne K (.type "SystemExit") (.ref (He.ga K "CertainError")) = some false), decide (PySem.W.exmOne K (.type "SystemExit") (.ref (He.ga K "BadStore")) = some false), decide (PySem.W.exmOne K (.type "SystemExit") (.ref (He.ga K "Nothing")) = some false), decide (PySem.W.exmOne K (.type "SystemExit") (.ref (He.ga K "TooLarge")) = some false)].all id
abbrev R : PySem.W.OpenRow := PySem.W.OpenLaw.row PySem.Challenge.rw_certainrows_k02_blocks_and_doubts
abbrev hk : PySem.W.Hook := He.hookX 4 fa fn [] tf ex
def ob (s : PySem.W.SharedT) : He.AlX := He.obsX 4 fa fn [] tf ex (HandSHeadRun.getT s)
theorem ob_eq (s : PySem.W.SharedT) : ob s = hk.obs s.abs := He.obsX_eq (HandSHeadRun.getT_eq s)
def nm0 : List PySem.Str := ["_wall", "CertainError", "BadStore", "Nothing", "TooLarge", "LETTERS", "DIGITS", "MOST_LETTERS", "MOST_FIGURES", "RESERVED", "is_number", "is_name", "great", "is_value", "is_tuple_of", "is_sized", "is_row", "is_rows_form", "is_store_form", "value_key", "row_key", "ascending", "are_rising", "table_names", "table_of", "columns_of", "keys_of", "MOST_ROWS", "check_rows", "checked_store"]
def nm1 : List PySem.Str := ["rows_of", "with_rows", "key_of", "blocks_by_keys", "blocks", "block_with", "all_blocks", "doubtful", "is_doubtful", "is_settled", "cut_to", "_law_bag", "_law_take", "_law_some", "_law_mixed", "_law_alike", "_law_value_key", "_law_row_key", "_law_sorted", "_law_scheme", "_law_small_value", "_law_store", "_law_blocks", "_law_every_block", "_law_come_to"]
abbrev names : List PySem.Str := nm0 ++ nm1
theorem run (w : World) : HandSHeadRun.RunEq R (PySem.W.view R.prog [61]) hk ob 4000 names w := by
  intro os
  kernel_rfl
end Hd
set_option maxHeartbeats 200000
namespace Mp
open PySem
abbrev f_is_number : Nat := 0
abbrev f_is_name : Nat := 1
abbrev f_great : Nat := 2
abbrev f_is_value : Nat := 3
abbrev f_is_tuple_of : Nat := 4
abbrev f_is_sized : Nat := 5
abbrev f_is_row : Nat := 6
abbrev f_is_rows_form : Nat := 7
abbrev f_is_store_form : Nat := 8
abbrev f_value_key : Nat := 9
abbrev f_row_key : Nat := 10
abbrev f_ascending : Nat := 11
abbrev f_are_rising : Nat := 12
abbrev f_table_names : Nat := 13
abbrev f_table_of : Nat := 14
abbrev f_columns_of : Nat := 15
abbrev f_keys_of : Nat := 16
abbrev f_check_rows : Nat := 17
abbrev f_checked_store : Nat := 18
abbrev f_rows_of : Nat := 19
abbrev f_with_rows : Nat := 20
abbrev f_key_of : Nat := 21
abbrev f_blocks_by_keys : Nat := 22
abbrev f_blocks : Nat := 23
abbrev f_block_with : Nat := 24
abbrev f_all_blocks : Nat := 25
abbrev f_doubtful : Nat := 26
abbrev f_is_doubtful : Nat := 27
abbrev f_is_settled : Nat := 28
abbrev f_cut_to : Nat := 29
abbrev f__law_bag : Nat := 30
abbrev f__law_take : Nat := 31
abbrev f__law_some : Nat := 32
abbrev f__law_mixed : Nat := 33
abbrev f__law_alike : Nat := 34
abbrev f__law_value_key : Nat := 35
abbrev f__law_row_key : Nat := 36
abbrev f__law_sorted : Nat := 37
abbrev f__law_scheme : Nat := 38
abbrev f__law_small_value : Nat := 39
abbrev f__law_store : Nat := 40
abbrev f__law_blocks : Nat := 41
abbrev f__law_every_block : Nat := 42
abbrev f__law_come_to : Nat := 43
abbrev f_law : Nat := 44
abbrev g_LETTERS : Nat := 0
abbrev g_DIGITS : Nat := 1
abbrev g_MOST_LETTERS : Nat := 2
abbrev g_MOST_FIGURES : Nat := 3
abbrev g_RESERVED : Nat := 4
abbrev g_MOST_ROWS : Nat := 5
abbrev c_CertainError : Nat := 0
abbrev c_BadStore : Nat := 1
abbrev c_Nothing : Nat := 2
abbrev c_TooLarge : Nat := 3
def G : List D := [(.str (Str.ofString "abcdefghijklmnopqrstuvwxyz")), (.str (Str.ofString "0123456789")), (.int 8), (.int 30), (.tuple [(.str (Str.ofString "all")), (.str (Str.ofString "and")), (.str (Str.ofString "any")), (.str (Str.ofString "as")), (.str (Str.ofString "block")), (.str (Str.ofString "each")), (.str (Str.ofString "free")), (.str (Str.ofString "from")), (.str (Str.ofString "in")), (.str (Str.ofString "key")), (.str (Str.ofString "never")), (.str (Str.ofString "of")), (.str (Str.ofString "or")), (.str (Str.ofString "question")), (.str (Str.ofString "row")), (.str (Str.ofString "some")), (.str (Str.ofString "sure")), (.str (Str.ofString "table")), (.str (Str.ofString "to")), (.str (Str.ofString "with"))]), (.int 200)]
/- is_number: 0 thing -/
def b_is_number : Fd := ⟨1, 1, [], [(.ret (.and_ (.u .isInt (.p 0)) (.u .not_ (.u .isBool (.p 0)))))]⟩
/- is_name: 0 thing 1 sign -/
def b_is_name : Fd := ⟨1, 2, [], [(.if_ (.or_ (.u .not_ (.tr (.u .isStr (.p 0)))) (.u .not_ (.tr (.chain .le .le (.k (.int 1)) (.u .len (.p 0)) (.gl g_MOST_LETTERS))))) [(.ret (.k (.bool false)))] []), (.if_ (.or_ (.tr (.b .notin (.b .ix (.p 0) (.k (.int 0))) (.gl g_LETTERS))) (.tr (.b .in_ (.p 0) (.gl g_RESERVED)))) [(.ret (.k (.bool false)))] []), (.ret (.u .all_ (.lc [1] (.b .in_ (.p 1) (.b .add (.gl g_LETTERS) (.gl g_DIGITS))) (.n 1) (.v 0) [])))]⟩
/- great: 0 found 1 _figure -/
def b_great : Fd := ⟨0, 2, [], [(.set (.n 0) (.k (.int 1))), (.for_ [1] (.n 1) (.range (.gl g_MOST_FIGURES)) [(.aug 0 .mul (.k (.int 10)))]), (.ret (.mv 0))]⟩
/- is_value: 0 thing 1 bound -/
def b_is_value : Fd := ⟨1, 2, [], [(.if_ (.tr (.call f_is_number [(.v 0)])) [(.set (.n 1) (.call f_great [])), (.ret (.chain .lt .lt (.u .neg (.p 1)) (.v 0) (.p 1)))] []), (.ret (.call f_is_name [(.v 0)]))]⟩
/- is_tuple_of: 0 thing 1 is_one 2 one -/
def b_is_tuple_of : Fd := ⟨2, 3, [], [(.ret (.and_ (.u .isTup (.p 0)) (.u .all_ (.lc [2] (.callv 1 [(.v 2)]) (.n 2) (.v 0) []))))]⟩
/- is_sized: 0 thing 1 many -/
def b_is_sized : Fd := ⟨2, 2, [], [(.ret (.and_ (.u .isTup (.p 0)) (.b .eq (.u .len (.p 0)) (.p 1))))]⟩
/- is_row: 0 thing -/
def b_is_row : Fd := ⟨1, 1, [], [(.ret (.call f_is_tuple_of [(.v 0), (.fnv f_is_value)]))]⟩
/- is_rows_form: 0 thing -/
def b_is_rows_form : Fd := ⟨1, 1, [], [(.ret (.and_ (.call f_is_sized [(.v 0), (.k (.int 2))]) (.and_ (.call f_is_name [(.b .ix (.p 0) (.k (.int 0)))]) (.call f_is_tuple_of [(.b .ix (.p 0) (.k (.int 1))), (.fnv f_is_row)]))))]⟩
/- is_store_form: 0 thing -/
def b_is_store_form : Fd := ⟨1, 1, [], [(.ret (.call f_is_tuple_of [(.v 0), (.fnv f_is_rows_form)]))]⟩
/- value_key: 0 value -/
def b_value_key : Fd := ⟨1, 1, [], [(.ret (.ite (.tr (.u .isStr (.p 0))) (.tup [(.k (.int 1)), (.k (.int 0)), (.v 0)]) (.tup [(.k (.int 0)), (.v 0), (.k (.str (Str.ofString "")))])))]⟩
/- row_key: 0 row 1 value -/
def b_row_key : Fd := ⟨1, 2, [], [(.ret (.u .tuple (.lc [1] (.call f_value_key [(.v 1)]) (.n 1) (.v 0) [])))]⟩
/- ascending: 0 rows 1 row -/
def b_ascending : Fd := ⟨1, 2, [], [(.ret (.u .tuple (.srtf (.dc [1] (.v 1) (.k (.bool true)) (.n 1) (.v 0) []) f_row_key)))]⟩
/- are_rising: 0 things 1 one 2 other -/
def b_are_rising : Fd := ⟨1, 3, [], [(.ret (.u .all_ (.lc [1, 2] (.b .lt (.p 1) (.p 2)) (.t [(.n 1), (.n 2)]) (.b .zip (.v 0) (.slice (.p 0) (some (.k (.int 1))) none)) [])))]⟩
/- table_names: 0 scheme 1 name 2 columns 3 keys -/
def b_table_names : Fd := ⟨1, 4, [], [(.ret (.u .tuple (.lc [1, 2, 3] (.v 1) (.t [(.n 1), (.n 2), (.n 3)]) (.v 0) [])))]⟩
/- table_of: 0 scheme 1 table 2 one -/
def b_table_of : Fd := ⟨2, 3, [], [(.for_ [2] (.n 2) (.v 0) [(.if_ (.tr (.b .eq (.b .ix (.p 2) (.k (.int 0))) (.p 1))) [(.ret (.mv 2))] [])]), (.raise c_Nothing [])]⟩
/- columns_of: 0 scheme 1 table -/
def b_columns_of : Fd := ⟨2, 2, [], [(.ret (.b .ix (.call f_table_of [(.v 0), (.v 1)]) (.k (.int 1))))]⟩
/- keys_of: 0 scheme 1 table -/
def b_keys_of : Fd := ⟨2, 2, [], [(.ret (.b .ix (.call f_table_of [(.v 0), (.v 1)]) (.k (.int 2))))]⟩
/- check_rows: 0 scheme 1 name 2 rows 3 index 4 row -/
def b_check_rows : Fd := ⟨3, 5, [], [(.if_ (.tr (.b .gt (.u .len (.p 2)) (.gl g_MOST_ROWS))) [(.ex (.star (.k .none)))] []), (.for_ [3] (.t [(.n 3), (.n 4)]) (.enum (.v 2)) [(.if_ (.tr (.b .ne (.u .len (.p 4)) (.call f_columns_of [(.v 0), (.v 1)]))) [(.ex (.star (.k .none)))] [])]), (.if_ (.u .not_ (.tr (.call f_are_rising [(.lc [4] (.call f_row_key [(.v 4)]) (.n 4) (.v 2) [])]))) [(.ex (.star (.k .none)))] [])]⟩
/- checked_store: 0 scheme 1 thing 2 name 3 rows -/
def b_checked_store : Fd := ⟨2, 4, [], [(.if_ (.u .not_ (.tr (.call f_is_store_form [(.v 1)]))) [(.ex (.star (.k .none)))] []), (.if_ (.tr (.b .ne (.u .tuple (.lc [2, 3] (.v 2) (.t [(.n 2), (.n 3)]) (.v 1) [])) (.call f_table_names [(.v 0)]))) [(.ex (.star (.k .none)))] []), (.for_ [2, 3] (.t [(.n 2), (.n 3)]) (.v 1) [(.ex (.call f_check_rows [(.v 0), (.v 2), (.v 3)]))]), (.ret (.mv 1))]⟩
/- rows_of: 0 store 1 table 2 name 3 rows -/
def b_rows_of : Fd := ⟨2, 4, [], [(.for_ [2, 3] (.t [(.n 2), (.n 3)]) (.v 0) [(.if_ (.tr (.b .eq (.p 2) (.p 1))) [(.ret (.mv 3))] [])]), (.raise c_Nothing [])]⟩
/- with_rows: 0 store 1 table 2 rows 3 name 4 its -/
def b_with_rows : Fd := ⟨3, 5, [], [(.ret (.u .tuple (.lc [3, 4] (.tup [(.v 3), (.ite (.tr (.b .eq (.p 3) (.p 1))) (.v 2) (.v 4))]) (.t [(.n 3), (.n 4)]) (.v 0) [])))]⟩
/- key_of: 0 scheme 1 table 2 row -/
def b_key_of : Fd := ⟨3, 3, [], [(.ret (.slice (.p 2) none (some (.call f_keys_of [(.v 0), (.v 1)]))))]⟩
/- blocks_by_keys: 0 scheme 1 store 2 table 3 many 4 found 5 row -/
def b_blocks_by_keys : Fd := ⟨3, 6, [], [(.par [3, 4] [(.call f_keys_of [(.v 0), (.v 2)]), .dict0]), (.for_ [5] (.n 5) (.call f_rows_of [(.v 1), (.v 2)]) [(.setdapp 4 (.slice (.p 5) none (some (.v 3))) (.v 5))]), (.ret (.mv 4))]⟩
/- blocks: 0 scheme 1 store 2 table 3 rows -/
def b_blocks : Fd := ⟨3, 4, [], [(.ret (.u .tuple (.lc [3] (.u .tuple (.p 3)) (.n 3) (.u .values (.call f_blocks_by_keys [(.v 0), (.v 1), (.v 2)])) [])))]⟩
/- block_with: 0 scheme 1 store 2 table 3 key -/
def b_block_with : Fd := ⟨4, 4, [], [(.if_ (.u .not_ (.tr (.call f_is_row [(.v 3)]))) [(.raise c_Nothing [])] []), (.ret (.u .tuple (.getd (.call f_blocks_by_keys [(.v 0), (.v 1), (.v 2)]) (.v 3) (.lst []))))]⟩
/- all_blocks: 0 scheme 1 store 2 table 3 key -/
def b_all_blocks : Fd := ⟨2, 4, [], [(.ret (.u .tuple (.lc2 [2, 3] [3] (.tup [(.v 2), (.v 3)]) (.n 2) (.call f_table_names [(.v 0)]) [] (.n 3) (.call f_blocks_by_keys [(.v 0), (.v 1), (.v 2)]) [])))]⟩
/- doubtful: 0 scheme 1 store 2 table 3 key -/
def b_doubtful : Fd := ⟨2, 4, [], [(.ret (.u .tuple (.lc [2, 3] (.tup [(.v 2), (.v 3)]) (.t [(.n 2), (.n 3)]) (.call f_all_blocks [(.v 0), (.v 1)]) [(.tr (.call f_is_doubtful [(.v 0), (.v 1), (.v 2), (.v 3)]))])))]⟩
/- is_doubtful: 0 scheme 1 store 2 table 3 key -/
def b_is_doubtful : Fd := ⟨4, 4, [], [(.ret (.b .gt (.u .len (.call f_block_with [(.v 0), (.v 1), (.v 2), (.v 3)])) (.k (.int 1))))]⟩
/- is_settled: 0 scheme 1 store -/
def b_is_settled : Fd := ⟨2, 2, [], [(.ret (.b .eq (.call f_doubtful [(.v 0), (.v 1)]) (.tup [])))]⟩
/- cut_to: 0 scheme 1 store 2 table 3 rows 4 its 5 keys 6 left 7 row -/
def b_cut_to : Fd := ⟨4, 8, [], [(.set (.n 4) (.call f_rows_of [(.v 1), (.v 2)])), (.if_ (.or_ (.u .not_ (.tr (.u .isTup (.p 3)))) (.or_ (.tr (.b .eq (.p 3) (.tup []))) (.u .not_ (.tr (.u .all_ (.lc [7] (.and_ (.call f_is_row [(.v 7)]) (.b .in_ (.p 7) (.p 4))) (.n 7) (.v 3) [])))))) [(.raise c_Nothing [])] []), (.set (.n 5) (.dc [7] (.call f_key_of [(.v 0), (.v 2), (.v 7)]) (.k (.bool true)) (.n 7) (.v 3) [])), (.if_ (.tr (.b .ne (.u .len (.p 5)) (.k (.int 1)))) [(.raise c_Nothing [])] []), (.set (.n 6) (.lc [7] (.v 7) (.n 7) (.v 4) [(.or_ (.tr (.b .in_ (.p 7) (.p 3))) (.tr (.b .notin (.call f_key_of [(.v 0), (.v 2), (.v 7)]) (.p 5))))])), (.ret (.call f_with_rows [(.v 1), (.v 2), (.call f_ascending [(.v 6)])]))]⟩
/- _law_bag: 0 script 1 cell -/
def b__law_bag : Fd := ⟨1, 2, [], [(.ret (.lst [(.k (.int 0)), (.k (.int 1234567891)), (.k (.int 0)), (.frz (.lc [1] (.u .abs (.p 1)) (.n 1) (.slice (.p 0) none (some (.k (.int 63)))) []))]))]⟩
/- _law_take: 0 bag 1 many 2 cell 3 stirred 4 value 5 begin 6 second -/
def b__law_take : Fd := ⟨2, 7, [0], [(.if_ (.tr (.b .eq (.b .ix (.p 0) (.k (.int 0))) (.k (.int 0)))) [(.set (.n 2) (.b .ix (.b .add (.slice (.b .ix (.p 0) (.k (.int 3))) (some (.b .ix (.p 0) (.k (.int 2)))) none) (.lst [(.k (.int 0))])) (.k (.int 0)))), (.augix 0 (.k (.int 2)) .add (.k (.int 1))), (.if_ (.tr (.b .ge (.p 2) (.b .pow (.k (.int 10)) (.k (.int 18))))) [(.setix 0 (.k (.int 0)) (.v 2))] []), (.set (.n 3) (.b .add (.b .add (.b .mul (.b .ix (.p 0) (.k (.int 1))) (.k (.int 48271))) (.b .mod (.u .int (.p 2)) (.k (.int 2147483647)))) (.b .mul (.k (.int 7919)) (.b .ix (.p 0) (.k (.int 2)))))), (.setix 0 (.k (.int 1)) (.b .mod (.u .int (.p 3)) (.k (.int 2147483647))))] []), (.if_ (.tr (.b .gt (.b .ix (.p 0) (.k (.int 0))) (.k (.int 0)))) [(.set (.n 4) (.b .mod (.u .int (.b .ix (.p 0) (.k (.int 0)))) (.p 1))), (.setix 0 (.k (.int 0)) (.b .fdiv (.u .int (.b .ix (.p 0) (.k (.int 0)))) (.p 1))), (.ret (.mv 4))] []), (.set (.n 5) (.b .mod (.u .int (.b .mul (.b .add (.b .ix (.p 0) (.k (.int 1))) (.k (.int 1))) (.k (.int 39373)))) (.k (.int 1000000007)))), (.set (.n 6) (.b .mod (.u .int (.b .mul (.b .mod (.u .int (.b .mul (.p 5) (.p 5))) (.k (.int 998244353))) (.k (.int 30011)))) (.k (.int 998244353)))), (.ret (.b .mod (.u .int (.b .fdiv (.p 6) (.k (.int 7)))) (.p 1)))]⟩
/- _law_some: 0 bag 1 things -/
def b__law_some : Fd := ⟨2, 2, [0], [(.ret (.b .ix (.p 1) (.call f__law_take [(.mu 0), (.u .len (.p 1))])))]⟩
/- _law_mixed: 0 bag 1 things 2 found 3 thing -/
def b__law_mixed : Fd := ⟨2, 4, [0], [(.set (.n 2) (.lst [])), (.for_ [3] (.n 3) (.v 1) [(.ins 2 (.call f__law_take [(.mu 0), (.b .add (.u .len (.p 2)) (.k (.int 1)))]) (.v 3))]), (.ret (.mv 2))]⟩
/- _law_alike: 0 found 1 due -/
def b__law_alike : Fd := ⟨2, 2, [], [(.ret (.and_ (.b .eq (.u .repr (.p 0)) (.u .repr (.p 1))) (.b .eq (.p 0) (.p 1))))]⟩
/- _law_value_key: 0 value -/
def b__law_value_key : Fd := ⟨1, 1, [], [(.ret (.ite (.tr (.u .isStr (.p 0))) (.tup [(.k (.int 1)), (.v 0)]) (.tup [(.k (.int 0)), (.v 0)])))]⟩
/- _law_row_key: 0 row 1 value -/
def b__law_row_key : Fd := ⟨1, 2, [], [(.ret (.u .tuple (.lc [1] (.call f__law_value_key [(.v 1)]) (.n 1) (.v 0) [])))]⟩
/- _law_sorted: 0 rows 1 found 2 key 3 row 4 one -/
def b__law_sorted : Fd := ⟨1, 5, [], [(.set (.n 1) (.lst [])), (.for_ [2, 3] (.t [(.n 2), (.n 3)]) (.srtk (.lc [3] (.tup [(.call f__law_row_key [(.v 3)]), (.v 3)]) (.n 3) (.v 0) []) 0 (.b .ix (.p 0) (.k (.int 0)))) [(.ext 1 (.ite (.or_ (.tr (.b .eq (.p 1) (.lst []))) (.tr (.b .ne (.b .ix (.p 1) (.u .neg (.k (.int 1)))) (.p 3)))) (.lst [(.v 3)]) (.lst [])))]), (.ret (.u .tuple (.p 1)))]⟩
/- _law_scheme: 0 bag 1 names 2 found 3 name 4 columns -/
def b__law_scheme : Fd := ⟨1, 5, [0], [(.set (.n 1) (.u .sorted (.slice (.call f__law_mixed [(.mu 0), (.lst [(.k (.str (Str.ofString "r"))), (.k (.str (Str.ofString "s"))), (.k (.str (Str.ofString "t9")))])]) none (some (.b .add (.k (.int 1)) (.call f__law_take [(.mu 0), (.k (.int 3))])))))), (.set (.n 2) (.lst [])), (.for_ [3, 4] (.n 3) (.v 1) [(.set (.n 4) (.b .add (.k (.int 1)) (.call f__law_take [(.mu 0), (.k (.int 3))]))), (.app 2 (.tup [(.v 3), (.v 4), (.b .add (.k (.int 1)) (.call f__law_take [(.mu 0), (.v 4)]))]))]), (.ret (.u .tuple (.p 2)))]⟩
/- _law_small_value: 0 bag -/
def b__law_small_value : Fd := ⟨1, 1, [0], [(.ret (.call f__law_some [(.mu 0), (.lst [(.k (.int 0)), (.k (.int 1)), (.k (.int 1)), (.k (.int 2)), (.k (.str (Str.ofString "a"))), (.k (.str (Str.ofString "b")))])]))]⟩
/- _law_store: 0 bag 1 scheme 2 found 3 name 4 columns 5 keys 6 k 7 j -/
def b__law_store : Fd := ⟨2, 8, [0], [(.set (.n 2) (.lst [])), (.for_ [3, 4, 5] (.t [(.n 3), (.n 4), (.n 5)]) (.v 1) [(.app 2 (.tup [(.v 3), (.call f__law_sorted [(.lc [6] (.u .tuple (.lc [7] (.call f__law_small_value [(.mu 0)]) (.n 7) (.range (.v 4)) [])) (.n 6) (.range (.call f__law_take [(.mu 0), (.k (.int 5))])) [])])]))]), (.ret (.u .tuple (.p 2)))]⟩
/- _law_blocks: 0 scheme 1 store 2 table 3 keys 4 found 5 row 6 one -/
def b__law_blocks : Fd := ⟨3, 7, [], [(.par [3, 4] [(.b .ix (.lc [6] (.b .ix (.p 6) (.k (.int 2))) (.n 6) (.v 0) [(.tr (.b .eq (.b .ix (.p 6) (.k (.int 0))) (.p 2)))]) (.k (.int 0))), (.lst [])]), (.for_ [5] (.n 5) (.b .ix (.lc [6] (.b .ix (.p 6) (.k (.int 1))) (.n 6) (.v 1) [(.tr (.b .eq (.b .ix (.p 6) (.k (.int 0))) (.p 2)))]) (.k (.int 0))) [(.if_ (.and_ (.tr (.b .ne (.p 4) (.lst []))) (.tr (.b .eq (.b .ix (.b .ix (.p 4) (.u .neg (.k (.int 1)))) (.k (.int 0))) (.slice (.p 5) none (some (.v 3)))))) [(.setix 4 (.u .neg (.k (.int 1))) (.tup [(.b .ix (.b .ix (.p 4) (.u .neg (.k (.int 1)))) (.k (.int 0))), (.b .add (.b .ix (.b .ix (.p 4) (.u .neg (.k (.int 1)))) (.k (.int 1))) (.tup [(.v 5)]))]))] [(.app 4 (.tup [(.slice (.p 5) none (some (.v 3))), (.tup [(.v 5)])]))])]), (.ret (.mv 4))]⟩
/- _law_every_block: 0 scheme 1 store 2 found 3 name 4 columns 5 keys 6 key 7 rows -/
def b__law_every_block : Fd := ⟨2, 8, [], [(.set (.n 2) (.lst [])), (.for_ [3, 4, 5] (.t [(.n 3), (.n 4), (.n 5)]) (.v 0) [(.ext 2 (.lc [6, 7] (.tup [(.v 3), (.v 6), (.v 7)]) (.t [(.n 6), (.n 7)]) (.call f__law_blocks [(.v 0), (.v 1), (.v 3)]) []))]), (.ret (.mv 2))]⟩
/- _law_come_to: 0 way 1 scheme 2 store 3 table 4 thing -/
def b__law_come_to : Fd := ⟨5, 5, [], [(.try_ [(.if_ (.tr (.b .eq (.p 0) (.k (.int 0)))) [(.ret (.tup [(.k (.str (Str.ofString "told"))), (.call f_key_of [(.v 1), (.v 3), (.v 4)])]))] []), (.ret (.tup [(.k (.str (Str.ofString "told"))), (.ite (.tr (.b .eq (.p 0) (.k (.int 1)))) (.call f_blocks [(.v 1), (.v 2), (.v 3)]) (.ite (.tr (.b .eq (.p 0) (.k (.int 2)))) (.call f_block_with [(.v 1), (.v 2), (.v 3), (.v 4)]) (.call f_cut_to [(.v 1), (.v 2), (.v 3), (.v 4)])))]))] [(.mk [c_Nothing] none [(.ret (.tup [(.k (.str (Str.ofString "nothing")))]))])])]⟩
/- law: 0 script 1 bag 2 turn 3 scheme 4 store 5 every 6 told 7 unsure 8 name 9 columns 10 keys 11 its 12 row 13 due 14 wrong 15 key 16 rows 17 kept 18 cut 19 one 20 k 21 thing 22 lot 23 way -/
def b_law : Fd := ⟨1, 24, [], [(.set (.n 1) (.call f__law_bag [(.v 0)])), (.for_ [2, 3, 4, 5, 6, 7, 9, 10, 11, 13, 14, 17, 18] (.n 2) (.range (.k (.int 8))) [(.set (.n 3) (.call f__law_scheme [(.mu 1)])), (.set (.n 4) (.call f__law_store [(.mu 1), (.v 3)])), (.set (.n 5) (.call f__law_every_block [(.v 3), (.v 4)])), (.set (.n 6) (.lc [8, 15, 16] (.tup [(.v 8), (.v 15)]) (.t [(.n 8), (.n 15), (.n 16)]) (.v 5) [])), (.set (.n 7) (.lc [8, 15, 16] (.tup [(.v 8), (.v 15)]) (.t [(.n 8), (.n 15), (.n 16)]) (.v 5) [(.tr (.b .gt (.u .len (.p 16)) (.k (.int 1))))])), (.if_ (.u .not_ (.tr (.call f__law_alike [(.lst [(.call f_all_blocks [(.v 3), (.v 4)]), (.call f_doubtful [(.v 3), (.v 4)]), (.call f_is_settled [(.v 3), (.v 4)])]), (.lst [(.u .tuple (.p 6)), (.u .tuple (.p 7)), (.b .eq (.p 7) (.lst []))])]))) [(.ret (.k (.bool false)))] []), (.for_ [9, 10, 11, 13, 14] (.t [(.n 8), (.n 9), (.n 10)]) (.v 3) [(.set (.n 11) (.lc [19, 15, 16] (.tup [(.v 15), (.v 16)]) (.t [(.n 19), (.n 15), (.n 16)]) (.v 5) [(.tr (.b .eq (.p 19) (.p 8)))])), (.if_ (.u .not_ (.tr (.call f__law_alike [(.call f__law_come_to [(.k (.int 1)), (.v 3), (.v 4), (.v 8), (.k .none)]), (.tup [(.k (.str (Str.ofString "told"))), (.u .tuple (.lc [15, 16] (.v 16) (.t [(.n 15), (.n 16)]) (.v 11) []))])]))) [(.ret (.k (.bool false)))] []), (.set (.n 12) (.u .tuple (.lc [20] (.call f__law_small_value [(.mu 1)]) (.n 20) (.range (.v 9)) []))), (.set (.n 13) (.b .ix (.b .add (.lc [15, 16] (.v 16) (.t [(.n 15), (.n 16)]) (.v 11) [(.tr (.call f__law_alike [(.v 15), (.slice (.p 12) none (some (.v 10)))]))]) (.lst [(.tup [])])) (.k (.int 0)))), (.if_ (.u .not_ (.tr (.call f__law_alike [(.lst [(.call f__law_come_to [(.k (.int 0)), (.v 3), (.v 4), (.v 8), (.v 12)]), (.call f__law_come_to [(.k (.int 2)), (.v 3), (.v 4), (.v 8), (.slice (.p 12) none (some (.v 10)))])]), (.lst [(.tup [(.k (.str (Str.ofString "told"))), (.slice (.p 12) none (some (.v 10)))]), (.tup [(.k (.str (Str.ofString "told"))), (.v 13)])])]))) [(.ret (.k (.bool false)))] []), (.set (.n 14) (.lst [(.tup []), (.k .none), (.ite (.or_ (.tr (.b .eq (.p 13) (.tup []))) (.tr (.b .notin (.p 12) (.p 13)))) (.tup [(.v 12)]) (.tup [])), (.ite (.tr (.b .gt (.u .len (.p 11)) (.k (.int 1)))) (.u .tuple (.lc [15, 16] (.b .ix (.p 16) (.k (.int 0))) (.t [(.n 15), (.n 16)]) (.v 11) [])) (.tup []))])), (.if_ (.tr (.b .ne (.lc [21] (.v 21) (.n 21) (.v 14) [(.tr (.b .ne (.call f__law_come_to [(.k (.int 3)), (.v 3), (.v 4), (.v 8), (.v 21)]) (.tup [(.k (.str (Str.ofString "nothing")))])))]) (.lst []))) [(.ret (.k (.bool false)))] [])]), (.for_ [17, 18] (.t [(.n 8), (.n 15), (.n 16)]) (.v 5) [(.set (.n 17) (.u .tuple (.lc [12] (.v 12) (.n 12) (.v 16) [(.tr (.b .eq (.call f__law_take [(.mu 1), (.k (.int 2))]) (.k (.int 0))))]))), (.set (.n 17) (.ite (.tr (.b .ne (.p 17) (.tup []))) (.v 17) (.slice (.p 16) (some (.u .neg (.k (.int 1)))) none))), (.set (.n 18) (.u .tuple (.lc [19, 22] (.tup [(.v 19), (.u .tuple (.lc [12] (.v 12) (.n 12) (.v 22) [(.or_ (.tr (.b .ne (.p 19) (.p 8))) (.or_ (.tr (.b .notin (.p 12) (.p 16))) (.tr (.b .in_ (.p 12) (.p 17)))))]))]) (.t [(.n 19), (.n 22)]) (.v 4) []))), (.if_ (.u .not_ (.tr (.call f__law_alike [(.lst [(.call f__law_come_to [(.k (.int 3)), (.v 3), (.v 4), (.v 8), (.v 17)]), (.call f_checked_store [(.v 3), (.v 18)])]), (.lst [(.tup [(.k (.str (Str.ofString "told"))), (.v 18)]), (.v 18)])]))) [(.ret (.k (.bool false)))] [])]), (.if_ (.tr (.b .ne (.lc [23] (.v 23) (.n 23) (.tup [(.k (.int 1)), (.k (.int 2)), (.k (.int 3))]) [(.tr (.b .ne (.call f__law_come_to [(.v 23), (.v 3), (.v 4), (.k (.str (Str.ofString "gone"))), (.tup [(.tup [(.k (.int 1))])])]) (.tup [(.k (.str (Str.ofString "nothing")))])))]) (.lst []))) [(.ret (.k (.bool false)))] [])]), (.ret (.k (.bool true)))]⟩
def tbl : List Fd := [b_is_number, b_is_name, b_great, b_is_value, b_is_tuple_of, b_is_sized, b_is_row, b_is_rows_form, b_is_store_form, b_value_key, b_row_key, b_ascending, b_are_rising, b_table_names, b_table_of, b_columns_of, b_keys_of, b_check_rows, b_checked_store, b_rows_of, b_with_rows, b_key_of, b_blocks_by_keys, b_blocks, b_block_with, b_all_blocks, b_doubtful, b_is_doubtful, b_is_settled, b_cut_to, b__law_bag, b__law_take, b__law_some, b__law_mixed, b__law_alike, b__law_value_key, b__law_row_key, b__law_sorted, b__law_scheme, b__law_small_value, b__law_store, b__law_blocks, b__law_every_block, b__law_come_to, b_law]
def F (i : Nat) : Option Fd := tbl[i]?
theorem F_is_number : F f_is_number = some b_is_number := rfl
theorem F_is_name : F f_is_name = some b_is_name := rfl
theorem F_great : F f_great = some b_great := rfl
theorem F_is_value : F f_is_value = some b_is_value := rfl
theorem F_is_tuple_of : F f_is_tuple_of = some b_is_tuple_of := rfl
theorem F_is_sized : F f_is_sized = some b_is_sized := rfl
theorem F_is_row : F f_is_row = some b_is_row := rfl
theorem F_is_rows_form : F f_is_rows_form = some b_is_rows_form := rfl
theorem F_is_store_form : F f_is_store_form = some b_is_store_form := rfl
theorem F_value_key : F f_value_key = some b_value_key := rfl
theorem F_row_key : F f_row_key = some b_row_key := rfl
theorem F_ascending : F f_ascending = some b_ascending := rfl
theorem F_are_rising : F f_are_rising = some b_are_rising := rfl
theorem F_table_names : F f_table_names = some b_table_names := rfl
theorem F_table_of : F f_table_of = some b_table_of := rfl
theorem F_columns_of : F f_columns_of = some b_columns_of := rfl
theorem F_keys_of : F f_keys_of = some b_keys_of := rfl
theorem F_check_rows : F f_check_rows = some b_check_rows := rfl
theorem F_checked_store : F f_checked_store = some b_checked_store := rfl
theorem F_rows_of : F f_rows_of = some b_rows_of := rfl
theorem F_with_rows : F f_with_rows = some b_with_rows := rfl
theorem F_key_of : F f_key_of = some b_key_of := rfl
theorem F_blocks_by_keys : F f_blocks_by_keys = some b_blocks_by_keys := rfl
theorem F_blocks : F f_blocks = some b_blocks := rfl
theorem F_block_with : F f_block_with = some b_block_with := rfl
theorem F_all_blocks : F f_all_blocks = some b_all_blocks := rfl
theorem F_doubtful : F f_doubtful = some b_doubtful := rfl
theorem F_is_doubtful : F f_is_doubtful = some b_is_doubtful := rfl
theorem F_is_settled : F f_is_settled = some b_is_settled := rfl
theorem F_cut_to : F f_cut_to = some b_cut_to := rfl
theorem F__law_bag : F f__law_bag = some b__law_bag := rfl
theorem F__law_take : F f__law_take = some b__law_take := rfl
theorem F__law_some : F f__law_some = some b__law_some := rfl
theorem F__law_mixed : F f__law_mixed = some b__law_mixed := rfl
theorem F__law_alike : F f__law_alike = some b__law_alike := rfl
theorem F__law_value_key : F f__law_value_key = some b__law_value_key := rfl
theorem F__law_row_key : F f__law_row_key = some b__law_row_key := rfl
theorem F__law_sorted : F f__law_sorted = some b__law_sorted := rfl
theorem F__law_scheme : F f__law_scheme = some b__law_scheme := rfl
theorem F__law_small_value : F f__law_small_value = some b__law_small_value := rfl
theorem F__law_store : F f__law_store = some b__law_store := rfl
theorem F__law_blocks : F f__law_blocks = some b__law_blocks := rfl
theorem F__law_every_block : F f__law_every_block = some b__law_every_block := rfl
theorem F__law_come_to : F f__law_come_to = some b__law_come_to := rfl
theorem F_law : F f_law = some b_law := rfl
theorem G_LETTERS : G[g_LETTERS]? = some (.str (Str.ofString "abcdefghijklmnopqrstuvwxyz")) := rfl
theorem G_DIGITS : G[g_DIGITS]? = some (.str (Str.ofString "0123456789")) := rfl
theorem G_MOST_LETTERS : G[g_MOST_LETTERS]? = some (.int 8) := rfl
theorem G_MOST_FIGURES : G[g_MOST_FIGURES]? = some (.int 30) := rfl
theorem G_RESERVED : G[g_RESERVED]? = some (.tuple [(.str (Str.ofString "all")), (.str (Str.ofString "and")), (.str (Str.ofString "any")), (.str (Str.ofString "as")), (.str (Str.ofString "block")), (.str (Str.ofString "each")), (.str (Str.ofString "free")), (.str (Str.ofString "from")), (.str (Str.ofString "in")), (.str (Str.ofString "key")), (.str (Str.ofString "never")), (.str (Str.ofString "of")), (.str (Str.ofString "or")), (.str (Str.ofString "question")), (.str (Str.ofString "row")), (.str (Str.ofString "some")), (.str (Str.ofString "sure")), (.str (Str.ofString "table")), (.str (Str.ofString "to")), (.str (Str.ofString "with"))]) := rfl
theorem G_MOST_ROWS : G[g_MOST_ROWS]? = some (.int 200) := rfl
end Mp
set_option maxHeartbeats 400000
namespace Mp
open PySem PySem.Spec PyProof.Rows L2
def nms : List Str := [Str.ofString "is_number", Str.ofString "is_name", Str.ofString "great", Str.ofString "is_value", Str.ofString "is_tuple_of", Str.ofString "is_sized", Str.ofString "is_row", Str.ofString "is_rows_form", Str.ofString "is_store_form", Str.ofString "value_key", Str.ofString "row_key", Str.ofString "ascending", Str.ofString "are_rising", Str.ofString "table_names", Str.ofString "table_of", Str.ofString "columns_of", Str.ofString "keys_of", Str.ofString "check_rows", Str.ofString "checked_store", Str.ofString "rows_of", Str.ofString "with_rows", Str.ofString "key_of", Str.ofString "blocks_by_keys", Str.ofString "blocks", Str.ofString "block_with", Str.ofString "all_blocks", Str.ofString "doubtful", Str.ofString "is_doubtful", Str.ofString "is_settled", Str.ofString "cut_to", Str.ofString "_law_bag", Str.ofString "_law_take", Str.ofString "_law_some", Str.ofString "_law_mixed", Str.ofString "_law_alike", Str.ofString "_law_value_key", Str.ofString "_law_row_key", Str.ofString "_law_sorted", Str.ofString "_law_scheme", Str.ofString "_law_small_value", Str.ofString "_law_store", Str.ofString "_law_blocks", Str.ofString "_law_every_block", Str.ofString "_law_come_to", Str.ofString "law"]
def cns : List Str := [Str.ofString "CertainError", Str.ofString "BadStore", Str.ofString "Nothing", Str.ofString "TooLarge"]
def Ly (K : PySem.W.Frag) : Lay := ⟨Hd.tf.map (tbOf K), fun f => He.ga K (nms.getD f ""), fun f => decide (f < 45), fun n => match cns[n]? with | some x => .ref (He.ga K x) | none => .type "SystemExit", fun _ => []⟩
def tfs (K : PySem.W.Frag) : List (Addr × Addr) := Hd.tf.map (He.cT K)
structure Txt (K : PySem.W.Frag) (w : World) (mg : Str → Option Value) : Prop where
  f_is_number : mg "is_number" = some (.ref ((Ly K).fa f_is_number))
  f_is_name : mg "is_name" = some (.ref ((Ly K).fa f_is_name))
  f_great : mg "great" = some (.ref ((Ly K).fa f_great))
  f_is_value : mg "is_value" = some (.ref ((Ly K).fa f_is_value))
  f_is_tuple_of : mg "is_tuple_of" = some (.ref ((Ly K).fa f_is_tuple_of))
  f_is_sized : mg "is_sized" = some (.ref ((Ly K).fa f_is_sized))
  f_is_row : mg "is_row" = some (.ref ((Ly K).fa f_is_row))
  f_is_rows_form : mg "is_rows_form" = some (.ref ((Ly K).fa f_is_rows_form))
  f_is_store_form : mg "is_store_form" = some (.ref ((Ly K).fa f_is_store_form))
  f_value_key : mg "value_key" = some (.ref ((Ly K).fa f_value_key))
  f_row_key : mg "row_key" = some (.ref ((Ly K).fa f_row_key))
  f_ascending : mg "ascending" = some (.ref ((Ly K).fa f_ascending))
  f_are_rising : mg "are_rising" = some (.ref ((Ly K).fa f_are_rising))
  f_table_names : mg "table_names" = some (.ref ((Ly K).fa f_table_names))
  f_table_of : mg "table_of" = some (.ref ((Ly K).fa f_table_of))
  f_columns_of : mg "columns_of" = some (.ref ((Ly K).fa f_columns_of))
  f_keys_of : mg "keys_of" = some (.ref ((Ly K).fa f_keys_of))
  f_check_rows : mg "check_rows" = some (.ref ((Ly K).fa f_check_rows))
  f_checked_store : mg "checked_store" = some (.ref ((Ly K).fa f_checked_store))
  f_rows_of : mg "rows_of" = some (.ref ((Ly K).fa f_rows_of))
  f_with_rows : mg "with_rows" = some (.ref ((Ly K).fa f_with_rows))
  f_key_of : mg "key_of" = some (.ref ((Ly K).fa f_key_of))
  f_blocks_by_keys : mg "blocks_by_keys" = some (.ref ((Ly K).fa f_blocks_by_keys))
  f_blocks : mg "blocks" = some (.ref ((Ly K).fa f_blocks))
  f_block_with : mg "block_with" = some (.ref ((Ly K).fa f_block_with))
  f_all_blocks : mg "all_blocks" = some (.ref ((Ly K).fa f_all_blocks))
  f_doubtful : mg "doubtful" = some (.ref ((Ly K).fa f_doubtful))
  f_is_doubtful : mg "is_doubtful" = some (.ref ((Ly K).fa f_is_doubtful))
  f_is_settled : mg "is_settled" = some (.ref ((Ly K).fa f_is_settled))
  f_cut_to : mg "cut_to" = some (.ref ((Ly K).fa f_cut_to))
  f__law_bag : mg "_law_bag" = some (.ref ((Ly K).fa f__law_bag))
  f__law_take : mg "_law_take" = some (.ref ((Ly K).fa f__law_take))
  f__law_some : mg "_law_some" = some (.ref ((Ly K).fa f__law_some))
  f__law_mixed : mg "_law_mixed" = some (.ref ((Ly K).fa f__law_mixed))
  f__law_alike : mg "_law_alike" = some (.ref ((Ly K).fa f__law_alike))
  f__law_value_key : mg "_law_value_key" = some (.ref ((Ly K).fa f__law_value_key))
  f__law_row_key : mg "_law_row_key" = some (.ref ((Ly K).fa f__law_row_key))
  f__law_sorted : mg "_law_sorted" = some (.ref ((Ly K).fa f__law_sorted))
  f__law_scheme : mg "_law_scheme" = some (.ref ((Ly K).fa f__law_scheme))
  f__law_small_value : mg "_law_small_value" = some (.ref ((Ly K).fa f__law_small_value))
  f__law_store : mg "_law_store" = some (.ref ((Ly K).fa f__law_store))
  f__law_blocks : mg "_law_blocks" = some (.ref ((Ly K).fa f__law_blocks))
  f__law_every_block : mg "_law_every_block" = some (.ref ((Ly K).fa f__law_every_block))
  f__law_come_to : mg "_law_come_to" = some (.ref ((Ly K).fa f__law_come_to))
  f_law : mg "law" = some (.ref ((Ly K).fa f_law))
  tnd : ((Ly K).tbs.map (·.1)).Nodup
  abs : mg "abs" = none
  all : mg "all" = none
  bool : mg "bool" = none
  enumerate : mg "enumerate" = none
  int : mg "int" = none
  isinstance : mg "isinstance" = none
  len : mg "len" = none
  range : mg "range" = none
  repr : mg "repr" = none
  sorted : mg "sorted" = none
  str : mg "str" = none
  tuple : mg "tuple" = none
  zip : mg "zip" = none
  g_LETTERS : ∃ u v, mg "LETTERS" = some u ∧ RelV v u ∧ ∀ Z H, RD (cfL K w (Ly K)) Z H (.str (Str.ofString "abcdefghijklmnopqrstuvwxyz")) v
  g_DIGITS : ∃ u v, mg "DIGITS" = some u ∧ RelV v u ∧ ∀ Z H, RD (cfL K w (Ly K)) Z H (.str (Str.ofString "0123456789")) v
  g_MOST_LETTERS : ∃ u v, mg "MOST_LETTERS" = some u ∧ RelV v u ∧ ∀ Z H, RD (cfL K w (Ly K)) Z H (.int 8) v
  g_MOST_FIGURES : ∃ u v, mg "MOST_FIGURES" = some u ∧ RelV v u ∧ ∀ Z H, RD (cfL K w (Ly K)) Z H (.int 30) v
  g_RESERVED : ∃ u v, mg "RESERVED" = some u ∧ RelV v u ∧ ∀ Z H, RD (cfL K w (Ly K)) Z H (.tuple [(.str (Str.ofString "all")), (.str (Str.ofString "and")), (.str (Str.ofString "any")), (.str (Str.ofString "as")), (.str (Str.ofString "block")), (.str (Str.ofString "each")), (.str (Str.ofString "free")), (.str (Str.ofString "from")), (.str (Str.ofString "in")), (.str (Str.ofString "key")), (.str (Str.ofString "never")), (.str (Str.ofString "of")), (.str (Str.ofString "or")), (.str (Str.ofString "question")), (.str (Str.ofString "row")), (.str (Str.ofString "some")), (.str (Str.ofString "sure")), (.str (Str.ofString "table")), (.str (Str.ofString "to")), (.str (Str.ofString "with"))]) v
  g_MOST_ROWS : ∃ u v, mg "MOST_ROWS" = some u ∧ RelV v u ∧ ∀ Z H, RD (cfL K w (Ly K)) Z H (.int 200) v
  m_CertainError : mg "CertainError" = some (.ref (He.ga K "CertainError"))
  m_BadStore : mg "BadStore" = some (.ref (He.ga K "BadStore"))
  m_Nothing : mg "Nothing" = some (.ref (He.ga K "Nothing"))
  m_TooLarge : mg "TooLarge" = some (.ref (He.ga K "TooLarge"))
  x_CertainError : Cl K mg "CertainError"
  x_Nothing : Cl K mg "Nothing"
  exm_CertainError : ∀ n, PySem.W.exmOne K ((Ly K).cls n) (.ref (He.ga K "CertainError")) = some (([c_CertainError, c_BadStore, c_Nothing, c_TooLarge] : List Nat).contains n)
  exm_BadStore : ∀ n, PySem.W.exmOne K ((Ly K).cls n) (.ref (He.ga K "BadStore")) = some (([c_BadStore] : List Nat).contains n)
  exm_Nothing : ∀ n, PySem.W.exmOne K ((Ly K).cls n) (.ref (He.ga K "Nothing")) = some (([c_Nothing] : List Nat).contains n)
  exm_TooLarge : ∀ n, PySem.W.exmOne K ((Ly K).cls n) (.ref (He.ga K "TooLarge")) = some (([c_TooLarge] : List Nat).contains n)
section
variable {P : Program} {w : World} {K : PySem.W.Frag} {mg : Str → Option Value} {base : Heap} {k : Nat} (V : Txt K w mg)
  (D : ∀ f, (Ly K).fn f = true → FnAt P w K mg base k ((Ly K).fa f) (spF (cfL K w (Ly K)) (muF F f) (call F G k) f (arF F f)))
  (TBs : ∀ p ∈ tfs K, LamX.TabB base mg p.1 p.2)
include V D TBs
omit V D TBs in
theorem sc_is_number : FnScope ["thing"] ["thing"] (defScope (Hd.top 12)) := C8.fnScope_by (by decide +kernel)
theorem t_is_number (cdv : Value) (hco : ∀ q, (Ly K).fa f_is_number = He.fAd K q → cdv = .ref (He.codeOf K q)) (A : Around) (outer : List Env) (s : Shared) (H : Hp) (E : XK) (hrX : RoomX k (A.deeper (envOfC "is_number" (defScope (Hd.top 12)) s.heap.objs.size ((Ly K).fa f_is_number) cdv))) (hg : A.guards = some []) :
    SSs (atB P w K mg base (Ly K) F G k ["thing"] "is_number" (defScope (Hd.top 12)) ((Ly K).fa f_is_number) cdv [] A outer s H E) b_is_number.body (defBody (Hd.top 12)) :=
  have NN := (sc_is_number).nd
  have hr := hrX.r
  (ss_cons (ss_ret (se_and (SE.v (q_isInt V.isinstance V.int (sv_p (pv 0)))) (se_and1 (se_not trD (SE.v (q_isBool V.isinstance V.bool (sv_p (pv 0)))))))) ss_nil)
omit V D TBs in
theorem sc_is_name : FnScope ["thing", "sign"] ["thing"] (defScope (Hd.top 13)) := C8.fnScope_by (by decide +kernel)
theorem t_is_name (cdv : Value) (hco : ∀ q, (Ly K).fa f_is_name = He.fAd K q → cdv = .ref (He.codeOf K q)) (A : Around) (outer : List Env) (s : Shared) (H : Hp) (E : XK) (hrX : RoomX k (A.deeper (envOfC "is_name" (defScope (Hd.top 13)) s.heap.objs.size ((Ly K).fa f_is_name) cdv))) (hg : A.guards = some []) :
    SSs (atB P w K mg base (Ly K) F G k ["thing", "sign"] "is_name" (defScope (Hd.top 13)) ((Ly K).fa f_is_name) cdv [] A outer s H E) b_is_name.body (defBody (Hd.top 13)) :=
  have NN := (sc_is_name).nd
  have hr := hrX.r
  (ss_cons (ss_if (SW.st (sw_or (st_not (st_tr trD (SE.v (q_isStr V.isinstance V.str (sv_p (pv 0)))) (fun _ => rfl))) (sw_or1 (st_not (st_chain bin_le bin_le rfl rfl (by with_unfolding_all rfl) se_int (q_len V.len (sv_p (pv 0))) (SE.v (q_gl V.g_MOST_LETTERS rfl))))))) (ss_cons (ss_ret se_bool) ss_nil) ss_nil) (ss_cons (ss_if (SW.st (sw_or (st_cmp (bin_notin (Room.u65 hr) (inD_of (Room.u70 hr))) rfl (by with_unfolding_all rfl) rfl (se_ixp (ixD_of (Room.u70 hr)) (fun _ _ => rfl) (pv 0) (SE.v se_int)) (SE.v (q_gl V.g_LETTERS rfl))) (sw_or1 (st_cmpp (bin_in (Room.u65 hr) (inD_of (Room.u70 hr))) rfl (by with_unfolding_all rfl) (pv 0) (SE.v (q_gl V.g_RESERVED rfl)))))) (ss_cons (ss_ret se_bool) ss_nil) ss_nil) (ss_cons (ss_ret (q_all rfl V.all (SE.v (se_lc rfl NN (si_any (se_v (pv 0))) (blkOk_by (own := [("sign", 1)]) rfl) rfl (of_decide_eq_true rfl) (fun _ _ _ _ _ => (sg_n (pg_name NN rfl (by first | exact .inl rfl | exact .inr rfl)) (of_decide_eq_true rfl))) (fun _ _ _ _ _ => spt_nil) (fun _ _ _ _ _ => (se_cmpp (bin_in (Room.u65 hr) (inD_of (Room.u70 hr))) (by with_unfolding_all rfl) (pv 1) (SE.v (se_bin bin_add rfl (q_gl V.g_LETTERS rfl) (SE.v (q_gl V.g_DIGITS rfl)))))) (fun _ => rfl))))) ss_nil)))
omit V D TBs in
theorem sc_great : FnScope ["found", "_figure"] [] (defScope (Hd.top 14)) := C8.fnScope_by (by decide +kernel)
theorem t_great (cdv : Value) (hco : ∀ q, (Ly K).fa f_great = He.fAd K q → cdv = .ref (He.codeOf K q)) (A : Around) (outer : List Env) (s : Shared) (H : Hp) (E : XK) (hrX : RoomX k (A.deeper (envOfC "great" (defScope (Hd.top 14)) s.heap.objs.size ((Ly K).fa f_great) cdv))) (hg : A.guards = some []) :
    SSs (atB P w K mg base (Ly K) F G k ["found", "_figure"] "great" (defScope (Hd.top 14)) ((Ly K).fa f_great) cdv [] A outer s H E) b_great.body (defBody (Hd.top 14)) :=
  have NN := (sc_great).nd
  have hr := hrX.r
  (ss_cons (ss_set NN rfl (by first | exact .inl rfl | exact .inr rfl) (by first | exact .inl rfl | exact .inr rfl) (of_decide_eq_true rfl) se_int rfl) (ss_cons (ss_for (passes_of rfl) rfl (si_range (by rfl) V.range (SE.v (q_gl V.g_MOST_FIGURES rfl)) (by rfl)) (sg_n (pg_name NN rfl (by first | exact .inl rfl | exact .inr rfl)) (of_decide_eq_true rfl)) (ss_cons (ss_aug NN rfl (by first | exact .inl rfl | exact .inr rfl) (by first | exact .inl rfl | exact .inr rfl) (of_decide_eq_true rfl) ip_mulX se_int) ss_nil) (of_decide_eq_true rfl) (fun _ => rfl)) (ss_cons (ss_ret (se_mv (pv 0))) ss_nil)))
omit V D TBs in
theorem sc_is_value : FnScope ["thing", "bound"] ["thing"] (defScope (Hd.top 15)) := C8.fnScope_by (by decide +kernel)
theorem t_is_value (cdv : Value) (hco : ∀ q, (Ly K).fa f_is_value = He.fAd K q → cdv = .ref (He.codeOf K q)) (A : Around) (outer : List Env) (s : Shared) (H : Hp) (E : XK) (hrX : RoomX k (A.deeper (envOfC "is_value" (defScope (Hd.top 15)) s.heap.objs.size ((Ly K).fa f_is_value) cdv))) (hg : A.guards = some []) :
    SSs (atB P w K mg base (Ly K) F G k ["thing", "bound"] "is_value" (defScope (Hd.top 15)) ((Ly K).fa f_is_value) cdv [] A outer s H E) b_is_value.body (defBody (Hd.top 15)) :=
  have NN := (sc_is_value).nd
  have hr := hrX.r
  (ss_cons (ss_if (st_tr trD (SE.v (q_call (D f_is_number rfl) hr hg (takes_of rfl rfl rfl rfl) V.f_is_number (q_g1 (se_v (pv 0)) sg_nil))) (fun _ => rfl)) (ss_cons (ss_set NN rfl (by first | exact .inl rfl | exact .inr rfl) (by first | exact .inl rfl | exact .inr rfl) (of_decide_eq_true rfl) (q_call0 (D f_great rfl) hr hg (takes_of rfl rfl rfl rfl) V.f_great) rfl) (ss_cons (ss_ret (se_chain (bin_lt hr.units) (bin_lt hr.units) rfl (by with_unfolding_all rfl) (se_neg (sv_p (pv 1))) (se_v (pv 0)) (sv_p (pv 1)))) ss_nil)) ss_nil) (ss_cons (ss_ret (q_call (D f_is_name rfl) hr hg (takes_of rfl rfl rfl rfl) V.f_is_name (q_g1 (se_v (pv 0)) sg_nil))) ss_nil))
omit V D TBs in
theorem sc_is_tuple_of : FnScope ["thing", "is_one", "one"] ["thing", "is_one"] (defScope (Hd.top 16)) := C8.fnScope_by (by decide +kernel)
theorem t_is_tuple_of (cdv : Value) (hco : ∀ q, (Ly K).fa f_is_tuple_of = He.fAd K q → cdv = .ref (He.codeOf K q)) (A : Around) (outer : List Env) (s : Shared) (H : Hp) (E : XK) (hrX : RoomX k (A.deeper (envOfC "is_tuple_of" (defScope (Hd.top 16)) s.heap.objs.size ((Ly K).fa f_is_tuple_of) cdv))) (hg : A.guards = some []) :
    SSs (atB P w K mg base (Ly K) F G k ["thing", "is_one", "one"] "is_tuple_of" (defScope (Hd.top 16)) ((Ly K).fa f_is_tuple_of) cdv [] A outer s H E) b_is_tuple_of.body (defBody (Hd.top 16)) :=
  have NN := (sc_is_tuple_of).nd
  have hr := hrX.r
  (ss_cons (ss_ret (se_and (SE.v (q_isTup V.isinstance V.tuple (sv_p (pv 0)))) (se_and1 (q_all rfl V.all (SE.v (se_lc rfl NN (si_any (se_v (pv 0))) (blkOk_by (own := [("one", 2)]) rfl) rfl (of_decide_eq_true rfl) (fun _ _ _ _ _ => (sg_n (pg_name NN rfl (by first | exact .inl rfl | exact .inr rfl)) (of_decide_eq_true rfl))) (fun _ _ _ _ _ => spt_nil) (fun _ _ _ _ _ => (q_callv D (call_ar _) hr hg takes0 (pv 1) (q_g1 (se_v (pv 2)) sg_nil))) (fun _ => rfl))))))) ss_nil)
omit V D TBs in
theorem sc_is_sized : FnScope ["thing", "many"] ["thing", "many"] (defScope (Hd.top 17)) := C8.fnScope_by (by decide +kernel)
theorem t_is_sized (cdv : Value) (hco : ∀ q, (Ly K).fa f_is_sized = He.fAd K q → cdv = .ref (He.codeOf K q)) (A : Around) (outer : List Env) (s : Shared) (H : Hp) (E : XK) (hrX : RoomX k (A.deeper (envOfC "is_sized" (defScope (Hd.top 17)) s.heap.objs.size ((Ly K).fa f_is_sized) cdv))) (hg : A.guards = some []) :
    SSs (atB P w K mg base (Ly K) F G k ["thing", "many"] "is_sized" (defScope (Hd.top 17)) ((Ly K).fa f_is_sized) cdv [] A outer s H E) b_is_sized.body (defBody (Hd.top 17)) :=
  have NN := (sc_is_sized).nd
  have hr := hrX.r
  (ss_cons (ss_ret (se_and (SE.v (q_isTup V.isinstance V.tuple (sv_p (pv 0)))) (se_and1 (se_cmp (bin_eq hr.units) (nomark _) rfl (q_len V.len (sv_p (pv 0))) (sv_p (pv 1)))))) ss_nil)
omit V D TBs in
theorem sc_is_row : FnScope ["thing"] ["thing"] (defScope (Hd.top 18)) := C8.fnScope_by (by decide +kernel)
theorem t_is_row (cdv : Value) (hco : ∀ q, (Ly K).fa f_is_row = He.fAd K q → cdv = .ref (He.codeOf K q)) (A : Around) (outer : List Env) (s : Shared) (H : Hp) (E : XK) (hrX : RoomX k (A.deeper (envOfC "is_row" (defScope (Hd.top 18)) s.heap.objs.size ((Ly K).fa f_is_row) cdv))) (hg : A.guards = some []) :
    SSs (atB P w K mg base (Ly K) F G k ["thing"] "is_row" (defScope (Hd.top 18)) ((Ly K).fa f_is_row) cdv [] A outer s H E) b_is_row.body (defBody (Hd.top 18)) :=
  have NN := (sc_is_row).nd
  have hr := hrX.r
  (ss_cons (ss_ret (q_call (D f_is_tuple_of rfl) hr hg (takes_of rfl rfl rfl rfl) V.f_is_tuple_of (q_g1 (se_v (pv 0)) (q_g1 (se_fnv rfl (pe_glob rfl V.f_is_value rfl)) sg_nil)))) ss_nil)
omit V D TBs in
theorem sc_is_rows_form : FnScope ["thing"] ["thing"] (defScope (Hd.top 19)) := C8.fnScope_by (by decide +kernel)
theorem t_is_rows_form (cdv : Value) (hco : ∀ q, (Ly K).fa f_is_rows_form = He.fAd K q → cdv = .ref (He.codeOf K q)) (A : Around) (outer : List Env) (s : Shared) (H : Hp) (E : XK) (hrX : RoomX k (A.deeper (envOfC "is_rows_form" (defScope (Hd.top 19)) s.heap.objs.size ((Ly K).fa f_is_rows_form) cdv))) (hg : A.guards = some []) :
    SSs (atB P w K mg base (Ly K) F G k ["thing"] "is_rows_form" (defScope (Hd.top 19)) ((Ly K).fa f_is_rows_form) cdv [] A outer s H E) b_is_rows_form.body (defBody (Hd.top 19)) :=
  have NN := (sc_is_rows_form).nd
  have hr := hrX.r
  (ss_cons (ss_ret (se_and (SE.v (q_call (D f_is_sized rfl) hr hg (takes_of rfl rfl rfl rfl) V.f_is_sized (q_g1 (se_v (pv 0)) (q_g1 se_int sg_nil)))) (se_and (SE.v (q_call (D f_is_name rfl) hr hg (takes_of rfl rfl rfl rfl) V.f_is_name (q_g1 (se_ixp (ixD_of (Room.u70 hr)) (fun _ _ => rfl) (pv 0) (SE.v se_int)) sg_nil))) (se_and1 (q_call (D f_is_tuple_of rfl) hr hg (takes_of rfl rfl rfl rfl) V.f_is_tuple_of (q_g1 (se_ixp (ixD_of (Room.u70 hr)) (fun _ _ => rfl) (pv 0) (SE.v se_int)) (q_g1 (se_fnv rfl (pe_glob rfl V.f_is_row rfl)) sg_nil))))))) ss_nil)
omit V D TBs in
theorem sc_is_store_form : FnScope ["thing"] ["thing"] (defScope (Hd.top 20)) := C8.fnScope_by (by decide +kernel)
theorem t_is_store_form (cdv : Value) (hco : ∀ q, (Ly K).fa f_is_store_form = He.fAd K q → cdv = .ref (He.codeOf K q)) (A : Around) (outer : List Env) (s : Shared) (H : Hp) (E : XK) (hrX : RoomX k (A.deeper (envOfC "is_store_form" (defScope (Hd.top 20)) s.heap.objs.size ((Ly K).fa f_is_store_form) cdv))) (hg : A.guards = some []) :
    SSs (atB P w K mg base (Ly K) F G k ["thing"] "is_store_form" (defScope (Hd.top 20)) ((Ly K).fa f_is_store_form) cdv [] A outer s H E) b_is_store_form.body (defBody (Hd.top 20)) :=
  have NN := (sc_is_store_form).nd
  have hr := hrX.r
  (ss_cons (ss_ret (q_call (D f_is_tuple_of rfl) hr hg (takes_of rfl rfl rfl rfl) V.f_is_tuple_of (q_g1 (se_v (pv 0)) (q_g1 (se_fnv rfl (pe_glob rfl V.f_is_rows_form rfl)) sg_nil)))) ss_nil)
omit V D TBs in
theorem sc_value_key : FnScope ["value"] ["value"] (defScope (Hd.top 21)) := C8.fnScope_by (by decide +kernel)
theorem t_value_key (cdv : Value) (hco : ∀ q, (Ly K).fa f_value_key = He.fAd K q → cdv = .ref (He.codeOf K q)) (A : Around) (outer : List Env) (s : Shared) (H : Hp) (E : XK) (hrX : RoomX k (A.deeper (envOfC "value_key" (defScope (Hd.top 21)) s.heap.objs.size ((Ly K).fa f_value_key) cdv))) (hg : A.guards = some []) :
    SSs (atB P w K mg base (Ly K) F G k ["value"] "value_key" (defScope (Hd.top 21)) ((Ly K).fa f_value_key) cdv [] A outer s H E) b_value_key.body (defBody (Hd.top 21)) :=
  have NN := (sc_value_key).nd
  have hr := hrX.r
  (ss_cons (ss_ret (se_ite (st_tr trD (SE.v (q_isStr V.isinstance V.str (sv_p (pv 0)))) (fun _ => rfl)) (se_tup (q_a1 se_int (q_a1 se_int (q_a1 (se_v (pv 0)) sa_nil)))) (se_tup (q_a1 se_int (q_a1 (se_v (pv 0)) (q_a1 (se_str ⟨by decide +kernel, by decide +kernel⟩) sa_nil)))))) ss_nil)
omit V D TBs in
theorem sc_row_key : FnScope ["row", "value"] ["row"] (defScope (Hd.top 22)) := C8.fnScope_by (by decide +kernel)
theorem t_row_key (cdv : Value) (hco : ∀ q, (Ly K).fa f_row_key = He.fAd K q → cdv = .ref (He.codeOf K q)) (A : Around) (outer : List Env) (s : Shared) (H : Hp) (E : XK) (hrX : RoomX k (A.deeper (envOfC "row_key" (defScope (Hd.top 22)) s.heap.objs.size ((Ly K).fa f_row_key) cdv))) (hg : A.guards = some []) :
    SSs (atB P w K mg base (Ly K) F G k ["row", "value"] "row_key" (defScope (Hd.top 22)) ((Ly K).fa f_row_key) cdv [] A outer s H E) b_row_key.body (defBody (Hd.top 22)) :=
  have NN := (sc_row_key).nd
  have hr := hrX.r
  (ss_cons (ss_ret (q_tuple V.tuple (SE.v (se_lc rfl NN (si_any (se_v (pv 0))) (blkOk_by (own := [("value", 1)]) rfl) rfl (of_decide_eq_true rfl) (fun _ _ _ _ _ => (sg_n (pg_name NN rfl (by first | exact .inl rfl | exact .inr rfl)) (of_decide_eq_true rfl))) (fun _ _ _ _ _ => spt_nil) (fun _ _ _ _ _ => (q_call (D f_value_key rfl) hr hg takes0 V.f_value_key (q_g1 (se_v (pv 1)) sg_nil))) (fun _ => rfl))))) ss_nil)
omit V D TBs in
theorem sc_ascending : FnScope ["rows", "row"] ["rows"] (defScope (Hd.top 23)) := C8.fnScope_by (by decide +kernel)
theorem t_ascending (cdv : Value) (hco : ∀ q, (Ly K).fa f_ascending = He.fAd K q → cdv = .ref (He.codeOf K q)) (A : Around) (outer : List Env) (s : Shared) (H : Hp) (E : XK) (hrX : RoomX k (A.deeper (envOfC "ascending" (defScope (Hd.top 23)) s.heap.objs.size ((Ly K).fa f_ascending) cdv))) (hg : A.guards = some []) :
    SSs (atB P w K mg base (Ly K) F G k ["rows", "row"] "ascending" (defScope (Hd.top 23)) ((Ly K).fa f_ascending) cdv [] A outer s H E) b_ascending.body (defBody (Hd.top 23)) :=
  have NN := (sc_ascending).nd
  have hr := hrX.r
  (ss_cons (ss_ret (q_tuple V.tuple (SE.v (se_srtf rfl (D f_row_key rfl) hrX.i hg V.sorted V.f_row_key (SE.v (se_dc (Room.u70 hr) rfl NN (si_any (se_v (pv 0))) (blkOk_by (own := [("row", 1)]) rfl) rfl (of_decide_eq_true rfl) (fun _ _ _ _ _ => (sg_n (pg_name NN rfl (by first | exact .inl rfl | exact .inr rfl)) (of_decide_eq_true rfl))) (fun _ _ _ _ _ => spt_nil) (fun _ _ _ _ _ => (se_v (pv 1))) (fun _ _ _ _ _ => se_bool) (fun _ => rfl))))))) ss_nil)
omit V D TBs in
theorem sc_are_rising : FnScope ["things", "one", "other"] ["things"] (defScope (Hd.top 25)) := C8.fnScope_by (by decide +kernel)
theorem t_are_rising (cdv : Value) (hco : ∀ q, (Ly K).fa f_are_rising = He.fAd K q → cdv = .ref (He.codeOf K q)) (A : Around) (outer : List Env) (s : Shared) (H : Hp) (E : XK) (hrX : RoomX k (A.deeper (envOfC "are_rising" (defScope (Hd.top 25)) s.heap.objs.size ((Ly K).fa f_are_rising) cdv))) (hg : A.guards = some []) :
    SSs (atB P w K mg base (Ly K) F G k ["things", "one", "other"] "are_rising" (defScope (Hd.top 25)) ((Ly K).fa f_are_rising) cdv [] A outer s H E) b_are_rising.body (defBody (Hd.top 25)) :=
  have NN := (sc_are_rising).nd
  have hr := hrX.r
  (ss_cons (ss_ret (q_all rfl V.all (SE.v (se_lc rfl NN (si_zip rfl rfl rfl (by rfl) V.zip (q_a1 (se_v (pv 0)) (q_a1 (se_slicep (pv 0) (so_some (SE.v se_int)) so_none) sa_nil))) (blkOk_by (own := [("one", 1), ("other", 2)]) rfl) rfl (of_decide_eq_true rfl) (fun _ _ _ _ _ => (sg_t rfl (sg_ts1 (sg_n (pg_name NN rfl (by first | exact .inl rfl | exact .inr rfl)) (of_decide_eq_true rfl)) (sg_ts1 (sg_n (pg_name NN rfl (by first | exact .inl rfl | exact .inr rfl)) (of_decide_eq_true rfl)) sg_ts0 rfl) rfl) rfl rfl rfl)) (fun _ _ _ _ _ => spt_nil) (fun _ _ _ _ _ => (se_cmpp (bin_lt hr.units) (nomark _) (pv 1) (sv_p (pv 2)))) (fun _ => rfl))))) ss_nil)
omit V D TBs in
theorem sc_table_names : FnScope ["scheme", "name", "columns", "keys"] ["scheme"] (defScope (Hd.top 26)) := C8.fnScope_by (by decide +kernel)
theorem t_table_names (cdv : Value) (hco : ∀ q, (Ly K).fa f_table_names = He.fAd K q → cdv = .ref (He.codeOf K q)) (A : Around) (outer : List Env) (s : Shared) (H : Hp) (E : XK) (hrX : RoomX k (A.deeper (envOfC "table_names" (defScope (Hd.top 26)) s.heap.objs.size ((Ly K).fa f_table_names) cdv))) (hg : A.guards = some []) :
    SSs (atB P w K mg base (Ly K) F G k ["scheme", "name", "columns", "keys"] "table_names" (defScope (Hd.top 26)) ((Ly K).fa f_table_names) cdv [] A outer s H E) b_table_names.body (defBody (Hd.top 26)) :=
  have NN := (sc_table_names).nd
  have hr := hrX.r
  (ss_cons (ss_ret (q_tuple V.tuple (SE.v (se_lc rfl NN (si_any (se_v (pv 0))) (blkOk_by (own := [("name", 1), ("columns", 2), ("keys", 3)]) rfl) rfl (of_decide_eq_true rfl) (fun _ _ _ _ _ => (sg_t rfl (sg_ts1 (sg_n (pg_name NN rfl (by first | exact .inl rfl | exact .inr rfl)) (of_decide_eq_true rfl)) (sg_ts1 (sg_n (pg_name NN rfl (by first | exact .inl rfl | exact .inr rfl)) (of_decide_eq_true rfl)) (sg_ts1 (sg_n (pg_name NN rfl (by first | exact .inl rfl | exact .inr rfl)) (of_decide_eq_true rfl)) sg_ts0 rfl) rfl) rfl) rfl rfl rfl)) (fun _ _ _ _ _ => spt_nil) (fun _ _ _ _ _ => (se_v (pv 1))) (fun _ => rfl))))) ss_nil)
omit V D TBs in
theorem sc_table_of : FnScope ["scheme", "table", "one"] ["scheme", "table"] (defScope (Hd.top 27)) := C8.fnScope_by (by decide +kernel)
theorem t_table_of (cdv : Value) (hco : ∀ q, (Ly K).fa f_table_of = He.fAd K q → cdv = .ref (He.codeOf K q)) (A : Around) (outer : List Env) (s : Shared) (H : Hp) (E : XK) (hrX : RoomX k (A.deeper (envOfC "table_of" (defScope (Hd.top 27)) s.heap.objs.size ((Ly K).fa f_table_of) cdv))) (hg : A.guards = some []) :
    SSs (atB P w K mg base (Ly K) F G k ["scheme", "table", "one"] "table_of" (defScope (Hd.top 27)) ((Ly K).fa f_table_of) cdv [] A outer s H E) b_table_of.body (defBody (Hd.top 27)) :=
  have NN := (sc_table_of).nd
  have hr := hrX.r
  (ss_cons (ss_for (passes_of rfl) rfl (si_any (se_v (pv 0))) (sg_n (pg_name NN rfl (by first | exact .inl rfl | exact .inr rfl)) (of_decide_eq_true rfl)) (ss_cons (ss_if (st_cmp (bin_eq hr.units) rfl (nomark _) rfl (se_ixp (ixD_of (Room.u70 hr)) (fun _ _ => rfl) (pv 2) (SE.v se_int)) (sv_p (pv 1))) (ss_cons (ss_ret (se_mv (pv 2))) ss_nil) ss_nil) ss_nil) (of_decide_eq_true rfl) (fun _ => rfl)) (ss_cons (ss_raise0 rfl (takes_of rfl rfl rfl rfl) rfl (pmk_0 PySem.F.excBase_ValueError V.x_Nothing.e V.x_Nothing.m V.x_Nothing.k (raises_own V.x_Nothing.b V.x_Nothing.t) rfl (by decide))) ss_nil))
omit V D TBs in
theorem sc_columns_of : FnScope ["scheme", "table"] ["scheme", "table"] (defScope (Hd.top 28)) := C8.fnScope_by (by decide +kernel)
theorem t_columns_of (cdv : Value) (hco : ∀ q, (Ly K).fa f_columns_of = He.fAd K q → cdv = .ref (He.codeOf K q)) (A : Around) (outer : List Env) (s : Shared) (H : Hp) (E : XK) (hrX : RoomX k (A.deeper (envOfC "columns_of" (defScope (Hd.top 28)) s.heap.objs.size ((Ly K).fa f_columns_of) cdv))) (hg : A.guards = some []) :
    SSs (atB P w K mg base (Ly K) F G k ["scheme", "table"] "columns_of" (defScope (Hd.top 28)) ((Ly K).fa f_columns_of) cdv [] A outer s H E) b_columns_of.body (defBody (Hd.top 28)) :=
  have NN := (sc_columns_of).nd
  have hr := hrX.r
  (ss_cons (ss_ret (se_ix (ixD_of (Room.u70 hr)) (fun _ _ => rfl) rfl (q_call (D f_table_of rfl) hr hg (takes_of rfl rfl rfl rfl) V.f_table_of (q_g1 (se_v (pv 0)) (q_g1 (se_v (pv 1)) sg_nil))) (SE.v se_int))) ss_nil)
omit V D TBs in
theorem sc_keys_of : FnScope ["scheme", "table"] ["scheme", "table"] (defScope (Hd.top 29)) := C8.fnScope_by (by decide +kernel)
theorem t_keys_of (cdv : Value) (hco : ∀ q, (Ly K).fa f_keys_of = He.fAd K q → cdv = .ref (He.codeOf K q)) (A : Around) (outer : List Env) (s : Shared) (H : Hp) (E : XK) (hrX : RoomX k (A.deeper (envOfC "keys_of" (defScope (Hd.top 29)) s.heap.objs.size ((Ly K).fa f_keys_of) cdv))) (hg : A.guards = some []) :
    SSs (atB P w K mg base (Ly K) F G k ["scheme", "table"] "keys_of" (defScope (Hd.top 29)) ((Ly K).fa f_keys_of) cdv [] A outer s H E) b_keys_of.body (defBody (Hd.top 29)) :=
  have NN := (sc_keys_of).nd
  have hr := hrX.r
  (ss_cons (ss_ret (se_ix (ixD_of (Room.u70 hr)) (fun _ _ => rfl) rfl (q_call (D f_table_of rfl) hr hg (takes_of rfl rfl rfl rfl) V.f_table_of (q_g1 (se_v (pv 0)) (q_g1 (se_v (pv 1)) sg_nil))) (SE.v se_int))) ss_nil)
omit V D TBs in
theorem sc_check_rows : FnScope ["scheme", "name", "rows", "index", "row"] ["scheme", "name", "rows"] (defScope (Hd.top 32)) := C8.fnScope_by (by decide +kernel)
theorem t_check_rows (cdv : Value) (hco : ∀ q, (Ly K).fa f_check_rows = He.fAd K q → cdv = .ref (He.codeOf K q)) (A : Around) (outer : List Env) (s : Shared) (H : Hp) (E : XK) (hrX : RoomX k (A.deeper (envOfC "check_rows" (defScope (Hd.top 32)) s.heap.objs.size ((Ly K).fa f_check_rows) cdv))) (hg : A.guards = some []) :
    SSs (atB P w K mg base (Ly K) F G k ["scheme", "name", "rows", "index", "row"] "check_rows" (defScope (Hd.top 32)) ((Ly K).fa f_check_rows) cdv [] A outer s H E) b_check_rows.body (defBody (Hd.top 32)) :=
  have NN := (sc_check_rows).nd
  have hr := hrX.r
  (ss_cons (ss_if (st_cmp bin_gt rfl (nomark _) rfl (q_len V.len (sv_p (pv 2))) (SE.v (q_gl V.g_MOST_ROWS rfl))) (ss_cons (ss_bad (fun _ => rfl)) ss_nil) ss_nil) (ss_cons (ss_for (passes_of rfl) rfl (si_enum (by rfl) V.enumerate (se_v (pv 2))) (sg_t rfl (sg_ts1 (sg_n (pg_name NN rfl (by first | exact .inl rfl | exact .inr rfl)) (of_decide_eq_true rfl)) (sg_ts1 (sg_n (pg_name NN rfl (by first | exact .inl rfl | exact .inr rfl)) (of_decide_eq_true rfl)) sg_ts0 rfl) rfl) rfl rfl rfl) (ss_cons (ss_if (st_cmp (bin_ne hr.units) rfl (nomark _) rfl (q_len V.len (sv_p (pv 4))) (SE.v (q_call (D f_columns_of rfl) hr hg (takes_of rfl rfl rfl rfl) V.f_columns_of (q_g1 (se_v (pv 0)) (q_g1 (se_v (pv 1)) sg_nil))))) (ss_cons (ss_bad (fun _ => rfl)) ss_nil) ss_nil) ss_nil) (of_decide_eq_true rfl) (fun _ => rfl)) (ss_cons (ss_if (st_not (st_tr trD (SE.v (q_call (D f_are_rising rfl) hr hg (takes_of rfl rfl rfl rfl) V.f_are_rising (q_g1 (se_lc rfl NN (si_any (se_v (pv 2))) (blkOk_by (own := [("row", 4)]) rfl) rfl (of_decide_eq_true rfl) (fun _ _ _ _ _ => (sg_n (pg_name NN rfl (by first | exact .inl rfl | exact .inr rfl)) (of_decide_eq_true rfl))) (fun _ _ _ _ _ => spt_nil) (fun _ _ _ _ _ => (q_call (D f_row_key rfl) hr hg takes0 V.f_row_key (q_g1 (se_v (pv 4)) sg_nil))) (fun _ => rfl)) sg_nil))) (fun _ => rfl))) (ss_cons (ss_bad (fun _ => rfl)) ss_nil) ss_nil) ss_nil)))
omit V D TBs in
theorem sc_checked_store : FnScope ["scheme", "thing", "name", "rows"] ["scheme", "thing"] (defScope (Hd.top 33)) := C8.fnScope_by (by decide +kernel)
theorem t_checked_store (cdv : Value) (hco : ∀ q, (Ly K).fa f_checked_store = He.fAd K q → cdv = .ref (He.codeOf K q)) (A : Around) (outer : List Env) (s : Shared) (H : Hp) (E : XK) (hrX : RoomX k (A.deeper (envOfC "checked_store" (defScope (Hd.top 33)) s.heap.objs.size ((Ly K).fa f_checked_store) cdv))) (hg : A.guards = some []) :
    SSs (atB P w K mg base (Ly K) F G k ["scheme", "thing", "name", "rows"] "checked_store" (defScope (Hd.top 33)) ((Ly K).fa f_checked_store) cdv [] A outer s H E) b_checked_store.body (defBody (Hd.top 33)) :=
  have NN := (sc_checked_store).nd
  have hr := hrX.r
  (ss_cons (ss_if (st_not (st_tr trD (SE.v (q_call (D f_is_store_form rfl) hr hg (takes_of rfl rfl rfl rfl) V.f_is_store_form (q_g1 (se_v (pv 1)) sg_nil))) (fun _ => rfl))) (ss_cons (ss_bad (fun _ => rfl)) ss_nil) ss_nil) (ss_cons (ss_if (st_cmp (bin_ne hr.units) rfl (nomark _) rfl (q_tuple V.tuple (SE.v (se_lc rfl NN (si_any (se_v (pv 1))) (blkOk_by (own := [("name", 2), ("rows", 3)]) rfl) rfl (of_decide_eq_true rfl) (fun _ _ _ _ _ => (sg_t rfl (sg_ts1 (sg_n (pg_name NN rfl (by first | exact .inl rfl | exact .inr rfl)) (of_decide_eq_true rfl)) (sg_ts1 (sg_n (pg_name NN rfl (by first | exact .inl rfl | exact .inr rfl)) (of_decide_eq_true rfl)) sg_ts0 rfl) rfl) rfl rfl rfl)) (fun _ _ _ _ _ => spt_nil) (fun _ _ _ _ _ => (se_v (pv 2))) (fun _ => rfl)))) (SE.v (q_call (D f_table_names rfl) hr hg (takes_of rfl rfl rfl rfl) V.f_table_names (q_g1 (se_v (pv 0)) sg_nil)))) (ss_cons (ss_bad (fun _ => rfl)) ss_nil) ss_nil) (ss_cons (ss_for (passes_of rfl) rfl (si_any (se_v (pv 1))) (sg_t rfl (sg_ts1 (sg_n (pg_name NN rfl (by first | exact .inl rfl | exact .inr rfl)) (of_decide_eq_true rfl)) (sg_ts1 (sg_n (pg_name NN rfl (by first | exact .inl rfl | exact .inr rfl)) (of_decide_eq_true rfl)) sg_ts0 rfl) rfl) rfl rfl rfl) (ss_cons (ss_ex (q_call (D f_check_rows rfl) hr hg (takes_of rfl rfl rfl rfl) V.f_check_rows (q_g1 (se_v (pv 0)) (q_g1 (se_v (pv 2)) (q_g1 (se_v (pv 3)) sg_nil)))) rfl) ss_nil) (of_decide_eq_true rfl) (fun _ => rfl)) (ss_cons (ss_ret (se_mv (pv 1))) ss_nil))))
omit V D TBs in
theorem sc_rows_of : FnScope ["store", "table", "name", "rows"] ["store", "table"] (defScope (Hd.top 34)) := C8.fnScope_by (by decide +kernel)
theorem t_rows_of (cdv : Value) (hco : ∀ q, (Ly K).fa f_rows_of = He.fAd K q → cdv = .ref (He.codeOf K q)) (A : Around) (outer : List Env) (s : Shared) (H : Hp) (E : XK) (hrX : RoomX k (A.deeper (envOfC "rows_of" (defScope (Hd.top 34)) s.heap.objs.size ((Ly K).fa f_rows_of) cdv))) (hg : A.guards = some []) :
    SSs (atB P w K mg base (Ly K) F G k ["store", "table", "name", "rows"] "rows_of" (defScope (Hd.top 34)) ((Ly K).fa f_rows_of) cdv [] A outer s H E) b_rows_of.body (defBody (Hd.top 34)) :=
  have NN := (sc_rows_of).nd
  have hr := hrX.r
  (ss_cons (ss_for (passes_of rfl) rfl (si_any (se_v (pv 0))) (sg_t rfl (sg_ts1 (sg_n (pg_name NN rfl (by first | exact .inl rfl | exact .inr rfl)) (of_decide_eq_true rfl)) (sg_ts1 (sg_n (pg_name NN rfl (by first | exact .inl rfl | exact .inr rfl)) (of_decide_eq_true rfl)) sg_ts0 rfl) rfl) rfl rfl rfl) (ss_cons (ss_if (st_cmpp (bin_eq hr.units) rfl (nomark _) (pv 2) (sv_p (pv 1))) (ss_cons (ss_ret (se_mv (pv 3))) ss_nil) ss_nil) ss_nil) (of_decide_eq_true rfl) (fun _ => rfl)) (ss_cons (ss_raise0 rfl (takes_of rfl rfl rfl rfl) rfl (pmk_0 PySem.F.excBase_ValueError V.x_Nothing.e V.x_Nothing.m V.x_Nothing.k (raises_own V.x_Nothing.b V.x_Nothing.t) rfl (by decide))) ss_nil))
omit V D TBs in
theorem sc_with_rows : FnScope ["store", "table", "rows", "name", "its"] ["store", "table", "rows"] (defScope (Hd.top 35)) := C8.fnScope_by (by decide +kernel)
theorem t_with_rows (cdv : Value) (hco : ∀ q, (Ly K).fa f_with_rows = He.fAd K q → cdv = .ref (He.codeOf K q)) (A : Around) (outer : List Env) (s : Shared) (H : Hp) (E : XK) (hrX : RoomX k (A.deeper (envOfC "with_rows" (defScope (Hd.top 35)) s.heap.objs.size ((Ly K).fa f_with_rows) cdv))) (hg : A.guards = some []) :
    SSs (atB P w K mg base (Ly K) F G k ["store", "table", "rows", "name", "its"] "with_rows" (defScope (Hd.top 35)) ((Ly K).fa f_with_rows) cdv [] A outer s H E) b_with_rows.body (defBody (Hd.top 35)) :=
  have NN := (sc_with_rows).nd
  have hr := hrX.r
  (ss_cons (ss_ret (q_tuple V.tuple (SE.v (se_lc rfl NN (si_any (se_v (pv 0))) (blkOk_by (own := [("name", 3), ("its", 4)]) rfl) rfl (of_decide_eq_true rfl) (fun _ _ _ _ _ => (sg_t rfl (sg_ts1 (sg_n (pg_name NN rfl (by first | exact .inl rfl | exact .inr rfl)) (of_decide_eq_true rfl)) (sg_ts1 (sg_n (pg_name NN rfl (by first | exact .inl rfl | exact .inr rfl)) (of_decide_eq_true rfl)) sg_ts0 rfl) rfl) rfl rfl rfl)) (fun _ _ _ _ _ => spt_nil) (fun _ _ _ _ _ => (se_tup (q_a1 (se_v (pv 3)) (q_a1 (se_ite (st_cmpp (bin_eq hr.units) rfl (nomark _) (pv 3) (sv_p (pv 1))) (se_v (pv 2)) (se_v (pv 4))) sa_nil)))) (fun _ => rfl))))) ss_nil)
omit V D TBs in
theorem sc_key_of : FnScope ["scheme", "table", "row"] ["scheme", "table", "row"] (defScope (Hd.top 37)) := C8.fnScope_by (by decide +kernel)
theorem t_key_of (cdv : Value) (hco : ∀ q, (Ly K).fa f_key_of = He.fAd K q → cdv = .ref (He.codeOf K q)) (A : Around) (outer : List Env) (s : Shared) (H : Hp) (E : XK) (hrX : RoomX k (A.deeper (envOfC "key_of" (defScope (Hd.top 37)) s.heap.objs.size ((Ly K).fa f_key_of) cdv))) (hg : A.guards = some []) :
    SSs (atB P w K mg base (Ly K) F G k ["scheme", "table", "row"] "key_of" (defScope (Hd.top 37)) ((Ly K).fa f_key_of) cdv [] A outer s H E) b_key_of.body (defBody (Hd.top 37)) :=
  have NN := (sc_key_of).nd
  have hr := hrX.r
  (ss_cons (ss_ret (se_slicep (pv 2) so_none (so_some (SE.v (q_call (D f_keys_of rfl) hr hg (takes_of rfl rfl rfl rfl) V.f_keys_of (q_g1 (se_v (pv 0)) (q_g1 (se_v (pv 1)) sg_nil))))))) ss_nil)
omit V D TBs in
theorem sc_blocks_by_keys : FnScope ["scheme", "store", "table", "many", "found", "row"] ["scheme", "store", "table"] (defScope (Hd.top 38)) := C8.fnScope_by (by decide +kernel)
theorem t_blocks_by_keys (cdv : Value) (hco : ∀ q, (Ly K).fa f_blocks_by_keys = He.fAd K q → cdv = .ref (He.codeOf K q)) (A : Around) (outer : List Env) (s : Shared) (H : Hp) (E : XK) (hrX : RoomX k (A.deeper (envOfC "blocks_by_keys" (defScope (Hd.top 38)) s.heap.objs.size ((Ly K).fa f_blocks_by_keys) cdv))) (hg : A.guards = some []) :
    SSs (atB P w K mg base (Ly K) F G k ["scheme", "store", "table", "many", "found", "row"] "blocks_by_keys" (defScope (Hd.top 38)) ((Ly K).fa f_blocks_by_keys) cdv [] A outer s H E) b_blocks_by_keys.body (defBody (Hd.top 38)) :=
  have NN := (sc_blocks_by_keys).nd
  have hr := hrX.r
  (ss_cons (ss_par rfl NN rfl rfl (by decide) rfl rfl (of_decide_eq_true rfl) (of_decide_eq_true rfl) (q_a1 (q_call (D f_keys_of rfl) hr hg (takes_of rfl rfl rfl rfl) V.f_keys_of (q_g1 (se_v (pv 0)) (q_g1 (se_v (pv 2)) sg_nil))) (q_a1 se_dict0 sa_nil)) rfl rfl) (ss_cons (ss_for (passes_of rfl) rfl (si_any (q_call (D f_rows_of rfl) hr hg (takes_of rfl rfl rfl rfl) V.f_rows_of (q_g1 (se_v (pv 1)) (q_g1 (se_v (pv 2)) sg_nil)))) (sg_n (pg_name NN rfl (by first | exact .inl rfl | exact .inr rfl)) (of_decide_eq_true rfl)) (ss_cons (ss_setdapp (Room.u70 hr) (pv 4) (se_slicep (pv 5) so_none (so_some (SE.v (se_v (pv 3))))) (se_lst sa_nil) (se_v (pv 5))) ss_nil) (of_decide_eq_true rfl) (fun _ => rfl)) (ss_cons (ss_ret (se_mv (pv 4))) ss_nil)))
omit V D TBs in
theorem sc_blocks : FnScope ["scheme", "store", "table", "rows"] ["scheme", "store", "table"] (defScope (Hd.top 39)) := C8.fnScope_by (by decide +kernel)
theorem t_blocks (cdv : Value) (hco : ∀ q, (Ly K).fa f_blocks = He.fAd K q → cdv = .ref (He.codeOf K q)) (A : Around) (outer : List Env) (s : Shared) (H : Hp) (E : XK) (hrX : RoomX k (A.deeper (envOfC "blocks" (defScope (Hd.top 39)) s.heap.objs.size ((Ly K).fa f_blocks) cdv))) (hg : A.guards = some []) :
    SSs (atB P w K mg base (Ly K) F G k ["scheme", "store", "table", "rows"] "blocks" (defScope (Hd.top 39)) ((Ly K).fa f_blocks) cdv [] A outer s H E) b_blocks.body (defBody (Hd.top 39)) :=
  have NN := (sc_blocks).nd
  have hr := hrX.r
  (ss_cons (ss_ret (q_tuple V.tuple (SE.v (se_lc rfl NN (si_values (q_call (D f_blocks_by_keys rfl) hr hg (takes_of rfl rfl rfl rfl) V.f_blocks_by_keys (q_g1 (se_v (pv 0)) (q_g1 (se_v (pv 1)) (q_g1 (se_v (pv 2)) sg_nil))))) (blkOk_by (own := [("rows", 3)]) rfl) rfl (of_decide_eq_true rfl) (fun _ _ _ _ _ => (sg_n (pg_name NN rfl (by first | exact .inl rfl | exact .inr rfl)) (of_decide_eq_true rfl))) (fun _ _ _ _ _ => spt_nil) (fun _ _ _ _ _ => (q_tuple V.tuple (sv_p (pv 3)))) (fun _ => rfl))))) ss_nil)
omit V D TBs in
theorem sc_block_with : FnScope ["scheme", "store", "table", "key"] ["scheme", "store", "table", "key"] (defScope (Hd.top 40)) := C8.fnScope_by (by decide +kernel)
theorem t_block_with (cdv : Value) (hco : ∀ q, (Ly K).fa f_block_with = He.fAd K q → cdv = .ref (He.codeOf K q)) (A : Around) (outer : List Env) (s : Shared) (H : Hp) (E : XK) (hrX : RoomX k (A.deeper (envOfC "block_with" (defScope (Hd.top 40)) s.heap.objs.size ((Ly K).fa f_block_with) cdv))) (hg : A.guards = some []) :
    SSs (atB P w K mg base (Ly K) F G k ["scheme", "store", "table", "key"] "block_with" (defScope (Hd.top 40)) ((Ly K).fa f_block_with) cdv [] A outer s H E) b_block_with.body (defBody (Hd.top 40)) :=
  have NN := (sc_block_with).nd
  have hr := hrX.r
  (ss_cons (ss_if (st_not (st_tr trD (SE.v (q_call (D f_is_row rfl) hr hg (takes_of rfl rfl rfl rfl) V.f_is_row (q_g1 (se_v (pv 3)) sg_nil))) (fun _ => rfl))) (ss_cons (ss_raise0 rfl (takes_of rfl rfl rfl rfl) rfl (pmk_0 PySem.F.excBase_ValueError V.x_Nothing.e V.x_Nothing.m V.x_Nothing.k (raises_own V.x_Nothing.b V.x_Nothing.t) rfl (by decide))) ss_nil) ss_nil) (ss_cons (ss_ret (q_tuple V.tuple (SE.v (se_getd (Room.u70 hr) (q_call (D f_blocks_by_keys rfl) hr hg (takes_of rfl rfl rfl rfl) V.f_blocks_by_keys (q_g1 (se_v (pv 0)) (q_g1 (se_v (pv 1)) (q_g1 (se_v (pv 2)) sg_nil)))) (se_v (pv 3)) (se_lst sa_nil))))) ss_nil))
omit V D TBs in
theorem sc_all_blocks : FnScope ["scheme", "store", "table", "key"] ["scheme", "store"] (defScope (Hd.top 41)) := C8.fnScope_by (by decide +kernel)
theorem t_all_blocks (cdv : Value) (hco : ∀ q, (Ly K).fa f_all_blocks = He.fAd K q → cdv = .ref (He.codeOf K q)) (A : Around) (outer : List Env) (s : Shared) (H : Hp) (E : XK) (hrX : RoomX k (A.deeper (envOfC "all_blocks" (defScope (Hd.top 41)) s.heap.objs.size ((Ly K).fa f_all_blocks) cdv))) (hg : A.guards = some []) :
    SSs (atB P w K mg base (Ly K) F G k ["scheme", "store", "table", "key"] "all_blocks" (defScope (Hd.top 41)) ((Ly K).fa f_all_blocks) cdv [] A outer s H E) b_all_blocks.body (defBody (Hd.top 41)) :=
  have NN := (sc_all_blocks).nd
  have hr := hrX.r
  (ss_cons (ss_ret (q_tuple V.tuple (SE.v (se_lc2 rfl NN (si_any (q_call (D f_table_names rfl) hr hg (takes_of rfl rfl rfl rfl) V.f_table_names (q_g1 (se_v (pv 0)) sg_nil))) (blkOk_by (own := [("table", 2), ("key", 3)]) rfl) rfl (of_decide_eq_true rfl) (of_decide_eq_true rfl) (of_decide_eq_true rfl) (fun _ _ _ _ _ => (sg_n (pg_name NN rfl (by first | exact .inl rfl | exact .inr rfl)) (of_decide_eq_true rfl))) (fun _ _ _ _ _ => spt_nil) (fun _ _ _ _ _ => (si_any (q_call (D f_blocks_by_keys rfl) hr hg takes0 V.f_blocks_by_keys (q_g1 (se_v (pv 0)) (q_g1 (se_v (pv 1)) (q_g1 (se_v (pv 2)) sg_nil)))))) (fun _ _ _ _ _ => (sg_n (pg_name NN rfl (by first | exact .inl rfl | exact .inr rfl)) (of_decide_eq_true rfl))) (fun _ _ _ _ _ => spt_nil) (fun _ _ _ _ _ => (se_tup (q_a1 (se_v (pv 2)) (q_a1 (se_v (pv 3)) sa_nil)))) (fun _ => rfl) (fun _ _ => rfl))))) ss_nil)
omit V D TBs in
theorem sc_doubtful : FnScope ["scheme", "store", "table", "key"] ["scheme", "store"] (defScope (Hd.top 42)) := C8.fnScope_by (by decide +kernel)
theorem t_doubtful (cdv : Value) (hco : ∀ q, (Ly K).fa f_doubtful = He.fAd K q → cdv = .ref (He.codeOf K q)) (A : Around) (outer : List Env) (s : Shared) (H : Hp) (E : XK) (hrX : RoomX k (A.deeper (envOfC "doubtful" (defScope (Hd.top 42)) s.heap.objs.size ((Ly K).fa f_doubtful) cdv))) (hg : A.guards = some []) :
    SSs (atB P w K mg base (Ly K) F G k ["scheme", "store", "table", "key"] "doubtful" (defScope (Hd.top 42)) ((Ly K).fa f_doubtful) cdv [] A outer s H E) b_doubtful.body (defBody (Hd.top 42)) :=
  have NN := (sc_doubtful).nd
  have hr := hrX.r
  (ss_cons (ss_ret (q_tuple V.tuple (SE.v (se_lc rfl NN (si_any (q_call (D f_all_blocks rfl) hr hg (takes_of rfl rfl rfl rfl) V.f_all_blocks (q_g1 (se_v (pv 0)) (q_g1 (se_v (pv 1)) sg_nil)))) (blkOk_by (own := [("table", 2), ("key", 3)]) rfl) rfl (of_decide_eq_true rfl) (fun _ _ _ _ _ => (sg_t rfl (sg_ts1 (sg_n (pg_name NN rfl (by first | exact .inl rfl | exact .inr rfl)) (of_decide_eq_true rfl)) (sg_ts1 (sg_n (pg_name NN rfl (by first | exact .inl rfl | exact .inr rfl)) (of_decide_eq_true rfl)) sg_ts0 rfl) rfl) rfl rfl rfl)) (fun _ _ _ _ _ => (spt_one (st_tr trD (SE.v (q_call (D f_is_doubtful rfl) hr hg takes0 V.f_is_doubtful (q_g1 (se_v (pv 0)) (q_g1 (se_v (pv 1)) (q_g1 (se_v (pv 2)) (q_g1 (se_v (pv 3)) sg_nil)))))) (fun _ => rfl)))) (fun _ _ _ _ _ => (se_tup (q_a1 (se_v (pv 2)) (q_a1 (se_v (pv 3)) sa_nil)))) (fun _ => rfl))))) ss_nil)
omit V D TBs in
theorem sc_is_doubtful : FnScope ["scheme", "store", "table", "key"] ["scheme", "store", "table", "key"] (defScope (Hd.top 43)) := C8.fnScope_by (by decide +kernel)
theorem t_is_doubtful (cdv : Value) (hco : ∀ q, (Ly K).fa f_is_doubtful = He.fAd K q → cdv = .ref (He.codeOf K q)) (A : Around) (outer : List Env) (s : Shared) (H : Hp) (E : XK) (hrX : RoomX k (A.deeper (envOfC "is_doubtful" (defScope (Hd.top 43)) s.heap.objs.size ((Ly K).fa f_is_doubtful) cdv))) (hg : A.guards = some []) :
    SSs (atB P w K mg base (Ly K) F G k ["scheme", "store", "table", "key"] "is_doubtful" (defScope (Hd.top 43)) ((Ly K).fa f_is_doubtful) cdv [] A outer s H E) b_is_doubtful.body (defBody (Hd.top 43)) :=
  have NN := (sc_is_doubtful).nd
  have hr := hrX.r
  (ss_cons (ss_ret (se_cmp bin_gt (nomark _) rfl (q_len V.len (SE.v (q_call (D f_block_with rfl) hr hg (takes_of rfl rfl rfl rfl) V.f_block_with (q_g1 (se_v (pv 0)) (q_g1 (se_v (pv 1)) (q_g1 (se_v (pv 2)) (q_g1 (se_v (pv 3)) sg_nil))))))) (SE.v se_int))) ss_nil)
omit V D TBs in
theorem sc_is_settled : FnScope ["scheme", "store"] ["scheme", "store"] (defScope (Hd.top 44)) := C8.fnScope_by (by decide +kernel)
theorem t_is_settled (cdv : Value) (hco : ∀ q, (Ly K).fa f_is_settled = He.fAd K q → cdv = .ref (He.codeOf K q)) (A : Around) (outer : List Env) (s : Shared) (H : Hp) (E : XK) (hrX : RoomX k (A.deeper (envOfC "is_settled" (defScope (Hd.top 44)) s.heap.objs.size ((Ly K).fa f_is_settled) cdv))) (hg : A.guards = some []) :
    SSs (atB P w K mg base (Ly K) F G k ["scheme", "store"] "is_settled" (defScope (Hd.top 44)) ((Ly K).fa f_is_settled) cdv [] A outer s H E) b_is_settled.body (defBody (Hd.top 44)) :=
  have NN := (sc_is_settled).nd
  have hr := hrX.r
  (ss_cons (ss_ret (se_cmp (bin_eq hr.units) (nomark _) rfl (q_call (D f_doubtful rfl) hr hg (takes_of rfl rfl rfl rfl) V.f_doubtful (q_g1 (se_v (pv 0)) (q_g1 (se_v (pv 1)) sg_nil))) (SE.v (se_tup sa_nil)))) ss_nil)
omit V D TBs in
theorem sc_cut_to : FnScope ["scheme", "store", "table", "rows", "its", "keys", "left", "row"] ["scheme", "store", "table", "rows"] (defScope (Hd.top 45)) := C8.fnScope_by (by decide +kernel)
theorem t_cut_to (cdv : Value) (hco : ∀ q, (Ly K).fa f_cut_to = He.fAd K q → cdv = .ref (He.codeOf K q)) (A : Around) (outer : List Env) (s : Shared) (H : Hp) (E : XK) (hrX : RoomX k (A.deeper (envOfC "cut_to" (defScope (Hd.top 45)) s.heap.objs.size ((Ly K).fa f_cut_to) cdv))) (hg : A.guards = some []) :
    SSs (atB P w K mg base (Ly K) F G k ["scheme", "store", "table", "rows", "its", "keys", "left", "row"] "cut_to" (defScope (Hd.top 45)) ((Ly K).fa f_cut_to) cdv [] A outer s H E) b_cut_to.body (defBody (Hd.top 45)) :=
  have NN := (sc_cut_to).nd
  have hr := hrX.r
  (ss_cons (ss_set NN rfl (by first | exact .inl rfl | exact .inr rfl) (by first | exact .inl rfl | exact .inr rfl) (of_decide_eq_true rfl) (q_call (D f_rows_of rfl) hr hg (takes_of rfl rfl rfl rfl) V.f_rows_of (q_g1 (se_v (pv 1)) (q_g1 (se_v (pv 2)) sg_nil))) rfl) (ss_cons (ss_if (SW.st (sw_or (st_not (st_tr trD (SE.v (q_isTup V.isinstance V.tuple (sv_p (pv 3)))) (fun _ => rfl))) (sw_or (st_cmpp (bin_eq hr.units) rfl (nomark _) (pv 3) (SE.v (se_tup sa_nil))) (sw_or1 (st_not (st_tr trD (SE.v (q_all rfl V.all (SE.v (se_lc rfl NN (si_any (se_v (pv 3))) (blkOk_by (own := [("row", 7)]) rfl) rfl (of_decide_eq_true rfl) (fun _ _ _ _ _ => (sg_n (pg_name NN rfl (by first | exact .inl rfl | exact .inr rfl)) (of_decide_eq_true rfl))) (fun _ _ _ _ _ => spt_nil) (fun _ _ _ _ _ => (se_and (SE.v (q_call (D f_is_row rfl) hr hg takes0 V.f_is_row (q_g1 (se_v (pv 7)) sg_nil))) (se_and1 (se_cmpp (bin_in (Room.u65 hr) (inD_of (Room.u70 hr))) (by with_unfolding_all rfl) (pv 7) (sv_p (pv 4)))))) (fun _ => rfl))))) (fun _ => rfl))))))) (ss_cons (ss_raise0 rfl (takes_of rfl rfl rfl rfl) rfl (pmk_0 PySem.F.excBase_ValueError V.x_Nothing.e V.x_Nothing.m V.x_Nothing.k (raises_own V.x_Nothing.b V.x_Nothing.t) rfl (by decide))) ss_nil) ss_nil) (ss_cons (ss_set NN rfl (by first | exact .inl rfl | exact .inr rfl) (by first | exact .inl rfl | exact .inr rfl) (of_decide_eq_true rfl) (se_dc (Room.u70 hr) rfl NN (si_any (se_v (pv 3))) (blkOk_by (own := [("row", 7)]) rfl) rfl (of_decide_eq_true rfl) (fun _ _ _ _ _ => (sg_n (pg_name NN rfl (by first | exact .inl rfl | exact .inr rfl)) (of_decide_eq_true rfl))) (fun _ _ _ _ _ => spt_nil) (fun _ _ _ _ _ => (q_call (D f_key_of rfl) hr hg takes0 V.f_key_of (q_g1 (se_v (pv 0)) (q_g1 (se_v (pv 2)) (q_g1 (se_v (pv 7)) sg_nil))))) (fun _ _ _ _ _ => se_bool) (fun _ => rfl)) rfl) (ss_cons (ss_if (st_cmp (bin_ne hr.units) rfl (nomark _) rfl (q_len V.len (sv_p (pv 5))) (SE.v se_int)) (ss_cons (ss_raise0 rfl (takes_of rfl rfl rfl rfl) rfl (pmk_0 PySem.F.excBase_ValueError V.x_Nothing.e V.x_Nothing.m V.x_Nothing.k (raises_own V.x_Nothing.b V.x_Nothing.t) rfl (by decide))) ss_nil) ss_nil) (ss_cons (ss_setLc rfl NN rfl rfl (of_decide_eq_true rfl) (sw_true rfl rfl rfl rfl) (si_any (se_v (pv 4))) (blkOk_by (own := [("row", 7)]) rfl) rfl (of_decide_eq_true rfl) (fun _ _ _ _ _ => (sg_n (pg_name NN rfl (by first | exact .inl rfl | exact .inr rfl)) (of_decide_eq_true rfl))) (fun _ _ _ _ _ => (spt_one (SW.st (sw_or (st_cmpp (bin_in (Room.u65 hr) (inD_of (Room.u70 hr))) rfl (by with_unfolding_all rfl) (pv 7) (sv_p (pv 3))) (sw_or1 (st_cmp (bin_notin (Room.u65 hr) (inD_of (Room.u70 hr))) rfl (by with_unfolding_all rfl) rfl (q_call (D f_key_of rfl) hr hg takes0 V.f_key_of (q_g1 (se_v (pv 0)) (q_g1 (se_v (pv 2)) (q_g1 (se_v (pv 7)) sg_nil)))) (sv_p (pv 5)))))))) (fun _ _ _ _ _ => (se_v (pv 7))) (fun _ => rfl)) (ss_cons (ss_ret (q_call (D f_with_rows rfl) hr hg (takes_of rfl rfl rfl rfl) V.f_with_rows (q_g1 (se_v (pv 1)) (q_g1 (se_v (pv 2)) (q_g1 (q_call (D f_ascending rfl) hr hg (takes_of rfl rfl rfl rfl) V.f_ascending (q_g1 (se_v (pv 6)) sg_nil)) sg_nil))))) ss_nil))))))
omit V D TBs in
theorem sc__law_bag : FnScope ["script", "cell"] ["script"] (defScope (Hd.top 47)) := C8.fnScope_by (by decide +kernel)
theorem t__law_bag (cdv : Value) (hco : ∀ q, (Ly K).fa f__law_bag = He.fAd K q → cdv = .ref (He.codeOf K q)) (A : Around) (outer : List Env) (s : Shared) (H : Hp) (E : XK) (hrX : RoomX k (A.deeper (envOfC "_law_bag" (defScope (Hd.top 47)) s.heap.objs.size ((Ly K).fa f__law_bag) cdv))) (hg : A.guards = some []) :
    SSs (atB P w K mg base (Ly K) F G k ["script", "cell"] "_law_bag" (defScope (Hd.top 47)) ((Ly K).fa f__law_bag) cdv [] A outer s H E) b__law_bag.body (defBody (Hd.top 47)) :=
  have NN := (sc__law_bag).nd
  have hr := hrX.r
  (ss_cons (ss_ret (se_lst (q_a1 se_int (q_a1 se_int (q_a1 se_int (q_a1 (se_frz (se_lc rfl NN (si_any (se_slicep (pv 0) so_none (so_some (SE.v se_int)))) (blkOk_by (own := [("cell", 1)]) rfl) rfl (of_decide_eq_true rfl) (fun _ _ _ _ _ => (sg_n (pg_name NN rfl (by first | exact .inl rfl | exact .inr rfl)) (of_decide_eq_true rfl))) (fun _ _ _ _ _ => spt_nil) (fun _ _ _ _ _ => (q_abs V.abs (sv_p (pv 1)))) (fun _ => rfl))) sa_nil)))))) ss_nil)
omit V D TBs in
theorem sc__law_take : FnScope ["bag", "many", "cell", "stirred", "value", "begin", "second"] ["bag", "many"] (defScope (Hd.top 48)) := C8.fnScope_by (by decide +kernel)
theorem t__law_take (cdv : Value) (hco : ∀ q, (Ly K).fa f__law_take = He.fAd K q → cdv = .ref (He.codeOf K q)) (A : Around) (outer : List Env) (s : Shared) (H : Hp) (E : XK) (hrX : RoomX k (A.deeper (envOfC "_law_take" (defScope (Hd.top 48)) s.heap.objs.size ((Ly K).fa f__law_take) cdv))) (hg : A.guards = some []) :
    SSs (atB P w K mg base (Ly K) F G k ["bag", "many", "cell", "stirred", "value", "begin", "second"] "_law_take" (defScope (Hd.top 48)) ((Ly K).fa f__law_take) cdv [0] A outer s H E) b__law_take.body (defBody (Hd.top 48)) :=
  have NN := (sc__law_take).nd
  have hr := hrX.r
  (ss_cons (ss_if (st_cmp (bin_eq hr.units) rfl (nomark _) rfl (se_ixp (ixD_of (Room.u70 hr)) (fun _ _ => rfl) (pv 0) (SE.v se_int)) (SE.v se_int)) (ss_cons (ss_set NN rfl (by first | exact .inl rfl | exact .inr rfl) (by first | exact .inl rfl | exact .inr rfl) (of_decide_eq_true rfl) (se_ix (ixD_of (Room.u70 hr)) (fun _ _ => rfl) rfl (se_bin bin_add rfl (se_slice rfl rfl (se_ixp (ixD_of (Room.u70 hr)) (fun _ _ => rfl) (pv 0) (SE.v se_int)) (so_some (SE.v (se_ixp (ixD_of (Room.u70 hr)) (fun _ _ => rfl) (pv 0) (SE.v se_int)))) so_none) (SE.v (se_lst (q_a1 se_int sa_nil)))) (SE.v se_int)) rfl) (ss_cons (ss_augix (pv 0) se_int se_int ip_addX (fun _ _ _ => rfl) (fun _ => ⟨_, rfl⟩)) (ss_cons (ss_if (st_cmpp bin_ge rfl (nomark _) (pv 2) (SE.v (se_bin bin_pow rfl se_int (SE.v se_int)))) (ss_cons (ss_setix (pv 0) se_int (se_v (pv 2)) (fun _ => rfl) rfl rfl rfl) ss_nil) ss_nil) (ss_cons (ss_set NN rfl (by first | exact .inl rfl | exact .inr rfl) (by first | exact .inl rfl | exact .inr rfl) (of_decide_eq_true rfl) (se_bin bin_add rfl (se_bin bin_add rfl (se_bin bin_mul rfl (se_ixp (ixD_of (Room.u70 hr)) (fun _ _ => rfl) (pv 0) (SE.v se_int)) (SE.v se_int)) (SE.v (se_bin bin_mod rfl (q_int V.int (sv_p (pv 2))) (SE.v se_int)))) (SE.v (se_bin bin_mul rfl se_int (SE.v (se_ixp (ixD_of (Room.u70 hr)) (fun _ _ => rfl) (pv 0) (SE.v se_int)))))) rfl) (ss_cons (ss_setix (pv 0) se_int (se_bin bin_mod rfl (q_int V.int (sv_p (pv 3))) (SE.v se_int)) (fun _ => rfl) rfl rfl rfl) ss_nil))))) ss_nil) (ss_cons (ss_if (st_cmp bin_gt rfl (nomark _) rfl (se_ixp (ixD_of (Room.u70 hr)) (fun _ _ => rfl) (pv 0) (SE.v se_int)) (SE.v se_int)) (ss_cons (ss_set NN rfl (by first | exact .inl rfl | exact .inr rfl) (by first | exact .inl rfl | exact .inr rfl) (of_decide_eq_true rfl) (se_bin bin_mod rfl (q_int V.int (SE.v (se_ixp (ixD_of (Room.u70 hr)) (fun _ _ => rfl) (pv 0) (SE.v se_int)))) (sv_p (pv 1))) rfl) (ss_cons (ss_setix (pv 0) se_int (se_bin bin_div rfl (q_int V.int (SE.v (se_ixp (ixD_of (Room.u70 hr)) (fun _ _ => rfl) (pv 0) (SE.v se_int)))) (sv_p (pv 1))) (fun _ => rfl) rfl rfl rfl) (ss_cons (ss_ret (se_mv (pv 4))) ss_nil))) ss_nil) (ss_cons (ss_set NN rfl (by first | exact .inl rfl | exact .inr rfl) (by first | exact .inl rfl | exact .inr rfl) (of_decide_eq_true rfl) (se_bin bin_mod rfl (q_int V.int (SE.v (se_bin bin_mul rfl (se_bin bin_add rfl (se_ixp (ixD_of (Room.u70 hr)) (fun _ _ => rfl) (pv 0) (SE.v se_int)) (SE.v se_int)) (SE.v se_int)))) (SE.v se_int)) rfl) (ss_cons (ss_set NN rfl (by first | exact .inl rfl | exact .inr rfl) (by first | exact .inl rfl | exact .inr rfl) (of_decide_eq_true rfl) (se_bin bin_mod rfl (q_int V.int (SE.v (se_bin bin_mul rfl (se_bin bin_mod rfl (q_int V.int (SE.v (se_binp bin_mul (pv 5) (sv_p (pv 5))))) (SE.v se_int)) (SE.v se_int)))) (SE.v se_int)) rfl) (ss_cons (ss_ret (se_bin bin_mod rfl (q_int V.int (SE.v (se_binp bin_div (pv 6) (SE.v se_int)))) (sv_p (pv 1)))) ss_nil)))))
omit V D TBs in
theorem sc__law_some : FnScope ["bag", "things"] ["bag", "things"] (defScope (Hd.top 49)) := C8.fnScope_by (by decide +kernel)
theorem t__law_some (cdv : Value) (hco : ∀ q, (Ly K).fa f__law_some = He.fAd K q → cdv = .ref (He.codeOf K q)) (A : Around) (outer : List Env) (s : Shared) (H : Hp) (E : XK) (hrX : RoomX k (A.deeper (envOfC "_law_some" (defScope (Hd.top 49)) s.heap.objs.size ((Ly K).fa f__law_some) cdv))) (hg : A.guards = some []) :
    SSs (atB P w K mg base (Ly K) F G k ["bag", "things"] "_law_some" (defScope (Hd.top 49)) ((Ly K).fa f__law_some) cdv [0] A outer s H E) b__law_some.body (defBody (Hd.top 49)) :=
  have NN := (sc__law_some).nd
  have hr := hrX.r
  (ss_cons (ss_ret (se_ixp (ixD_of (Room.u70 hr)) (fun _ _ => rfl) (pv 1) (SE.v (q_call (D f__law_take rfl) hr hg (takes_of rfl rfl rfl rfl) V.f__law_take (q_gm (pv 0) (q_g1 (q_len V.len (sv_p (pv 1))) sg_nil)))))) ss_nil)
omit V D TBs in
theorem sc__law_mixed : FnScope ["bag", "things", "found", "thing"] ["bag", "things"] (defScope (Hd.top 50)) := C8.fnScope_by (by decide +kernel)
theorem t__law_mixed (cdv : Value) (hco : ∀ q, (Ly K).fa f__law_mixed = He.fAd K q → cdv = .ref (He.codeOf K q)) (A : Around) (outer : List Env) (s : Shared) (H : Hp) (E : XK) (hrX : RoomX k (A.deeper (envOfC "_law_mixed" (defScope (Hd.top 50)) s.heap.objs.size ((Ly K).fa f__law_mixed) cdv))) (hg : A.guards = some []) :
    SSs (atB P w K mg base (Ly K) F G k ["bag", "things", "found", "thing"] "_law_mixed" (defScope (Hd.top 50)) ((Ly K).fa f__law_mixed) cdv [0] A outer s H E) b__law_mixed.body (defBody (Hd.top 50)) :=
  have NN := (sc__law_mixed).nd
  have hr := hrX.r
  (ss_cons (ss_set NN rfl (by first | exact .inl rfl | exact .inr rfl) (by first | exact .inl rfl | exact .inr rfl) (of_decide_eq_true rfl) (se_lst sa_nil) rfl) (ss_cons (ss_for (passes_of rfl) rfl (si_any (se_v (pv 1))) (sg_n (pg_name NN rfl (by first | exact .inl rfl | exact .inr rfl)) (of_decide_eq_true rfl)) (ss_cons (ss_ins (pv 2) (q_call (D f__law_take rfl) hr hg (takes_of rfl rfl rfl rfl) V.f__law_take (q_gm (pv 0) (q_g1 (se_bin bin_add rfl (q_len V.len (sv_p (pv 2))) (SE.v se_int)) sg_nil))) (se_v (pv 3)) rfl rfl rfl rfl rfl rfl) ss_nil) (of_decide_eq_true rfl) (fun _ => rfl)) (ss_cons (ss_ret (se_mv (pv 2))) ss_nil)))
omit V D TBs in
theorem sc__law_alike : FnScope ["found", "due"] ["found", "due"] (defScope (Hd.top 51)) := C8.fnScope_by (by decide +kernel)
theorem t__law_alike (cdv : Value) (hco : ∀ q, (Ly K).fa f__law_alike = He.fAd K q → cdv = .ref (He.codeOf K q)) (A : Around) (outer : List Env) (s : Shared) (H : Hp) (E : XK) (hrX : RoomX k (A.deeper (envOfC "_law_alike" (defScope (Hd.top 51)) s.heap.objs.size ((Ly K).fa f__law_alike) cdv))) (hg : A.guards = some []) :
    SSs (atB P w K mg base (Ly K) F G k ["found", "due"] "_law_alike" (defScope (Hd.top 51)) ((Ly K).fa f__law_alike) cdv [] A outer s H E) b__law_alike.body (defBody (Hd.top 51)) :=
  have NN := (sc__law_alike).nd
  have hr := hrX.r
  (ss_cons (ss_ret (se_and (SE.v (se_cmp (bin_eq hr.units) (nomark _) rfl (q_repr hg hr.units V.repr (sv_p (pv 0))) (SE.v (q_repr hg hr.units V.repr (sv_p (pv 1)))))) (se_and1 (se_cmpp (bin_eq hr.units) (nomark _) (pv 0) (sv_p (pv 1)))))) ss_nil)
omit V D TBs in
theorem sc__law_value_key : FnScope ["value"] ["value"] (defScope (Hd.top 52)) := C8.fnScope_by (by decide +kernel)
theorem t__law_value_key (cdv : Value) (hco : ∀ q, (Ly K).fa f__law_value_key = He.fAd K q → cdv = .ref (He.codeOf K q)) (A : Around) (outer : List Env) (s : Shared) (H : Hp) (E : XK) (hrX : RoomX k (A.deeper (envOfC "_law_value_key" (defScope (Hd.top 52)) s.heap.objs.size ((Ly K).fa f__law_value_key) cdv))) (hg : A.guards = some []) :
    SSs (atB P w K mg base (Ly K) F G k ["value"] "_law_value_key" (defScope (Hd.top 52)) ((Ly K).fa f__law_value_key) cdv [] A outer s H E) b__law_value_key.body (defBody (Hd.top 52)) :=
  have NN := (sc__law_value_key).nd
  have hr := hrX.r
  (ss_cons (ss_ret (se_ite (st_tr trD (SE.v (q_isStr V.isinstance V.str (sv_p (pv 0)))) (fun _ => rfl)) (se_tup (q_a1 se_int (q_a1 (se_v (pv 0)) sa_nil))) (se_tup (q_a1 se_int (q_a1 (se_v (pv 0)) sa_nil))))) ss_nil)
omit V D TBs in
theorem sc__law_row_key : FnScope ["row", "value"] ["row"] (defScope (Hd.top 53)) := C8.fnScope_by (by decide +kernel)
theorem t__law_row_key (cdv : Value) (hco : ∀ q, (Ly K).fa f__law_row_key = He.fAd K q → cdv = .ref (He.codeOf K q)) (A : Around) (outer : List Env) (s : Shared) (H : Hp) (E : XK) (hrX : RoomX k (A.deeper (envOfC "_law_row_key" (defScope (Hd.top 53)) s.heap.objs.size ((Ly K).fa f__law_row_key) cdv))) (hg : A.guards = some []) :
    SSs (atB P w K mg base (Ly K) F G k ["row", "value"] "_law_row_key" (defScope (Hd.top 53)) ((Ly K).fa f__law_row_key) cdv [] A outer s H E) b__law_row_key.body (defBody (Hd.top 53)) :=
  have NN := (sc__law_row_key).nd
  have hr := hrX.r
  (ss_cons (ss_ret (q_tuple V.tuple (SE.v (se_lc rfl NN (si_any (se_v (pv 0))) (blkOk_by (own := [("value", 1)]) rfl) rfl (of_decide_eq_true rfl) (fun _ _ _ _ _ => (sg_n (pg_name NN rfl (by first | exact .inl rfl | exact .inr rfl)) (of_decide_eq_true rfl))) (fun _ _ _ _ _ => spt_nil) (fun _ _ _ _ _ => (q_call (D f__law_value_key rfl) hr hg takes0 V.f__law_value_key (q_g1 (se_v (pv 1)) sg_nil))) (fun _ => rfl))))) ss_nil)
omit V D TBs in
theorem sc__law_sorted : FnScope ["rows", "found", "key", "row", "one"] ["rows"] (defScope (Hd.top 54)) := C8.fnScope_by (by decide +kernel)
theorem t__law_sorted (cdv : Value) (hco : ∀ q, (Ly K).fa f__law_sorted = He.fAd K q → cdv = .ref (He.codeOf K q)) (A : Around) (outer : List Env) (s : Shared) (H : Hp) (E : XK) (hrX : RoomX k (A.deeper (envOfC "_law_sorted" (defScope (Hd.top 54)) s.heap.objs.size ((Ly K).fa f__law_sorted) cdv))) (hg : A.guards = some []) :
    SSs (atB P w K mg base (Ly K) F G k ["rows", "found", "key", "row", "one"] "_law_sorted" (defScope (Hd.top 54)) ((Ly K).fa f__law_sorted) cdv [] A outer s H E) b__law_sorted.body (defBody (Hd.top 54)) :=
  have NN := (sc__law_sorted).nd
  have hr := hrX.r
  (ss_cons (ss_set NN rfl (by first | exact .inl rfl | exact .inr rfl) (by first | exact .inl rfl | exact .inr rfl) (of_decide_eq_true rfl) (se_lst sa_nil) rfl) (ss_cons (ss_for (passes_of rfl) rfl (si_any (se_srtk (n := "one") rfl hrX.l hr.hd hr.depth (Room.u70 hr) V.sorted (SE.v (se_lc rfl NN (si_any (se_v (pv 0))) (blkOk_by (own := [("row", 3)]) rfl) rfl (of_decide_eq_true rfl) (fun _ _ _ _ _ => (sg_n (pg_name NN rfl (by first | exact .inl rfl | exact .inr rfl)) (of_decide_eq_true rfl))) (fun _ _ _ _ _ => spt_nil) (fun _ _ _ _ _ => (se_tup (q_a1 (q_call (D f__law_row_key rfl) hr hg takes0 V.f__law_row_key (q_g1 (se_v (pv 3)) sg_nil)) (q_a1 (se_v (pv 3)) sa_nil)))) (fun _ => rfl))) (TBs (He.cT K ("_law_sorted", none)) (mem_tf (List.mem_of_getElem? (i := 0) rfl))) (hco ("_law_sorted", none) rfl) (mem_tb (p := ("_law_sorted", none)) (List.mem_of_getElem? (i := 0) rfl)) (ut_of V.tnd (mem_tb (p := ("_law_sorted", none)) (List.mem_of_getElem? (i := 0) rfl))) (C8.fnScope_by (by decide +kernel)) (fun _ _ _ _ => rfl) rfl (free_of rfl) (fun f c' outer s H hr => (se_ixp (ixD_of (Room.u70 hr)) (fun _ _ => rfl) (pv 0) (SE.v se_int))))) (sg_t rfl (sg_ts1 (sg_n (pg_name NN rfl (by first | exact .inl rfl | exact .inr rfl)) (of_decide_eq_true rfl)) (sg_ts1 (sg_n (pg_name NN rfl (by first | exact .inl rfl | exact .inr rfl)) (of_decide_eq_true rfl)) sg_ts0 rfl) rfl) rfl rfl rfl) (ss_cons (ss_ext (pv 1) (se_ite (SW.st (sw_or (st_cmpp (bin_eq hr.units) rfl (nomark _) (pv 1) (SE.v (se_lst sa_nil))) (sw_or1 (st_cmp (bin_ne hr.units) rfl (nomark _) rfl (se_ixp (ixD_of (Room.u70 hr)) (fun _ _ => rfl) (pv 1) (SE.v (se_neg (SE.v se_int)))) (sv_p (pv 3)))))) (se_lst (q_a1 (se_v (pv 3)) sa_nil)) (se_lst sa_nil)) rfl rfl rfl rfl rfl) ss_nil) (of_decide_eq_true rfl) (fun _ => rfl)) (ss_cons (ss_ret (q_tuple V.tuple (sv_p (pv 1)))) ss_nil)))
omit V D TBs in
theorem sc__law_scheme : FnScope ["bag", "names", "found", "name", "columns"] ["bag"] (defScope (Hd.top 55)) := C8.fnScope_by (by decide +kernel)
theorem t__law_scheme (cdv : Value) (hco : ∀ q, (Ly K).fa f__law_scheme = He.fAd K q → cdv = .ref (He.codeOf K q)) (A : Around) (outer : List Env) (s : Shared) (H : Hp) (E : XK) (hrX : RoomX k (A.deeper (envOfC "_law_scheme" (defScope (Hd.top 55)) s.heap.objs.size ((Ly K).fa f__law_scheme) cdv))) (hg : A.guards = some []) :
    SSs (atB P w K mg base (Ly K) F G k ["bag", "names", "found", "name", "columns"] "_law_scheme" (defScope (Hd.top 55)) ((Ly K).fa f__law_scheme) cdv [0] A outer s H E) b__law_scheme.body (defBody (Hd.top 55)) :=
  have NN := (sc__law_scheme).nd
  have hr := hrX.r
  (ss_cons (ss_set NN rfl (by first | exact .inl rfl | exact .inr rfl) (by first | exact .inl rfl | exact .inr rfl) (of_decide_eq_true rfl) (q_sorted rfl (Room.u70 hr) V.sorted (SE.v (se_slice rfl rfl (q_call (D f__law_mixed rfl) hr hg (takes_of rfl rfl rfl rfl) V.f__law_mixed (q_gm (pv 0) (q_g1 (se_lst (q_a1 (se_str ⟨by decide +kernel, by decide +kernel⟩) (q_a1 (se_str ⟨by decide +kernel, by decide +kernel⟩) (q_a1 (se_str ⟨by decide +kernel, by decide +kernel⟩) sa_nil)))) sg_nil))) so_none (so_some (SE.v (se_bin bin_add rfl se_int (SE.v (q_call (D f__law_take rfl) hr hg (takes_of rfl rfl rfl rfl) V.f__law_take (q_gm (pv 0) (q_g1 se_int sg_nil)))))))))) rfl) (ss_cons (ss_set NN rfl (by first | exact .inl rfl | exact .inr rfl) (by first | exact .inl rfl | exact .inr rfl) (of_decide_eq_true rfl) (se_lst sa_nil) rfl) (ss_cons (ss_for (passes_of rfl) rfl (si_any (se_v (pv 1))) (sg_n (pg_name NN rfl (by first | exact .inl rfl | exact .inr rfl)) (of_decide_eq_true rfl)) (ss_cons (ss_set NN rfl (by first | exact .inl rfl | exact .inr rfl) (by first | exact .inl rfl | exact .inr rfl) (of_decide_eq_true rfl) (se_bin bin_add rfl se_int (SE.v (q_call (D f__law_take rfl) hr hg (takes_of rfl rfl rfl rfl) V.f__law_take (q_gm (pv 0) (q_g1 se_int sg_nil))))) rfl) (ss_cons (ss_app (pv 2) (se_tup (q_a1 (se_v (pv 3)) (q_a1 (se_v (pv 4)) (q_a1 (se_bin bin_add rfl se_int (SE.v (q_call (D f__law_take rfl) hr hg (takes_of rfl rfl rfl rfl) V.f__law_take (q_gm (pv 0) (q_g1 (se_v (pv 4)) sg_nil))))) sa_nil)))) rfl rfl rfl rfl rfl) ss_nil)) (of_decide_eq_true rfl) (fun _ => rfl)) (ss_cons (ss_ret (q_tuple V.tuple (sv_p (pv 2)))) ss_nil))))
omit V D TBs in
theorem sc__law_small_value : FnScope ["bag"] ["bag"] (defScope (Hd.top 56)) := C8.fnScope_by (by decide +kernel)
theorem t__law_small_value (cdv : Value) (hco : ∀ q, (Ly K).fa f__law_small_value = He.fAd K q → cdv = .ref (He.codeOf K q)) (A : Around) (outer : List Env) (s : Shared) (H : Hp) (E : XK) (hrX : RoomX k (A.deeper (envOfC "_law_small_value" (defScope (Hd.top 56)) s.heap.objs.size ((Ly K).fa f__law_small_value) cdv))) (hg : A.guards = some []) :
    SSs (atB P w K mg base (Ly K) F G k ["bag"] "_law_small_value" (defScope (Hd.top 56)) ((Ly K).fa f__law_small_value) cdv [0] A outer s H E) b__law_small_value.body (defBody (Hd.top 56)) :=
  have NN := (sc__law_small_value).nd
  have hr := hrX.r
  (ss_cons (ss_ret (q_call (D f__law_some rfl) hr hg (takes_of rfl rfl rfl rfl) V.f__law_some (q_gm (pv 0) (q_g1 (se_lst (q_a1 se_int (q_a1 se_int (q_a1 se_int (q_a1 se_int (q_a1 (se_str ⟨by decide +kernel, by decide +kernel⟩) (q_a1 (se_str ⟨by decide +kernel, by decide +kernel⟩) sa_nil))))))) sg_nil)))) ss_nil)
omit V D TBs in
theorem sc__law_store : FnScope ["bag", "scheme", "found", "name", "columns", "keys", "k", "j"] ["bag", "scheme"] (defScope (Hd.top 57)) := C8.fnScope_by (by decide +kernel)
theorem t__law_store (cdv : Value) (hco : ∀ q, (Ly K).fa f__law_store = He.fAd K q → cdv = .ref (He.codeOf K q)) (A : Around) (outer : List Env) (s : Shared) (H : Hp) (E : XK) (hrX : RoomX k (A.deeper (envOfC "_law_store" (defScope (Hd.top 57)) s.heap.objs.size ((Ly K).fa f__law_store) cdv))) (hg : A.guards = some []) :
    SSs (atB P w K mg base (Ly K) F G k ["bag", "scheme", "found", "name", "columns", "keys", "k", "j"] "_law_store" (defScope (Hd.top 57)) ((Ly K).fa f__law_store) cdv [0] A outer s H E) b__law_store.body (defBody (Hd.top 57)) :=
  have NN := (sc__law_store).nd
  have hr := hrX.r
  (ss_cons (ss_set NN rfl (by first | exact .inl rfl | exact .inr rfl) (by first | exact .inl rfl | exact .inr rfl) (of_decide_eq_true rfl) (se_lst sa_nil) rfl) (ss_cons (ss_for (passes_of rfl) rfl (si_any (se_v (pv 1))) (sg_t rfl (sg_ts1 (sg_n (pg_name NN rfl (by first | exact .inl rfl | exact .inr rfl)) (of_decide_eq_true rfl)) (sg_ts1 (sg_n (pg_name NN rfl (by first | exact .inl rfl | exact .inr rfl)) (of_decide_eq_true rfl)) (sg_ts1 (sg_n (pg_name NN rfl (by first | exact .inl rfl | exact .inr rfl)) (of_decide_eq_true rfl)) sg_ts0 rfl) rfl) rfl) rfl rfl rfl) (ss_cons (ss_app (pv 2) (se_tup (q_a1 (se_v (pv 3)) (q_a1 (q_call (D f__law_sorted rfl) hr hg (takes_of rfl rfl rfl rfl) V.f__law_sorted (q_g1 (se_lc rfl NN (si_range (by rfl) V.range (SE.v (q_call (D f__law_take rfl) hr hg (takes_of rfl rfl rfl rfl) V.f__law_take (q_gm (pv 0) (q_g1 se_int sg_nil)))) (by rfl)) (blkOk_by (own := [("k", 6)]) rfl) rfl (of_decide_eq_true rfl) (fun _ _ _ _ _ => (sg_n (pg_name NN rfl (by first | exact .inl rfl | exact .inr rfl)) (of_decide_eq_true rfl))) (fun _ _ _ _ _ => spt_nil) (fun _ _ _ _ _ => (q_tuple V.tuple (SE.v (se_lc rfl NN (si_range (by rfl) V.range (SE.v (se_v (pv 4))) (by rfl)) (blkOk_by (own := [("j", 7)]) rfl) rfl (of_decide_eq_true rfl) (fun _ _ _ _ _ => (sg_n (pg_name NN rfl (by first | exact .inl rfl | exact .inr rfl)) (of_decide_eq_true rfl))) (fun _ _ _ _ _ => spt_nil) (fun _ _ _ _ _ => (q_call (D f__law_small_value rfl) hr hg takes0 V.f__law_small_value (q_gm (pv 0) sg_nil))) (fun _ => rfl))))) (fun _ => rfl)) sg_nil)) sa_nil))) rfl rfl rfl rfl rfl) ss_nil) (of_decide_eq_true rfl) (fun _ => rfl)) (ss_cons (ss_ret (q_tuple V.tuple (sv_p (pv 2)))) ss_nil)))
omit V D TBs in
theorem sc__law_blocks : FnScope ["scheme", "store", "table", "keys", "found", "row", "one"] ["scheme", "store", "table"] (defScope (Hd.top 58)) := C8.fnScope_by (by decide +kernel)
theorem t__law_blocks (cdv : Value) (hco : ∀ q, (Ly K).fa f__law_blocks = He.fAd K q → cdv = .ref (He.codeOf K q)) (A : Around) (outer : List Env) (s : Shared) (H : Hp) (E : XK) (hrX : RoomX k (A.deeper (envOfC "_law_blocks" (defScope (Hd.top 58)) s.heap.objs.size ((Ly K).fa f__law_blocks) cdv))) (hg : A.guards = some []) :
    SSs (atB P w K mg base (Ly K) F G k ["scheme", "store", "table", "keys", "found", "row", "one"] "_law_blocks" (defScope (Hd.top 58)) ((Ly K).fa f__law_blocks) cdv [] A outer s H E) b__law_blocks.body (defBody (Hd.top 58)) :=
  have NN := (sc__law_blocks).nd
  have hr := hrX.r
  (ss_cons (ss_par rfl NN rfl rfl (by decide) rfl rfl (of_decide_eq_true rfl) (of_decide_eq_true rfl) (q_a1 (se_ix (ixD_of (Room.u70 hr)) (fun _ _ => rfl) rfl (se_lc rfl NN (si_any (se_v (pv 0))) (blkOk_by (own := [("one", 6)]) rfl) rfl (of_decide_eq_true rfl) (fun _ _ _ _ _ => (sg_n (pg_name NN rfl (by first | exact .inl rfl | exact .inr rfl)) (of_decide_eq_true rfl))) (fun _ _ _ _ _ => (spt_one (st_cmp (bin_eq hr.units) rfl (nomark _) rfl (se_ixp (ixD_of (Room.u70 hr)) (fun _ _ => rfl) (pv 6) (SE.v se_int)) (sv_p (pv 2))))) (fun _ _ _ _ _ => (se_ixp (ixD_of (Room.u70 hr)) (fun _ _ => rfl) (pv 6) (SE.v se_int))) (fun _ => rfl)) (SE.v se_int)) (q_a1 (se_lst sa_nil) sa_nil)) rfl rfl) (ss_cons (ss_for (passes_of rfl) rfl (si_any (se_ix (ixD_of (Room.u70 hr)) (fun _ _ => rfl) rfl (se_lc rfl NN (si_any (se_v (pv 1))) (blkOk_by (own := [("one", 6)]) rfl) rfl (of_decide_eq_true rfl) (fun _ _ _ _ _ => (sg_n (pg_name NN rfl (by first | exact .inl rfl | exact .inr rfl)) (of_decide_eq_true rfl))) (fun _ _ _ _ _ => (spt_one (st_cmp (bin_eq hr.units) rfl (nomark _) rfl (se_ixp (ixD_of (Room.u70 hr)) (fun _ _ => rfl) (pv 6) (SE.v se_int)) (sv_p (pv 2))))) (fun _ _ _ _ _ => (se_ixp (ixD_of (Room.u70 hr)) (fun _ _ => rfl) (pv 6) (SE.v se_int))) (fun _ => rfl)) (SE.v se_int))) (sg_n (pg_name NN rfl (by first | exact .inl rfl | exact .inr rfl)) (of_decide_eq_true rfl)) (ss_cons (ss_if (SW.st (sw_and (st_cmpp (bin_ne hr.units) rfl (nomark _) (pv 4) (SE.v (se_lst sa_nil))) (sw_and1 (st_cmp (bin_eq hr.units) rfl (nomark _) rfl (se_ix (ixD_of (Room.u70 hr)) (fun _ _ => rfl) rfl (se_ixp (ixD_of (Room.u70 hr)) (fun _ _ => rfl) (pv 4) (SE.v (se_neg (SE.v se_int)))) (SE.v se_int)) (SE.v (se_slicep (pv 5) so_none (so_some (SE.v (se_v (pv 3)))))))))) (ss_cons (ss_setix (pv 4) (se_neg (SE.v se_int)) (se_tup (q_a1 (se_ix (ixD_of (Room.u70 hr)) (fun _ _ => rfl) rfl (se_ixp (ixD_of (Room.u70 hr)) (fun _ _ => rfl) (pv 4) (SE.v (se_neg (SE.v se_int)))) (SE.v se_int)) (q_a1 (se_bin bin_add rfl (se_ix (ixD_of (Room.u70 hr)) (fun _ _ => rfl) rfl (se_ixp (ixD_of (Room.u70 hr)) (fun _ _ => rfl) (pv 4) (SE.v (se_neg (SE.v se_int)))) (SE.v se_int)) (SE.v (se_tup (q_a1 (se_v (pv 5)) sa_nil)))) sa_nil))) (fun _ => rfl) rfl rfl rfl) ss_nil) (ss_cons (ss_app (pv 4) (se_tup (q_a1 (se_slicep (pv 5) so_none (so_some (SE.v (se_v (pv 3))))) (q_a1 (se_tup (q_a1 (se_v (pv 5)) sa_nil)) sa_nil))) rfl rfl rfl rfl rfl) ss_nil)) ss_nil) (of_decide_eq_true rfl) (fun _ => rfl)) (ss_cons (ss_ret (se_mv (pv 4))) ss_nil)))
omit V D TBs in
theorem sc__law_every_block : FnScope ["scheme", "store", "found", "name", "columns", "keys", "key", "rows"] ["scheme", "store"] (defScope (Hd.top 59)) := C8.fnScope_by (by decide +kernel)
theorem t__law_every_block (cdv : Value) (hco : ∀ q, (Ly K).fa f__law_every_block = He.fAd K q → cdv = .ref (He.codeOf K q)) (A : Around) (outer : List Env) (s : Shared) (H : Hp) (E : XK) (hrX : RoomX k (A.deeper (envOfC "_law_every_block" (defScope (Hd.top 59)) s.heap.objs.size ((Ly K).fa f__law_every_block) cdv))) (hg : A.guards = some []) :
    SSs (atB P w K mg base (Ly K) F G k ["scheme", "store", "found", "name", "columns", "keys", "key", "rows"] "_law_every_block" (defScope (Hd.top 59)) ((Ly K).fa f__law_every_block) cdv [] A outer s H E) b__law_every_block.body (defBody (Hd.top 59)) :=
  have NN := (sc__law_every_block).nd
  have hr := hrX.r
  (ss_cons (ss_set NN rfl (by first | exact .inl rfl | exact .inr rfl) (by first | exact .inl rfl | exact .inr rfl) (of_decide_eq_true rfl) (se_lst sa_nil) rfl) (ss_cons (ss_for (passes_of rfl) rfl (si_any (se_v (pv 0))) (sg_t rfl (sg_ts1 (sg_n (pg_name NN rfl (by first | exact .inl rfl | exact .inr rfl)) (of_decide_eq_true rfl)) (sg_ts1 (sg_n (pg_name NN rfl (by first | exact .inl rfl | exact .inr rfl)) (of_decide_eq_true rfl)) (sg_ts1 (sg_n (pg_name NN rfl (by first | exact .inl rfl | exact .inr rfl)) (of_decide_eq_true rfl)) sg_ts0 rfl) rfl) rfl) rfl rfl rfl) (ss_cons (ss_ext (pv 2) (se_lc rfl NN (si_any (q_call (D f__law_blocks rfl) hr hg (takes_of rfl rfl rfl rfl) V.f__law_blocks (q_g1 (se_v (pv 0)) (q_g1 (se_v (pv 1)) (q_g1 (se_v (pv 3)) sg_nil))))) (blkOk_by (own := [("key", 6), ("rows", 7)]) rfl) rfl (of_decide_eq_true rfl) (fun _ _ _ _ _ => (sg_t rfl (sg_ts1 (sg_n (pg_name NN rfl (by first | exact .inl rfl | exact .inr rfl)) (of_decide_eq_true rfl)) (sg_ts1 (sg_n (pg_name NN rfl (by first | exact .inl rfl | exact .inr rfl)) (of_decide_eq_true rfl)) sg_ts0 rfl) rfl) rfl rfl rfl)) (fun _ _ _ _ _ => spt_nil) (fun _ _ _ _ _ => (se_tup (q_a1 (se_v (pv 3)) (q_a1 (se_v (pv 6)) (q_a1 (se_v (pv 7)) sa_nil))))) (fun _ => rfl)) rfl rfl rfl rfl rfl) ss_nil) (of_decide_eq_true rfl) (fun _ => rfl)) (ss_cons (ss_ret (se_mv (pv 2))) ss_nil)))
omit V D TBs in
theorem sc__law_come_to : FnScope ["way", "scheme", "store", "table", "thing"] ["way", "scheme", "store", "table", "thing"] (defScope (Hd.top 60)) := C8.fnScope_by (by decide +kernel)
theorem t__law_come_to (cdv : Value) (hco : ∀ q, (Ly K).fa f__law_come_to = He.fAd K q → cdv = .ref (He.codeOf K q)) (A : Around) (outer : List Env) (s : Shared) (H : Hp) (E : XK) (hrX : RoomX k (A.deeper (envOfC "_law_come_to" (defScope (Hd.top 60)) s.heap.objs.size ((Ly K).fa f__law_come_to) cdv))) (hg : A.guards = some []) :
    SSs (atB P w K mg base (Ly K) F G k ["way", "scheme", "store", "table", "thing"] "_law_come_to" (defScope (Hd.top 60)) ((Ly K).fa f__law_come_to) cdv [] A outer s H E) b__law_come_to.body (defBody (Hd.top 60)) :=
  have NN := (sc__law_come_to).nd
  have hr := hrX.r
  (ss_cons (ss_try rfl rfl (takes_of rfl rfl rfl rfl) (fun W pn xe tk po => (ss_cons (ss_if (st_cmpp (bin_eq hr.units) rfl (nomark _) (pv 0) (SE.v se_int)) (ss_cons (ss_ret (se_tup (q_a1 (se_str ⟨by decide +kernel, by decide +kernel⟩) (q_a1 (q_call (D f_key_of rfl) hr hg tk V.f_key_of (q_g1 (se_v (pv 1)) (q_g1 (se_v (pv 3)) (q_g1 (se_v (pv 4)) sg_nil)))) sa_nil)))) ss_nil) ss_nil) (ss_cons (ss_ret (se_tup (q_a1 (se_str ⟨by decide +kernel, by decide +kernel⟩) (q_a1 (se_ite (st_cmpp (bin_eq hr.units) rfl (nomark _) (pv 0) (SE.v se_int)) (q_call (D f_blocks rfl) hr hg tk V.f_blocks (q_g1 (se_v (pv 1)) (q_g1 (se_v (pv 2)) (q_g1 (se_v (pv 3)) sg_nil)))) (se_ite (st_cmpp (bin_eq hr.units) rfl (nomark _) (pv 0) (SE.v se_int)) (q_call (D f_block_with rfl) hr hg tk V.f_block_with (q_g1 (se_v (pv 1)) (q_g1 (se_v (pv 2)) (q_g1 (se_v (pv 3)) (q_g1 (se_v (pv 4)) sg_nil))))) (q_call (D f_cut_to rfl) hr hg tk V.f_cut_to (q_g1 (se_v (pv 1)) (q_g1 (se_v (pv 2)) (q_g1 (se_v (pv 3)) (q_g1 (se_v (pv 4)) sg_nil))))))) sa_nil)))) ss_nil))) (.cons ⟨rfl, by decide, .inl V.m_Nothing⟩ V.exm_Nothing (by intro s e s' h; simp [lim] at h) (fun _ _ _ _ _ _ _ => (ss_cons (ss_ret (se_tup (q_a1 (se_str ⟨by decide +kernel, by decide +kernel⟩) sa_nil))) ss_nil)) .nil)) ss_nil)
omit V D TBs in
theorem sc_law : FnScope ["script", "bag", "turn", "scheme", "store", "every", "told", "unsure", "name", "columns", "keys", "its", "row", "due", "wrong", "key", "rows", "kept", "cut", "one", "k", "thing", "lot", "way"] ["script"] (defScope (Hd.top 61)) := C8.fnScope_by (by decide +kernel)
theorem t_law (cdv : Value) (hco : ∀ q, (Ly K).fa f_law = He.fAd K q → cdv = .ref (He.codeOf K q)) (A : Around) (outer : List Env) (s : Shared) (H : Hp) (E : XK) (hrX : RoomX k (A.deeper (envOfC "law" (defScope (Hd.top 61)) s.heap.objs.size ((Ly K).fa f_law) cdv))) (hg : A.guards = some []) :
    SSs (atB P w K mg base (Ly K) F G k ["script", "bag", "turn", "scheme", "store", "every", "told", "unsure", "name", "columns", "keys", "its", "row", "due", "wrong", "key", "rows", "kept", "cut", "one", "k", "thing", "lot", "way"] "law" (defScope (Hd.top 61)) ((Ly K).fa f_law) cdv [] A outer s H E) b_law.body (defBody (Hd.top 61)) :=
  have NN := (sc_law).nd
  have hr := hrX.r
  (ss_cons (ss_set NN rfl (by first | exact .inl rfl | exact .inr rfl) (by first | exact .inl rfl | exact .inr rfl) (of_decide_eq_true rfl) (q_call (D f__law_bag rfl) hr hg (takes_of rfl rfl rfl rfl) V.f__law_bag (q_g1 (se_v (pv 0)) sg_nil)) rfl) (ss_cons (ss_for (passes_of rfl) rfl (si_range (by rfl) V.range (SE.v se_int) (by rfl)) (sg_n (pg_name NN rfl (by first | exact .inl rfl | exact .inr rfl)) (of_decide_eq_true rfl)) (ss_cons (ss_set NN rfl (by first | exact .inl rfl | exact .inr rfl) (by first | exact .inl rfl | exact .inr rfl) (of_decide_eq_true rfl) (q_call (D f__law_scheme rfl) hr hg (takes_of rfl rfl rfl rfl) V.f__law_scheme (q_gm (pv 1) sg_nil)) rfl) (ss_cons (ss_set NN rfl (by first | exact .inl rfl | exact .inr rfl) (by first | exact .inl rfl | exact .inr rfl) (of_decide_eq_true rfl) (q_call (D f__law_store rfl) hr hg (takes_of rfl rfl rfl rfl) V.f__law_store (q_gm (pv 1) (q_g1 (se_v (pv 3)) sg_nil))) rfl) (ss_cons (ss_set NN rfl (by first | exact .inl rfl | exact .inr rfl) (by first | exact .inl rfl | exact .inr rfl) (of_decide_eq_true rfl) (q_call (D f__law_every_block rfl) hr hg (takes_of rfl rfl rfl rfl) V.f__law_every_block (q_g1 (se_v (pv 3)) (q_g1 (se_v (pv 4)) sg_nil))) rfl) (ss_cons (ss_setLc rfl NN rfl rfl (of_decide_eq_true rfl) (sw_true rfl rfl rfl rfl) (si_any (se_v (pv 5))) (blkOk_by (own := [("name", 8), ("key", 15), ("rows", 16)]) rfl) rfl (of_decide_eq_true rfl) (fun _ _ _ _ _ => (sg_t rfl (sg_ts1 (sg_n (pg_name NN rfl (by first | exact .inl rfl | exact .inr rfl)) (of_decide_eq_true rfl)) (sg_ts1 (sg_n (pg_name NN rfl (by first | exact .inl rfl | exact .inr rfl)) (of_decide_eq_true rfl)) (sg_ts1 (sg_n (pg_name NN rfl (by first | exact .inl rfl | exact .inr rfl)) (of_decide_eq_true rfl)) sg_ts0 rfl) rfl) rfl) rfl rfl rfl)) (fun _ _ _ _ _ => spt_nil) (fun _ _ _ _ _ => (se_tup (q_a1 (se_v (pv 8)) (q_a1 (se_v (pv 15)) sa_nil)))) (fun _ => rfl)) (ss_cons (ss_setLc rfl NN rfl rfl (of_decide_eq_true rfl) (sw_true rfl rfl rfl rfl) (si_any (se_v (pv 5))) (blkOk_by (own := [("name", 8), ("key", 15), ("rows", 16)]) rfl) rfl (of_decide_eq_true rfl) (fun _ _ _ _ _ => (sg_t rfl (sg_ts1 (sg_n (pg_name NN rfl (by first | exact .inl rfl | exact .inr rfl)) (of_decide_eq_true rfl)) (sg_ts1 (sg_n (pg_name NN rfl (by first | exact .inl rfl | exact .inr rfl)) (of_decide_eq_true rfl)) (sg_ts1 (sg_n (pg_name NN rfl (by first | exact .inl rfl | exact .inr rfl)) (of_decide_eq_true rfl)) sg_ts0 rfl) rfl) rfl) rfl rfl rfl)) (fun _ _ _ _ _ => (spt_one (st_cmp bin_gt rfl (nomark _) rfl (q_len V.len (sv_p (pv 16))) (SE.v se_int)))) (fun _ _ _ _ _ => (se_tup (q_a1 (se_v (pv 8)) (q_a1 (se_v (pv 15)) sa_nil)))) (fun _ => rfl)) (ss_cons (ss_if (st_not (st_tr trD (SE.v (q_call (D f__law_alike rfl) hr hg (takes_of rfl rfl rfl rfl) V.f__law_alike (q_g1 (se_lst (q_a1 (q_call (D f_all_blocks rfl) hr hg (takes_of rfl rfl rfl rfl) V.f_all_blocks (q_g1 (se_v (pv 3)) (q_g1 (se_v (pv 4)) sg_nil))) (q_a1 (q_call (D f_doubtful rfl) hr hg (takes_of rfl rfl rfl rfl) V.f_doubtful (q_g1 (se_v (pv 3)) (q_g1 (se_v (pv 4)) sg_nil))) (q_a1 (q_call (D f_is_settled rfl) hr hg (takes_of rfl rfl rfl rfl) V.f_is_settled (q_g1 (se_v (pv 3)) (q_g1 (se_v (pv 4)) sg_nil))) sa_nil)))) (q_g1 (se_lst (q_a1 (q_tuple V.tuple (sv_p (pv 6))) (q_a1 (q_tuple V.tuple (sv_p (pv 7))) (q_a1 (se_cmpp (bin_eq hr.units) (nomark _) (pv 7) (SE.v (se_lst sa_nil))) sa_nil)))) sg_nil)))) (fun _ => rfl))) (ss_cons (ss_ret se_bool) ss_nil) ss_nil) (ss_cons (ss_for (passes_of rfl) rfl (si_any (se_v (pv 3))) (sg_t rfl (sg_ts1 (sg_n (pg_name NN rfl (by first | exact .inl rfl | exact .inr rfl)) (of_decide_eq_true rfl)) (sg_ts1 (sg_n (pg_name NN rfl (by first | exact .inl rfl | exact .inr rfl)) (of_decide_eq_true rfl)) (sg_ts1 (sg_n (pg_name NN rfl (by first | exact .inl rfl | exact .inr rfl)) (of_decide_eq_true rfl)) sg_ts0 rfl) rfl) rfl) rfl rfl rfl) (ss_cons (ss_setLc rfl NN rfl rfl (of_decide_eq_true rfl) (sw_true rfl rfl rfl rfl) (si_any (se_v (pv 5))) (blkOk_by (own := [("one", 19), ("key", 15), ("rows", 16)]) rfl) rfl (of_decide_eq_true rfl) (fun _ _ _ _ _ => (sg_t rfl (sg_ts1 (sg_n (pg_name NN rfl (by first | exact .inl rfl | exact .inr rfl)) (of_decide_eq_true rfl)) (sg_ts1 (sg_n (pg_name NN rfl (by first | exact .inl rfl | exact .inr rfl)) (of_decide_eq_true rfl)) (sg_ts1 (sg_n (pg_name NN rfl (by first | exact .inl rfl | exact .inr rfl)) (of_decide_eq_true rfl)) sg_ts0 rfl) rfl) rfl) rfl rfl rfl)) (fun _ _ _ _ _ => (spt_one (st_cmpp (bin_eq hr.units) rfl (nomark _) (pv 19) (sv_p (pv 8))))) (fun _ _ _ _ _ => (se_tup (q_a1 (se_v (pv 15)) (q_a1 (se_v (pv 16)) sa_nil)))) (fun _ => rfl)) (ss_cons (ss_if (st_not (st_tr trD (SE.v (q_call (D f__law_alike rfl) hr hg (takes_of rfl rfl rfl rfl) V.f__law_alike (q_g1 (q_call (D f__law_come_to rfl) hr hg (takes_of rfl rfl rfl rfl) V.f__law_come_to (q_g1 se_int (q_g1 (se_v (pv 3)) (q_g1 (se_v (pv 4)) (q_g1 (se_v (pv 8)) (q_g1 se_none sg_nil)))))) (q_g1 (se_tup (q_a1 (se_str ⟨by decide +kernel, by decide +kernel⟩) (q_a1 (q_tuple V.tuple (SE.v (se_lc rfl NN (si_any (se_v (pv 11))) (blkOk_by (own := [("key", 15), ("rows", 16)]) rfl) rfl (of_decide_eq_true rfl) (fun _ _ _ _ _ => (sg_t rfl (sg_ts1 (sg_n (pg_name NN rfl (by first | exact .inl rfl | exact .inr rfl)) (of_decide_eq_true rfl)) (sg_ts1 (sg_n (pg_name NN rfl (by first | exact .inl rfl | exact .inr rfl)) (of_decide_eq_true rfl)) sg_ts0 rfl) rfl) rfl rfl rfl)) (fun _ _ _ _ _ => spt_nil) (fun _ _ _ _ _ => (se_v (pv 16))) (fun _ => rfl)))) sa_nil))) sg_nil)))) (fun _ => rfl))) (ss_cons (ss_ret se_bool) ss_nil) ss_nil) (ss_cons (ss_set NN rfl (by first | exact .inl rfl | exact .inr rfl) (by first | exact .inl rfl | exact .inr rfl) (of_decide_eq_true rfl) (q_tuple V.tuple (SE.v (se_lc rfl NN (si_range (by rfl) V.range (SE.v (se_v (pv 9))) (by rfl)) (blkOk_by (own := [("k", 20)]) rfl) rfl (of_decide_eq_true rfl) (fun _ _ _ _ _ => (sg_n (pg_name NN rfl (by first | exact .inl rfl | exact .inr rfl)) (of_decide_eq_true rfl))) (fun _ _ _ _ _ => spt_nil) (fun _ _ _ _ _ => (q_call (D f__law_small_value rfl) hr hg takes0 V.f__law_small_value (q_gm (pv 1) sg_nil))) (fun _ => rfl)))) rfl) (ss_cons (ss_set NN rfl (by first | exact .inl rfl | exact .inr rfl) (by first | exact .inl rfl | exact .inr rfl) (of_decide_eq_true rfl) (se_ix (ixD_of (Room.u70 hr)) (fun _ _ => rfl) rfl (se_bin bin_add rfl (se_lc rfl NN (si_any (se_v (pv 11))) (blkOk_by (own := [("key", 15), ("rows", 16)]) rfl) rfl (of_decide_eq_true rfl) (fun _ _ _ _ _ => (sg_t rfl (sg_ts1 (sg_n (pg_name NN rfl (by first | exact .inl rfl | exact .inr rfl)) (of_decide_eq_true rfl)) (sg_ts1 (sg_n (pg_name NN rfl (by first | exact .inl rfl | exact .inr rfl)) (of_decide_eq_true rfl)) sg_ts0 rfl) rfl) rfl rfl rfl)) (fun _ _ _ _ _ => (spt_one (st_tr trD (SE.v (q_call (D f__law_alike rfl) hr hg takes0 V.f__law_alike (q_g1 (se_v (pv 15)) (q_g1 (se_slicep (pv 12) so_none (so_some (SE.v (se_v (pv 10))))) sg_nil)))) (fun _ => rfl)))) (fun _ _ _ _ _ => (se_v (pv 16))) (fun _ => rfl)) (SE.v (se_lst (q_a1 (se_tup sa_nil) sa_nil)))) (SE.v se_int)) rfl) (ss_cons (ss_if (st_not (st_tr trD (SE.v (q_call (D f__law_alike rfl) hr hg (takes_of rfl rfl rfl rfl) V.f__law_alike (q_g1 (se_lst (q_a1 (q_call (D f__law_come_to rfl) hr hg (takes_of rfl rfl rfl rfl) V.f__law_come_to (q_g1 se_int (q_g1 (se_v (pv 3)) (q_g1 (se_v (pv 4)) (q_g1 (se_v (pv 8)) (q_g1 (se_v (pv 12)) sg_nil)))))) (q_a1 (q_call (D f__law_come_to rfl) hr hg (takes_of rfl rfl rfl rfl) V.f__law_come_to (q_g1 se_int (q_g1 (se_v (pv 3)) (q_g1 (se_v (pv 4)) (q_g1 (se_v (pv 8)) (q_g1 (se_slicep (pv 12) so_none (so_some (SE.v (se_v (pv 10))))) sg_nil)))))) sa_nil))) (q_g1 (se_lst (q_a1 (se_tup (q_a1 (se_str ⟨by decide +kernel, by decide +kernel⟩) (q_a1 (se_slicep (pv 12) so_none (so_some (SE.v (se_v (pv 10))))) sa_nil))) (q_a1 (se_tup (q_a1 (se_str ⟨by decide +kernel, by decide +kernel⟩) (q_a1 (se_v (pv 13)) sa_nil))) sa_nil))) sg_nil)))) (fun _ => rfl))) (ss_cons (ss_ret se_bool) ss_nil) ss_nil) (ss_cons (ss_set NN rfl (by first | exact .inl rfl | exact .inr rfl) (by first | exact .inl rfl | exact .inr rfl) (of_decide_eq_true rfl) (se_lst (q_a1 (se_tup sa_nil) (q_a1 se_none (q_a1 (se_ite (SW.st (sw_or (st_cmpp (bin_eq hr.units) rfl (nomark _) (pv 13) (SE.v (se_tup sa_nil))) (sw_or1 (st_cmpp (bin_notin (Room.u65 hr) (inD_of (Room.u70 hr))) rfl (by with_unfolding_all rfl) (pv 12) (sv_p (pv 13)))))) (se_tup (q_a1 (se_v (pv 12)) sa_nil)) (se_tup sa_nil)) (q_a1 (se_ite (st_cmp bin_gt rfl (nomark _) rfl (q_len V.len (sv_p (pv 11))) (SE.v se_int)) (q_tuple V.tuple (SE.v (se_lc rfl NN (si_any (se_v (pv 11))) (blkOk_by (own := [("key", 15), ("rows", 16)]) rfl) rfl (of_decide_eq_true rfl) (fun _ _ _ _ _ => (sg_t rfl (sg_ts1 (sg_n (pg_name NN rfl (by first | exact .inl rfl | exact .inr rfl)) (of_decide_eq_true rfl)) (sg_ts1 (sg_n (pg_name NN rfl (by first | exact .inl rfl | exact .inr rfl)) (of_decide_eq_true rfl)) sg_ts0 rfl) rfl) rfl rfl rfl)) (fun _ _ _ _ _ => spt_nil) (fun _ _ _ _ _ => (se_ixp (ixD_of (Room.u70 hr)) (fun _ _ => rfl) (pv 16) (SE.v se_int))) (fun _ => rfl)))) (se_tup sa_nil)) sa_nil))))) rfl) (ss_cons (ss_if (st_cmp (bin_ne hr.units) rfl (nomark _) rfl (se_lc rfl NN (si_any (se_v (pv 14))) (blkOk_by (own := [("thing", 21)]) rfl) rfl (of_decide_eq_true rfl) (fun _ _ _ _ _ => (sg_n (pg_name NN rfl (by first | exact .inl rfl | exact .inr rfl)) (of_decide_eq_true rfl))) (fun _ _ _ _ _ => (spt_one (st_cmp (bin_ne hr.units) rfl (nomark _) rfl (q_call (D f__law_come_to rfl) hr hg takes0 V.f__law_come_to (q_g1 se_int (q_g1 (se_v (pv 3)) (q_g1 (se_v (pv 4)) (q_g1 (se_v (pv 8)) (q_g1 (se_v (pv 21)) sg_nil)))))) (SE.v (se_tup (q_a1 (se_str ⟨by decide +kernel, by decide +kernel⟩) sa_nil)))))) (fun _ _ _ _ _ => (se_v (pv 21))) (fun _ => rfl)) (SE.v (se_lst sa_nil))) (ss_cons (ss_ret se_bool) ss_nil) ss_nil) ss_nil))))))) (of_decide_eq_true rfl) (fun _ => rfl)) (ss_cons (ss_for (passes_of rfl) rfl (si_any (se_v (pv 5))) (sg_t rfl (sg_ts1 (sg_n (pg_name NN rfl (by first | exact .inl rfl | exact .inr rfl)) (of_decide_eq_true rfl)) (sg_ts1 (sg_n (pg_name NN rfl (by first | exact .inl rfl | exact .inr rfl)) (of_decide_eq_true rfl)) (sg_ts1 (sg_n (pg_name NN rfl (by first | exact .inl rfl | exact .inr rfl)) (of_decide_eq_true rfl)) sg_ts0 rfl) rfl) rfl) rfl rfl rfl) (ss_cons (ss_set NN rfl (by first | exact .inl rfl | exact .inr rfl) (by first | exact .inl rfl | exact .inr rfl) (of_decide_eq_true rfl) (q_tuple V.tuple (SE.v (se_lc rfl NN (si_any (se_v (pv 16))) (blkOk_by (own := [("row", 12)]) rfl) rfl (of_decide_eq_true rfl) (fun _ _ _ _ _ => (sg_n (pg_name NN rfl (by first | exact .inl rfl | exact .inr rfl)) (of_decide_eq_true rfl))) (fun _ _ _ _ _ => (spt_one (st_cmp (bin_eq hr.units) rfl (nomark _) rfl (q_call (D f__law_take rfl) hr hg takes0 V.f__law_take (q_gm (pv 1) (q_g1 se_int sg_nil))) (SE.v se_int)))) (fun _ _ _ _ _ => (se_v (pv 12))) (fun _ => rfl)))) rfl) (ss_cons (ss_set NN rfl (by first | exact .inl rfl | exact .inr rfl) (by first | exact .inl rfl | exact .inr rfl) (of_decide_eq_true rfl) (se_ite (st_cmpp (bin_ne hr.units) rfl (nomark _) (pv 17) (SE.v (se_tup sa_nil))) (se_v (pv 17)) (se_slicep (pv 16) (so_some (SE.v (se_neg (SE.v se_int)))) so_none)) rfl) (ss_cons (ss_set NN rfl (by first | exact .inl rfl | exact .inr rfl) (by first | exact .inl rfl | exact .inr rfl) (of_decide_eq_true rfl) (q_tuple V.tuple (SE.v (se_lc rfl NN (si_any (se_v (pv 4))) (blkOk_by (own := [("one", 19), ("lot", 22)]) rfl) rfl (of_decide_eq_true rfl) (fun _ _ _ _ _ => (sg_t rfl (sg_ts1 (sg_n (pg_name NN rfl (by first | exact .inl rfl | exact .inr rfl)) (of_decide_eq_true rfl)) (sg_ts1 (sg_n (pg_name NN rfl (by first | exact .inl rfl | exact .inr rfl)) (of_decide_eq_true rfl)) sg_ts0 rfl) rfl) rfl rfl rfl)) (fun _ _ _ _ _ => spt_nil) (fun _ _ _ _ _ => (se_tup (q_a1 (se_v (pv 19)) (q_a1 (q_tuple V.tuple (SE.v (se_lc rfl NN (si_any (se_v (pv 22))) (blkOk_by (own := [("row", 12)]) rfl) rfl (of_decide_eq_true rfl) (fun _ _ _ _ _ => (sg_n (pg_name NN rfl (by first | exact .inl rfl | exact .inr rfl)) (of_decide_eq_true rfl))) (fun _ _ _ _ _ => (spt_one (SW.st (sw_or (st_cmpp (bin_ne hr.units) rfl (nomark _) (pv 19) (sv_p (pv 8))) (sw_or (st_cmpp (bin_notin (Room.u65 hr) (inD_of (Room.u70 hr))) rfl (by with_unfolding_all rfl) (pv 12) (sv_p (pv 16))) (sw_or1 (st_cmpp (bin_in (Room.u65 hr) (inD_of (Room.u70 hr))) rfl (by with_unfolding_all rfl) (pv 12) (sv_p (pv 17))))))))) (fun _ _ _ _ _ => (se_v (pv 12))) (fun _ => rfl)))) sa_nil)))) (fun _ => rfl)))) rfl) (ss_cons (ss_if (st_not (st_tr trD (SE.v (q_call (D f__law_alike rfl) hr hg (takes_of rfl rfl rfl rfl) V.f__law_alike (q_g1 (se_lst (q_a1 (q_call (D f__law_come_to rfl) hr hg (takes_of rfl rfl rfl rfl) V.f__law_come_to (q_g1 se_int (q_g1 (se_v (pv 3)) (q_g1 (se_v (pv 4)) (q_g1 (se_v (pv 8)) (q_g1 (se_v (pv 17)) sg_nil)))))) (q_a1 (q_call (D f_checked_store rfl) hr hg (takes_of rfl rfl rfl rfl) V.f_checked_store (q_g1 (se_v (pv 3)) (q_g1 (se_v (pv 18)) sg_nil))) sa_nil))) (q_g1 (se_lst (q_a1 (se_tup (q_a1 (se_str ⟨by decide +kernel, by decide +kernel⟩) (q_a1 (se_v (pv 18)) sa_nil))) (q_a1 (se_v (pv 18)) sa_nil))) sg_nil)))) (fun _ => rfl))) (ss_cons (ss_ret se_bool) ss_nil) ss_nil) ss_nil)))) (of_decide_eq_true rfl) (fun _ => rfl)) (ss_cons (ss_if (st_cmp (bin_ne hr.units) rfl (nomark _) rfl (se_lc rfl NN (si_any (se_tup (q_a1 se_int (q_a1 se_int (q_a1 se_int sa_nil))))) (blkOk_by (own := [("way", 23)]) rfl) rfl (of_decide_eq_true rfl) (fun _ _ _ _ _ => (sg_n (pg_name NN rfl (by first | exact .inl rfl | exact .inr rfl)) (of_decide_eq_true rfl))) (fun _ _ _ _ _ => (spt_one (st_cmp (bin_ne hr.units) rfl (nomark _) rfl (q_call (D f__law_come_to rfl) hr hg takes0 V.f__law_come_to (q_g1 (se_v (pv 23)) (q_g1 (se_v (pv 3)) (q_g1 (se_v (pv 4)) (q_g1 (se_str ⟨by decide +kernel, by decide +kernel⟩) (q_g1 (se_tup (q_a1 (se_tup (q_a1 se_int sa_nil)) sa_nil)) sg_nil)))))) (SE.v (se_tup (q_a1 (se_str ⟨by decide +kernel, by decide +kernel⟩) sa_nil)))))) (fun _ _ _ _ _ => (se_v (pv 23))) (fun _ => rfl)) (SE.v (se_lst sa_nil))) (ss_cons (ss_ret se_bool) ss_nil) ss_nil) ss_nil))))))))) (of_decide_eq_true rfl) (fun _ => rfl)) (ss_cons (ss_ret se_bool) ss_nil)))
end
end Mp
set_option maxHeartbeats 400000
namespace Mp
open PySem PySem.Spec PyProof.Rows L2
theorem txt {w : World} {h : Heap} {K : PySem.W.Frag} {mg : Str → Option Value} (X : K.In h) (Gm : h.Ns mainGlobals mg) (c : He.SaysX Hd.fa Hd.fn [] Hd.tf Hd.ex w h K) : Txt K w mg :=
  have d := c.t.d
  have ex : ([decide (((Hd.tf.map (tbOf K)).map (·.1)).Nodup), cstB K "LETTERS" (.str (Str.ofString "abcdefghijklmnopqrstuvwxyz")), cstB K "DIGITS" (.str (Str.ofString "0123456789")), cstB K "MOST_LETTERS" (.int 8), cstB K "MOST_FIGURES" (.int 30), cstB K "RESERVED" (.tuple [(.str (Str.ofString "all")), (.str (Str.ofString "and")), (.str (Str.ofString "any")), (.str (Str.ofString "as")), (.str (Str.ofString "block")), (.str (Str.ofString "each")), (.str (Str.ofString "free")), (.str (Str.ofString "from")), (.str (Str.ofString "in")), (.str (Str.ofString "key")), (.str (Str.ofString "never")), (.str (Str.ofString "of")), (.str (Str.ofString "or")), (.str (Str.ofString "question")), (.str (Str.ofString "row")), (.str (Str.ofString "some")), (.str (Str.ofString "sure")), (.str (Str.ofString "table")), (.str (Str.ofString "to")), (.str (Str.ofString "with"))]), cstB K "MOST_ROWS" (.int 200), decide (PySem.W.exmOne K (.type "SystemExit") (.ref (He.ga K "CertainError")) = some false), decide (PySem.W.exmOne K (.type "SystemExit") (.ref (He.ga K "BadStore")) = some false), decide (PySem.W.exmOne K (.type "SystemExit") (.ref (He.ga K "Nothing")) = some false), decide (PySem.W.exmOne K (.type "SystemExit") (.ref (He.ga K "TooLarge")) = some false)] : List Bool).all id = true := c.more
  { tnd := of_decide_eq_true (all_id ex 0 rfl)
    f_is_number := He.glo_ok X Gm (d.fact 0 (f := .glo "is_number") rfl)
    f_is_name := He.glo_ok X Gm (d.fact 1 (f := .glo "is_name") rfl)
    f_great := He.glo_ok X Gm (d.fact 2 (f := .glo "great") rfl)
    f_is_value := He.glo_ok X Gm (d.fact 3 (f := .glo "is_value") rfl)
    f_is_tuple_of := He.glo_ok X Gm (d.fact 4 (f := .glo "is_tuple_of") rfl)
    f_is_sized := He.glo_ok X Gm (d.fact 5 (f := .glo "is_sized") rfl)
    f_is_row := He.glo_ok X Gm (d.fact 6 (f := .glo "is_row") rfl)
    f_is_rows_form := He.glo_ok X Gm (d.fact 7 (f := .glo "is_rows_form") rfl)
    f_is_store_form := He.glo_ok X Gm (d.fact 8 (f := .glo "is_store_form") rfl)
    f_value_key := He.glo_ok X Gm (d.fact 9 (f := .glo "value_key") rfl)
    f_row_key := He.glo_ok X Gm (d.fact 10 (f := .glo "row_key") rfl)
    f_ascending := He.glo_ok X Gm (d.fact 11 (f := .glo "ascending") rfl)
    f_are_rising := He.glo_ok X Gm (d.fact 12 (f := .glo "are_rising") rfl)
    f_table_names := He.glo_ok X Gm (d.fact 13 (f := .glo "table_names") rfl)
    f_table_of := He.glo_ok X Gm (d.fact 14 (f := .glo "table_of") rfl)
    f_columns_of := He.glo_ok X Gm (d.fact 15 (f := .glo "columns_of") rfl)
    f_keys_of := He.glo_ok X Gm (d.fact 16 (f := .glo "keys_of") rfl)
    f_check_rows := He.glo_ok X Gm (d.fact 17 (f := .glo "check_rows") rfl)
    f_checked_store := He.glo_ok X Gm (d.fact 18 (f := .glo "checked_store") rfl)
    f_rows_of := He.glo_ok X Gm (d.fact 19 (f := .glo "rows_of") rfl)
    f_with_rows := He.glo_ok X Gm (d.fact 20 (f := .glo "with_rows") rfl)
    f_key_of := He.glo_ok X Gm (d.fact 21 (f := .glo "key_of") rfl)
    f_blocks_by_keys := He.glo_ok X Gm (d.fact 22 (f := .glo "blocks_by_keys") rfl)
    f_blocks := He.glo_ok X Gm (d.fact 23 (f := .glo "blocks") rfl)
    f_block_with := He.glo_ok X Gm (d.fact 24 (f := .glo "block_with") rfl)
    f_all_blocks := He.glo_ok X Gm (d.fact 25 (f := .glo "all_blocks") rfl)
    f_doubtful := He.glo_ok X Gm (d.fact 26 (f := .glo "doubtful") rfl)
    f_is_doubtful := He.glo_ok X Gm (d.fact 27 (f := .glo "is_doubtful") rfl)
    f_is_settled := He.glo_ok X Gm (d.fact 28 (f := .glo "is_settled") rfl)
    f_cut_to := He.glo_ok X Gm (d.fact 29 (f := .glo "cut_to") rfl)
    f__law_bag := He.glo_ok X Gm (d.fact 30 (f := .glo "_law_bag") rfl)
    f__law_take := He.glo_ok X Gm (d.fact 31 (f := .glo "_law_take") rfl)
    f__law_some := He.glo_ok X Gm (d.fact 32 (f := .glo "_law_some") rfl)
    f__law_mixed := He.glo_ok X Gm (d.fact 33 (f := .glo "_law_mixed") rfl)
    f__law_alike := He.glo_ok X Gm (d.fact 34 (f := .glo "_law_alike") rfl)
    f__law_value_key := He.glo_ok X Gm (d.fact 35 (f := .glo "_law_value_key") rfl)
    f__law_row_key := He.glo_ok X Gm (d.fact 36 (f := .glo "_law_row_key") rfl)
    f__law_sorted := He.glo_ok X Gm (d.fact 37 (f := .glo "_law_sorted") rfl)
    f__law_scheme := He.glo_ok X Gm (d.fact 38 (f := .glo "_law_scheme") rfl)
    f__law_small_value := He.glo_ok X Gm (d.fact 39 (f := .glo "_law_small_value") rfl)
    f__law_store := He.glo_ok X Gm (d.fact 40 (f := .glo "_law_store") rfl)
    f__law_blocks := He.glo_ok X Gm (d.fact 41 (f := .glo "_law_blocks") rfl)
    f__law_every_block := He.glo_ok X Gm (d.fact 42 (f := .glo "_law_every_block") rfl)
    f__law_come_to := He.glo_ok X Gm (d.fact 43 (f := .glo "_law_come_to") rfl)
    f_law := He.glo_ok X Gm (d.fact 44 (f := .glo "law") rfl)
    abs := He.free_ok X Gm (d.fact 45 (f := .free "abs") rfl)
    all := He.free_ok X Gm (d.fact 46 (f := .free "all") rfl)
    bool := He.free_ok X Gm (d.fact 47 (f := .free "bool") rfl)
    enumerate := He.free_ok X Gm (d.fact 48 (f := .free "enumerate") rfl)
    int := He.free_ok X Gm (d.fact 49 (f := .free "int") rfl)
    isinstance := He.free_ok X Gm (d.fact 50 (f := .free "isinstance") rfl)
    len := He.free_ok X Gm (d.fact 51 (f := .free "len") rfl)
    range := He.free_ok X Gm (d.fact 52 (f := .free "range") rfl)
    repr := He.free_ok X Gm (d.fact 53 (f := .free "repr") rfl)
    sorted := He.free_ok X Gm (d.fact 54 (f := .free "sorted") rfl)
    str := He.free_ok X Gm (d.fact 55 (f := .free "str") rfl)
    tuple := He.free_ok X Gm (d.fact 56 (f := .free "tuple") rfl)
    zip := He.free_ok X Gm (d.fact 57 (f := .free "zip") rfl)
    m_CertainError := He.glo_ok X Gm (d.fact 58 (f := .glo "CertainError") rfl)
    m_BadStore := He.glo_ok X Gm (d.fact 59 (f := .glo "BadStore") rfl)
    m_Nothing := He.glo_ok X Gm (d.fact 60 (f := .glo "Nothing") rfl)
    m_TooLarge := He.glo_ok X Gm (d.fact 61 (f := .glo "TooLarge") rfl)
    x_CertainError := let ⟨a1, a2, a3, a4⟩ := He.exc_ok (d.fact 62 (f := .exc "CertainError") rfl); ⟨He.glo_ok X Gm (d.fact 58 (f := .glo "CertainError") rfl), a1, a2, a3, a4⟩
    x_Nothing := let ⟨a1, a2, a3, a4⟩ := He.exc_ok (d.fact 63 (f := .exc "Nothing") rfl); ⟨He.glo_ok X Gm (d.fact 60 (f := .glo "Nothing") rfl), a1, a2, a3, a4⟩
    g_LETTERS := cstB_ok X Gm (all_id ex 1 rfl)
    g_DIGITS := cstB_ok X Gm (all_id ex 2 rfl)
    g_MOST_LETTERS := cstB_ok X Gm (all_id ex 3 rfl)
    g_MOST_FIGURES := cstB_ok X Gm (all_id ex 4 rfl)
    g_RESERVED := cstB_ok X Gm (all_id ex 5 rfl)
    g_MOST_ROWS := cstB_ok X Gm (all_id ex 6 rfl)
    exm_CertainError := fun n => match n with | 0 => He.exm_ok (d.fact 64 (f := .exm "CertainError" "CertainError" true) rfl) | 1 => He.exm_ok (d.fact 65 (f := .exm "BadStore" "CertainError" true) rfl) | 2 => He.exm_ok (d.fact 66 (f := .exm "Nothing" "CertainError" true) rfl) | 3 => He.exm_ok (d.fact 67 (f := .exm "TooLarge" "CertainError" true) rfl) | n + 4 => (of_decide_eq_true (all_id ex 7 rfl)).trans (congrArg some (by simp : false = ([0, 1, 2, 3] : List Nat).contains (n + 4)))
    exm_BadStore := fun n => match n with | 0 => He.exm_ok (d.fact 68 (f := .exm "CertainError" "BadStore" false) rfl) | 1 => He.exm_ok (d.fact 69 (f := .exm "BadStore" "BadStore" true) rfl) | 2 => He.exm_ok (d.fact 70 (f := .exm "Nothing" "BadStore" false) rfl) | 3 => He.exm_ok (d.fact 71 (f := .exm "TooLarge" "BadStore" false) rfl) | n + 4 => (of_decide_eq_true (all_id ex 8 rfl)).trans (congrArg some (by simp : false = ([1] : List Nat).contains (n + 4)))
    exm_Nothing := fun n => match n with | 0 => He.exm_ok (d.fact 72 (f := .exm "CertainError" "Nothing" false) rfl) | 1 => He.exm_ok (d.fact 73 (f := .exm "BadStore" "Nothing" false) rfl) | 2 => He.exm_ok (d.fact 74 (f := .exm "Nothing" "Nothing" true) rfl) | 3 => He.exm_ok (d.fact 75 (f := .exm "TooLarge" "Nothing" false) rfl) | n + 4 => (of_decide_eq_true (all_id ex 9 rfl)).trans (congrArg some (by simp : false = ([2] : List Nat).contains (n + 4)))
    exm_TooLarge := fun n => match n with | 0 => He.exm_ok (d.fact 76 (f := .exm "CertainError" "TooLarge" false) rfl) | 1 => He.exm_ok (d.fact 77 (f := .exm "BadStore" "TooLarge" false) rfl) | 2 => He.exm_ok (d.fact 78 (f := .exm "Nothing" "TooLarge" false) rfl) | 3 => He.exm_ok (d.fact 79 (f := .exm "TooLarge" "TooLarge" true) rfl) | n + 4 => (of_decide_eq_true (all_id ex 10 rfl)).trans (congrArg some (by simp : false = ([3] : List Nat).contains (n + 4)))
  }
section
variable {P : Program} {w : World} {K : PySem.W.Frag} {mg : Str → Option Value} {base : Heap}
abbrev FnK (P : Program) (w : World) (K : PySem.W.Frag) (mg : Str → Option Value) (base : Heap) (k f : Nat) : Prop := FnAt P w K mg base k ((Ly K).fa f) (spF (cfL K w (Ly K)) (muF F f) (call F G k) f (arF F f))
theorem e_is_number (c : He.SaysD Hd.fa Hd.fn K) : FnK P w K mg base 0 f_is_number := by
  obtain ⟨fd, FD⟩ := c.def_ 0 rfl
  exact def_0 (ps := ["thing"]) FD (FD.bindsN fun _ _ _ _ _ _ us hl => match us, hl with | [_], _ => rfl) rfl
theorem d_is_number {k : Nat} (V : Txt K w mg) (D : ∀ f, (Ly K).fn f = true → FnK P w K mg base k f) (TBs : ∀ p ∈ tfs K, LamX.TabB base mg p.1 p.2) (c : He.SaysD Hd.fa Hd.fn K) : FnK P w K mg base (k + 1) f_is_number := by
  obtain ⟨fd, FD⟩ := c.def_ 0 rfl
  exact def_ok (N := ["thing"]) (ps := ["thing"]) F_is_number FD (FD.bindsN fun _ _ _ _ _ _ us hl => match us, hl with | [_], _ => rfl) sc_is_number rfl rfl (of_decide_eq_true rfl) fun cdv hco A outer s H E hr hg => t_is_number V D TBs cdv hco A outer s H E hr hg
theorem e_is_name (c : He.SaysD Hd.fa Hd.fn K) : FnK P w K mg base 0 f_is_name := by
  obtain ⟨fd, FD⟩ := c.def_ 1 rfl
  exact def_0 (ps := ["thing"]) FD (FD.bindsN fun _ _ _ _ _ _ us hl => match us, hl with | [_], _ => rfl) rfl
theorem d_is_name {k : Nat} (V : Txt K w mg) (D : ∀ f, (Ly K).fn f = true → FnK P w K mg base k f) (TBs : ∀ p ∈ tfs K, LamX.TabB base mg p.1 p.2) (c : He.SaysD Hd.fa Hd.fn K) : FnK P w K mg base (k + 1) f_is_name := by
  obtain ⟨fd, FD⟩ := c.def_ 1 rfl
  exact def_ok (N := ["thing", "sign"]) (ps := ["thing"]) F_is_name FD (FD.bindsN fun _ _ _ _ _ _ us hl => match us, hl with | [_], _ => rfl) sc_is_name rfl rfl (of_decide_eq_true rfl) fun cdv hco A outer s H E hr hg => t_is_name V D TBs cdv hco A outer s H E hr hg
theorem e_great (c : He.SaysD Hd.fa Hd.fn K) : FnK P w K mg base 0 f_great := by
  obtain ⟨fd, FD⟩ := c.def_ 2 rfl
  exact def_0 (ps := []) FD (FD.bindsN fun _ _ _ _ _ _ us hl => match us, hl with | [], _ => rfl) rfl
theorem d_great {k : Nat} (V : Txt K w mg) (D : ∀ f, (Ly K).fn f = true → FnK P w K mg base k f) (TBs : ∀ p ∈ tfs K, LamX.TabB base mg p.1 p.2) (c : He.SaysD Hd.fa Hd.fn K) : FnK P w K mg base (k + 1) f_great := by
  obtain ⟨fd, FD⟩ := c.def_ 2 rfl
  exact def_ok (N := ["found", "_figure"]) (ps := []) F_great FD (FD.bindsN fun _ _ _ _ _ _ us hl => match us, hl with | [], _ => rfl) sc_great rfl rfl (of_decide_eq_true rfl) fun cdv hco A outer s H E hr hg => t_great V D TBs cdv hco A outer s H E hr hg
theorem e_is_value (c : He.SaysD Hd.fa Hd.fn K) : FnK P w K mg base 0 f_is_value := by
  obtain ⟨fd, FD⟩ := c.def_ 3 rfl
  exact def_0 (ps := ["thing"]) FD (FD.bindsN fun _ _ _ _ _ _ us hl => match us, hl with | [_], _ => rfl) rfl
theorem d_is_value {k : Nat} (V : Txt K w mg) (D : ∀ f, (Ly K).fn f = true → FnK P w K mg base k f) (TBs : ∀ p ∈ tfs K, LamX.TabB base mg p.1 p.2) (c : He.SaysD Hd.fa Hd.fn K) : FnK P w K mg base (k + 1) f_is_value := by
  obtain ⟨fd, FD⟩ := c.def_ 3 rfl
  exact def_ok (N := ["thing", "bound"]) (ps := ["thing"]) F_is_value FD (FD.bindsN fun _ _ _ _ _ _ us hl => match us, hl with | [_], _ => rfl) sc_is_value rfl rfl (of_decide_eq_true rfl) fun cdv hco A outer s H E hr hg => t_is_value V D TBs cdv hco A outer s H E hr hg
theorem e_is_tuple_of (c : He.SaysD Hd.fa Hd.fn K) : FnK P w K mg base 0 f_is_tuple_of := by
  obtain ⟨fd, FD⟩ := c.def_ 4 rfl
  exact def_0 (ps := ["thing", "is_one"]) FD (FD.bindsN fun _ _ _ _ _ _ us hl => match us, hl with | [_, _], _ => rfl) rfl
theorem d_is_tuple_of {k : Nat} (V : Txt K w mg) (D : ∀ f, (Ly K).fn f = true → FnK P w K mg base k f) (TBs : ∀ p ∈ tfs K, LamX.TabB base mg p.1 p.2) (c : He.SaysD Hd.fa Hd.fn K) : FnK P w K mg base (k + 1) f_is_tuple_of := by
  obtain ⟨fd, FD⟩ := c.def_ 4 rfl
  exact def_ok (N := ["thing", "is_one", "one"]) (ps := ["thing", "is_one"]) F_is_tuple_of FD (FD.bindsN fun _ _ _ _ _ _ us hl => match us, hl with | [_, _], _ => rfl) sc_is_tuple_of rfl rfl (of_decide_eq_true rfl) fun cdv hco A outer s H E hr hg => t_is_tuple_of V D TBs cdv hco A outer s H E hr hg
theorem e_is_sized (c : He.SaysD Hd.fa Hd.fn K) : FnK P w K mg base 0 f_is_sized := by
  obtain ⟨fd, FD⟩ := c.def_ 5 rfl
  exact def_0 (ps := ["thing", "many"]) FD (FD.bindsN fun _ _ _ _ _ _ us hl => match us, hl with | [_, _], _ => rfl) rfl
theorem d_is_sized {k : Nat} (V : Txt K w mg) (D : ∀ f, (Ly K).fn f = true → FnK P w K mg base k f) (TBs : ∀ p ∈ tfs K, LamX.TabB base mg p.1 p.2) (c : He.SaysD Hd.fa Hd.fn K) : FnK P w K mg base (k + 1) f_is_sized := by
  obtain ⟨fd, FD⟩ := c.def_ 5 rfl
  exact def_ok (N := ["thing", "many"]) (ps := ["thing", "many"]) F_is_sized FD (FD.bindsN fun _ _ _ _ _ _ us hl => match us, hl with | [_, _], _ => rfl) sc_is_sized rfl rfl (of_decide_eq_true rfl) fun cdv hco A outer s H E hr hg => t_is_sized V D TBs cdv hco A outer s H E hr hg
theorem e_is_row (c : He.SaysD Hd.fa Hd.fn K) : FnK P w K mg base 0 f_is_row := by
  obtain ⟨fd, FD⟩ := c.def_ 6 rfl
  exact def_0 (ps := ["thing"]) FD (FD.bindsN fun _ _ _ _ _ _ us hl => match us, hl with | [_], _ => rfl) rfl
theorem d_is_row {k : Nat} (V : Txt K w mg) (D : ∀ f, (Ly K).fn f = true → FnK P w K mg base k f) (TBs : ∀ p ∈ tfs K, LamX.TabB base mg p.1 p.2) (c : He.SaysD Hd.fa Hd.fn K) : FnK P w K mg base (k + 1) f_is_row := by
  obtain ⟨fd, FD⟩ := c.def_ 6 rfl
  exact def_ok (N := ["thing"]) (ps := ["thing"]) F_is_row FD (FD.bindsN fun _ _ _ _ _ _ us hl => match us, hl with | [_], _ => rfl) sc_is_row rfl rfl (of_decide_eq_true rfl) fun cdv hco A outer s H E hr hg => t_is_row V D TBs cdv hco A outer s H E hr hg
theorem e_is_rows_form (c : He.SaysD Hd.fa Hd.fn K) : FnK P w K mg base 0 f_is_rows_form := by
  obtain ⟨fd, FD⟩ := c.def_ 7 rfl
  exact def_0 (ps := ["thing"]) FD (FD.bindsN fun _ _ _ _ _ _ us hl => match us, hl with | [_], _ => rfl) rfl
theorem d_is_rows_form {k : Nat} (V : Txt K w mg) (D : ∀ f, (Ly K).fn f = true → FnK P w K mg base k f) (TBs : ∀ p ∈ tfs K, LamX.TabB base mg p.1 p.2) (c : He.SaysD Hd.fa Hd.fn K) : FnK P w K mg base (k + 1) f_is_rows_form := by
  obtain ⟨fd, FD⟩ := c.def_ 7 rfl
  exact def_ok (N := ["thing"]) (ps := ["thing"]) F_is_rows_form FD (FD.bindsN fun _ _ _ _ _ _ us hl => match us, hl with | [_], _ => rfl) sc_is_rows_form rfl rfl (of_decide_eq_true rfl) fun cdv hco A outer s H E hr hg => t_is_rows_form V D TBs cdv hco A outer s H E hr hg
theorem e_is_store_form (c : He.SaysD Hd.fa Hd.fn K) : FnK P w K mg base 0 f_is_store_form := by
  obtain ⟨fd, FD⟩ := c.def_ 8 rfl
  exact def_0 (ps := ["thing"]) FD (FD.bindsN fun _ _ _ _ _ _ us hl => match us, hl with | [_], _ => rfl) rfl
theorem d_is_store_form {k : Nat} (V : Txt K w mg) (D : ∀ f, (Ly K).fn f = true → FnK P w K mg base k f) (TBs : ∀ p ∈ tfs K, LamX.TabB base mg p.1 p.2) (c : He.SaysD Hd.fa Hd.fn K) : FnK P w K mg base (k + 1) f_is_store_form := by
  obtain ⟨fd, FD⟩ := c.def_ 8 rfl
  exact def_ok (N := ["thing"]) (ps := ["thing"]) F_is_store_form FD (FD.bindsN fun _ _ _ _ _ _ us hl => match us, hl with | [_], _ => rfl) sc_is_store_form rfl rfl (of_decide_eq_true rfl) fun cdv hco A outer s H E hr hg => t_is_store_form V D TBs cdv hco A outer s H E hr hg
theorem e_value_key (c : He.SaysD Hd.fa Hd.fn K) : FnK P w K mg base 0 f_value_key := by
  obtain ⟨fd, FD⟩ := c.def_ 9 rfl
  exact def_0 (ps := ["value"]) FD (FD.bindsN fun _ _ _ _ _ _ us hl => match us, hl with | [_], _ => rfl) rfl
theorem d_value_key {k : Nat} (V : Txt K w mg) (D : ∀ f, (Ly K).fn f = true → FnK P w K mg base k f) (TBs : ∀ p ∈ tfs K, LamX.TabB base mg p.1 p.2) (c : He.SaysD Hd.fa Hd.fn K) : FnK P w K mg base (k + 1) f_value_key := by
  obtain ⟨fd, FD⟩ := c.def_ 9 rfl
  exact def_ok (N := ["value"]) (ps := ["value"]) F_value_key FD (FD.bindsN fun _ _ _ _ _ _ us hl => match us, hl with | [_], _ => rfl) sc_value_key rfl rfl (of_decide_eq_true rfl) fun cdv hco A outer s H E hr hg => t_value_key V D TBs cdv hco A outer s H E hr hg
theorem e_row_key (c : He.SaysD Hd.fa Hd.fn K) : FnK P w K mg base 0 f_row_key := by
  obtain ⟨fd, FD⟩ := c.def_ 10 rfl
  exact def_0 (ps := ["row"]) FD (FD.bindsN fun _ _ _ _ _ _ us hl => match us, hl with | [_], _ => rfl) rfl
theorem d_row_key {k : Nat} (V : Txt K w mg) (D : ∀ f, (Ly K).fn f = true → FnK P w K mg base k f) (TBs : ∀ p ∈ tfs K, LamX.TabB base mg p.1 p.2) (c : He.SaysD Hd.fa Hd.fn K) : FnK P w K mg base (k + 1) f_row_key := by
  obtain ⟨fd, FD⟩ := c.def_ 10 rfl
  exact def_ok (N := ["row", "value"]) (ps := ["row"]) F_row_key FD (FD.bindsN fun _ _ _ _ _ _ us hl => match us, hl with | [_], _ => rfl) sc_row_key rfl rfl (of_decide_eq_true rfl) fun cdv hco A outer s H E hr hg => t_row_key V D TBs cdv hco A outer s H E hr hg
theorem e_ascending (c : He.SaysD Hd.fa Hd.fn K) : FnK P w K mg base 0 f_ascending := by
  obtain ⟨fd, FD⟩ := c.def_ 11 rfl
  exact def_0 (ps := ["rows"]) FD (FD.bindsN fun _ _ _ _ _ _ us hl => match us, hl with | [_], _ => rfl) rfl
theorem d_ascending {k : Nat} (V : Txt K w mg) (D : ∀ f, (Ly K).fn f = true → FnK P w K mg base k f) (TBs : ∀ p ∈ tfs K, LamX.TabB base mg p.1 p.2) (c : He.SaysD Hd.fa Hd.fn K) : FnK P w K mg base (k + 1) f_ascending := by
  obtain ⟨fd, FD⟩ := c.def_ 11 rfl
  exact def_ok (N := ["rows", "row"]) (ps := ["rows"]) F_ascending FD (FD.bindsN fun _ _ _ _ _ _ us hl => match us, hl with | [_], _ => rfl) sc_ascending rfl rfl (of_decide_eq_true rfl) fun cdv hco A outer s H E hr hg => t_ascending V D TBs cdv hco A outer s H E hr hg
theorem e_are_rising (c : He.SaysD Hd.fa Hd.fn K) : FnK P w K mg base 0 f_are_rising := by
  obtain ⟨fd, FD⟩ := c.def_ 12 rfl
  exact def_0 (ps := ["things"]) FD (FD.bindsN fun _ _ _ _ _ _ us hl => match us, hl with | [_], _ => rfl) rfl
theorem d_are_rising {k : Nat} (V : Txt K w mg) (D : ∀ f, (Ly K).fn f = true → FnK P w K mg base k f) (TBs : ∀ p ∈ tfs K, LamX.TabB base mg p.1 p.2) (c : He.SaysD Hd.fa Hd.fn K) : FnK P w K mg base (k + 1) f_are_rising := by
  obtain ⟨fd, FD⟩ := c.def_ 12 rfl
  exact def_ok (N := ["things", "one", "other"]) (ps := ["things"]) F_are_rising FD (FD.bindsN fun _ _ _ _ _ _ us hl => match us, hl with | [_], _ => rfl) sc_are_rising rfl rfl (of_decide_eq_true rfl) fun cdv hco A outer s H E hr hg => t_are_rising V D TBs cdv hco A outer s H E hr hg
theorem e_table_names (c : He.SaysD Hd.fa Hd.fn K) : FnK P w K mg base 0 f_table_names := by
  obtain ⟨fd, FD⟩ := c.def_ 13 rfl
  exact def_0 (ps := ["scheme"]) FD (FD.bindsN fun _ _ _ _ _ _ us hl => match us, hl with | [_], _ => rfl) rfl
theorem d_table_names {k : Nat} (V : Txt K w mg) (D : ∀ f, (Ly K).fn f = true → FnK P w K mg base k f) (TBs : ∀ p ∈ tfs K, LamX.TabB base mg p.1 p.2) (c : He.SaysD Hd.fa Hd.fn K) : FnK P w K mg base (k + 1) f_table_names := by
  obtain ⟨fd, FD⟩ := c.def_ 13 rfl
  exact def_ok (N := ["scheme", "name", "columns", "keys"]) (ps := ["scheme"]) F_table_names FD (FD.bindsN fun _ _ _ _ _ _ us hl => match us, hl with | [_], _ => rfl) sc_table_names rfl rfl (of_decide_eq_true rfl) fun cdv hco A outer s H E hr hg => t_table_names V D TBs cdv hco A outer s H E hr hg
theorem e_table_of (c : He.SaysD Hd.fa Hd.fn K) : FnK P w K mg base 0 f_table_of := by
  obtain ⟨fd, FD⟩ := c.def_ 14 rfl
  exact def_0 (ps := ["scheme", "table"]) FD (FD.bindsN fun _ _ _ _ _ _ us hl => match us, hl with | [_, _], _ => rfl) rfl
theorem d_table_of {k : Nat} (V : Txt K w mg) (D : ∀ f, (Ly K).fn f = true → FnK P w K mg base k f) (TBs : ∀ p ∈ tfs K, LamX.TabB base mg p.1 p.2) (c : He.SaysD Hd.fa Hd.fn K) : FnK P w K mg base (k + 1) f_table_of := by
  obtain ⟨fd, FD⟩ := c.def_ 14 rfl
  exact def_ok (N := ["scheme", "table", "one"]) (ps := ["scheme", "table"]) F_table_of FD (FD.bindsN fun _ _ _ _ _ _ us hl => match us, hl with | [_, _], _ => rfl) sc_table_of rfl rfl (of_decide_eq_true rfl) fun cdv hco A outer s H E hr hg => t_table_of V D TBs cdv hco A outer s H E hr hg
theorem e_columns_of (c : He.SaysD Hd.fa Hd.fn K) : FnK P w K mg base 0 f_columns_of := by
  obtain ⟨fd, FD⟩ := c.def_ 15 rfl
  exact def_0 (ps := ["scheme", "table"]) FD (FD.bindsN fun _ _ _ _ _ _ us hl => match us, hl with | [_, _], _ => rfl) rfl
theorem d_columns_of {k : Nat} (V : Txt K w mg) (D : ∀ f, (Ly K).fn f = true → FnK P w K mg base k f) (TBs : ∀ p ∈ tfs K, LamX.TabB base mg p.1 p.2) (c : He.SaysD Hd.fa Hd.fn K) : FnK P w K mg base (k + 1) f_columns_of := by
  obtain ⟨fd, FD⟩ := c.def_ 15 rfl
  exact def_ok (N := ["scheme", "table"]) (ps := ["scheme", "table"]) F_columns_of FD (FD.bindsN fun _ _ _ _ _ _ us hl => match us, hl with | [_, _], _ => rfl) sc_columns_of rfl rfl (of_decide_eq_true rfl) fun cdv hco A outer s H E hr hg => t_columns_of V D TBs cdv hco A outer s H E hr hg
theorem e_keys_of (c : He.SaysD Hd.fa Hd.fn K) : FnK P w K mg base 0 f_keys_of := by
  obtain ⟨fd, FD⟩ := c.def_ 16 rfl
  exact def_0 (ps := ["scheme", "table"]) FD (FD.bindsN fun _ _ _ _ _ _ us hl => match us, hl with | [_, _], _ => rfl) rfl
theorem d_keys_of {k : Nat} (V : Txt K w mg) (D : ∀ f, (Ly K).fn f = true → FnK P w K mg base k f) (TBs : ∀ p ∈ tfs K, LamX.TabB base mg p.1 p.2) (c : He.SaysD Hd.fa Hd.fn K) : FnK P w K mg base (k + 1) f_keys_of := by
  obtain ⟨fd, FD⟩ := c.def_ 16 rfl
  exact def_ok (N := ["scheme", "table"]) (ps := ["scheme", "table"]) F_keys_of FD (FD.bindsN fun _ _ _ _ _ _ us hl => match us, hl with | [_, _], _ => rfl) sc_keys_of rfl rfl (of_decide_eq_true rfl) fun cdv hco A outer s H E hr hg => t_keys_of V D TBs cdv hco A outer s H E hr hg
theorem e_check_rows (c : He.SaysD Hd.fa Hd.fn K) : FnK P w K mg base 0 f_check_rows := by
  obtain ⟨fd, FD⟩ := c.def_ 17 rfl
  exact def_0 (ps := ["scheme", "name", "rows"]) FD (FD.bindsN fun _ _ _ _ _ _ us hl => match us, hl with | [_, _, _], _ => rfl) rfl
theorem d_check_rows {k : Nat} (V : Txt K w mg) (D : ∀ f, (Ly K).fn f = true → FnK P w K mg base k f) (TBs : ∀ p ∈ tfs K, LamX.TabB base mg p.1 p.2) (c : He.SaysD Hd.fa Hd.fn K) : FnK P w K mg base (k + 1) f_check_rows := by
  obtain ⟨fd, FD⟩ := c.def_ 17 rfl
  exact def_ok (N := ["scheme", "name", "rows", "index", "row"]) (ps := ["scheme", "name", "rows"]) F_check_rows FD (FD.bindsN fun _ _ _ _ _ _ us hl => match us, hl with | [_, _, _], _ => rfl) sc_check_rows rfl rfl (of_decide_eq_true rfl) fun cdv hco A outer s H E hr hg => t_check_rows V D TBs cdv hco A outer s H E hr hg
theorem e_checked_store (c : He.SaysD Hd.fa Hd.fn K) : FnK P w K mg base 0 f_checked_store := by
  obtain ⟨fd, FD⟩ := c.def_ 18 rfl
  exact def_0 (ps := ["scheme", "thing"]) FD (FD.bindsN fun _ _ _ _ _ _ us hl => match us, hl with | [_, _], _ => rfl) rfl
theorem d_checked_store {k : Nat} (V : Txt K w mg) (D : ∀ f, (Ly K).fn f = true → FnK P w K mg base k f) (TBs : ∀ p ∈ tfs K, LamX.TabB base mg p.1 p.2) (c : He.SaysD Hd.fa Hd.fn K) : FnK P w K mg base (k + 1) f_checked_store := by
  obtain ⟨fd, FD⟩ := c.def_ 18 rfl
  exact def_ok (N := ["scheme", "thing", "name", "rows"]) (ps := ["scheme", "thing"]) F_checked_store FD (FD.bindsN fun _ _ _ _ _ _ us hl => match us, hl with | [_, _], _ => rfl) sc_checked_store rfl rfl (of_decide_eq_true rfl) fun cdv hco A outer s H E hr hg => t_checked_store V D TBs cdv hco A outer s H E hr hg
theorem e_rows_of (c : He.SaysD Hd.fa Hd.fn K) : FnK P w K mg base 0 f_rows_of := by
  obtain ⟨fd, FD⟩ := c.def_ 19 rfl
  exact def_0 (ps := ["store", "table"]) FD (FD.bindsN fun _ _ _ _ _ _ us hl => match us, hl with | [_, _], _ => rfl) rfl
theorem d_rows_of {k : Nat} (V : Txt K w mg) (D : ∀ f, (Ly K).fn f = true → FnK P w K mg base k f) (TBs : ∀ p ∈ tfs K, LamX.TabB base mg p.1 p.2) (c : He.SaysD Hd.fa Hd.fn K) : FnK P w K mg base (k + 1) f_rows_of := by
  obtain ⟨fd, FD⟩ := c.def_ 19 rfl
  exact def_ok (N := ["store", "table", "name", "rows"]) (ps := ["store", "table"]) F_rows_of FD (FD.bindsN fun _ _ _ _ _ _ us hl => match us, hl with | [_, _], _ => rfl) sc_rows_of rfl rfl (of_decide_eq_true rfl) fun cdv hco A outer s H E hr hg => t_rows_of V D TBs cdv hco A outer s H E hr hg
theorem e_with_rows (c : He.SaysD Hd.fa Hd.fn K) : FnK P w K mg base 0 f_with_rows := by
  obtain ⟨fd, FD⟩ := c.def_ 20 rfl
  exact def_0 (ps := ["store", "table", "rows"]) FD (FD.bindsN fun _ _ _ _ _ _ us hl => match us, hl with | [_, _, _], _ => rfl) rfl
theorem d_with_rows {k : Nat} (V : Txt K w mg) (D : ∀ f, (Ly K).fn f = true → FnK P w K mg base k f) (TBs : ∀ p ∈ tfs K, LamX.TabB base mg p.1 p.2) (c : He.SaysD Hd.fa Hd.fn K) : FnK P w K mg base (k + 1) f_with_rows := by
  obtain ⟨fd, FD⟩ := c.def_ 20 rfl
  exact def_ok (N := ["store", "table", "rows", "name", "its"]) (ps := ["store", "table", "rows"]) F_with_rows FD (FD.bindsN fun _ _ _ _ _ _ us hl => match us, hl with | [_, _, _], _ => rfl) sc_with_rows rfl rfl (of_decide_eq_true rfl) fun cdv hco A outer s H E hr hg => t_with_rows V D TBs cdv hco A outer s H E hr hg
theorem e_key_of (c : He.SaysD Hd.fa Hd.fn K) : FnK P w K mg base 0 f_key_of := by
  obtain ⟨fd, FD⟩ := c.def_ 21 rfl
  exact def_0 (ps := ["scheme", "table", "row"]) FD (FD.bindsN fun _ _ _ _ _ _ us hl => match us, hl with | [_, _, _], _ => rfl) rfl
theorem d_key_of {k : Nat} (V : Txt K w mg) (D : ∀ f, (Ly K).fn f = true → FnK P w K mg base k f) (TBs : ∀ p ∈ tfs K, LamX.TabB base mg p.1 p.2) (c : He.SaysD Hd.fa Hd.fn K) : FnK P w K mg base (k + 1) f_key_of := by
  obtain ⟨fd, FD⟩ := c.def_ 21 rfl
  exact def_ok (N := ["scheme", "table", "row"]) (ps := ["scheme", "table", "row"]) F_key_of FD (FD.bindsN fun _ _ _ _ _ _ us hl => match us, hl with | [_, _, _], _ => rfl) sc_key_of rfl rfl (of_decide_eq_true rfl) fun cdv hco A outer s H E hr hg => t_key_of V D TBs cdv hco A outer s H E hr hg
theorem e_blocks_by_keys (c : He.SaysD Hd.fa Hd.fn K) : FnK P w K mg base 0 f_blocks_by_keys := by
  obtain ⟨fd, FD⟩ := c.def_ 22 rfl
  exact def_0 (ps := ["scheme", "store", "table"]) FD (FD.bindsN fun _ _ _ _ _ _ us hl => match us, hl with | [_, _, _], _ => rfl) rfl
theorem d_blocks_by_keys {k : Nat} (V : Txt K w mg) (D : ∀ f, (Ly K).fn f = true → FnK P w K mg base k f) (TBs : ∀ p ∈ tfs K, LamX.TabB base mg p.1 p.2) (c : He.SaysD Hd.fa Hd.fn K) : FnK P w K mg base (k + 1) f_blocks_by_keys := by
  obtain ⟨fd, FD⟩ := c.def_ 22 rfl
  exact def_ok (N := ["scheme", "store", "table", "many", "found", "row"]) (ps := ["scheme", "store", "table"]) F_blocks_by_keys FD (FD.bindsN fun _ _ _ _ _ _ us hl => match us, hl with | [_, _, _], _ => rfl) sc_blocks_by_keys rfl rfl (of_decide_eq_true rfl) fun cdv hco A outer s H E hr hg => t_blocks_by_keys V D TBs cdv hco A outer s H E hr hg
theorem e_blocks (c : He.SaysD Hd.fa Hd.fn K) : FnK P w K mg base 0 f_blocks := by
  obtain ⟨fd, FD⟩ := c.def_ 23 rfl
  exact def_0 (ps := ["scheme", "store", "table"]) FD (FD.bindsN fun _ _ _ _ _ _ us hl => match us, hl with | [_, _, _], _ => rfl) rfl
theorem d_blocks {k : Nat} (V : Txt K w mg) (D : ∀ f, (Ly K).fn f = true → FnK P w K mg base k f) (TBs : ∀ p ∈ tfs K, LamX.TabB base mg p.1 p.2) (c : He.SaysD Hd.fa Hd.fn K) : FnK P w K mg base (k + 1) f_blocks := by
  obtain ⟨fd, FD⟩ := c.def_ 23 rfl
  exact def_ok (N := ["scheme", "store", "table", "rows"]) (ps := ["scheme", "store", "table"]) F_blocks FD (FD.bindsN fun _ _ _ _ _ _ us hl => match us, hl with | [_, _, _], _ => rfl) sc_blocks rfl rfl (of_decide_eq_true rfl) fun cdv hco A outer s H E hr hg => t_blocks V D TBs cdv hco A outer s H E hr hg
theorem e_block_with (c : He.SaysD Hd.fa Hd.fn K) : FnK P w K mg base 0 f_block_with := by
  obtain ⟨fd, FD⟩ := c.def_ 24 rfl
  exact def_0 (ps := ["scheme", "store", "table", "key"]) FD (FD.bindsN fun _ _ _ _ _ _ us hl => match us, hl with | [_, _, _, _], _ => rfl) rfl
theorem d_block_with {k : Nat} (V : Txt K w mg) (D : ∀ f, (Ly K).fn f = true → FnK P w K mg base k f) (TBs : ∀ p ∈ tfs K, LamX.TabB base mg p.1 p.2) (c : He.SaysD Hd.fa Hd.fn K) : FnK P w K mg base (k + 1) f_block_with := by
  obtain ⟨fd, FD⟩ := c.def_ 24 rfl
  exact def_ok (N := ["scheme", "store", "table", "key"]) (ps := ["scheme", "store", "table", "key"]) F_block_with FD (FD.bindsN fun _ _ _ _ _ _ us hl => match us, hl with | [_, _, _, _], _ => rfl) sc_block_with rfl rfl (of_decide_eq_true rfl) fun cdv hco A outer s H E hr hg => t_block_with V D TBs cdv hco A outer s H E hr hg
theorem e_all_blocks (c : He.SaysD Hd.fa Hd.fn K) : FnK P w K mg base 0 f_all_blocks := by
  obtain ⟨fd, FD⟩ := c.def_ 25 rfl
  exact def_0 (ps := ["scheme", "store"]) FD (FD.bindsN fun _ _ _ _ _ _ us hl => match us, hl with | [_, _], _ => rfl) rfl
theorem d_all_blocks {k : Nat} (V : Txt K w mg) (D : ∀ f, (Ly K).fn f = true → FnK P w K mg base k f) (TBs : ∀ p ∈ tfs K, LamX.TabB base mg p.1 p.2) (c : He.SaysD Hd.fa Hd.fn K) : FnK P w K mg base (k + 1) f_all_blocks := by
  obtain ⟨fd, FD⟩ := c.def_ 25 rfl
  exact def_ok (N := ["scheme", "store", "table", "key"]) (ps := ["scheme", "store"]) F_all_blocks FD (FD.bindsN fun _ _ _ _ _ _ us hl => match us, hl with | [_, _], _ => rfl) sc_all_blocks rfl rfl (of_decide_eq_true rfl) fun cdv hco A outer s H E hr hg => t_all_blocks V D TBs cdv hco A outer s H E hr hg
theorem e_doubtful (c : He.SaysD Hd.fa Hd.fn K) : FnK P w K mg base 0 f_doubtful := by
  obtain ⟨fd, FD⟩ := c.def_ 26 rfl
  exact def_0 (ps := ["scheme", "store"]) FD (FD.bindsN fun _ _ _ _ _ _ us hl => match us, hl with | [_, _], _ => rfl) rfl
theorem d_doubtful {k : Nat} (V : Txt K w mg) (D : ∀ f, (Ly K).fn f = true → FnK P w K mg base k f) (TBs : ∀ p ∈ tfs K, LamX.TabB base mg p.1 p.2) (c : He.SaysD Hd.fa Hd.fn K) : FnK P w K mg base (k + 1) f_doubtful := by
  obtain ⟨fd, FD⟩ := c.def_ 26 rfl
  exact def_ok (N := ["scheme", "store", "table", "key"]) (ps := ["scheme", "store"]) F_doubtful FD (FD.bindsN fun _ _ _ _ _ _ us hl => match us, hl with | [_, _], _ => rfl) sc_doubtful rfl rfl (of_decide_eq_true rfl) fun cdv hco A outer s H E hr hg => t_doubtful V D TBs cdv hco A outer s H E hr hg
theorem e_is_doubtful (c : He.SaysD Hd.fa Hd.fn K) : FnK P w K mg base 0 f_is_doubtful := by
  obtain ⟨fd, FD⟩ := c.def_ 27 rfl
  exact def_0 (ps := ["scheme", "store", "table", "key"]) FD (FD.bindsN fun _ _ _ _ _ _ us hl => match us, hl with | [_, _, _, _], _ => rfl) rfl
theorem d_is_doubtful {k : Nat} (V : Txt K w mg) (D : ∀ f, (Ly K).fn f = true → FnK P w K mg base k f) (TBs : ∀ p ∈ tfs K, LamX.TabB base mg p.1 p.2) (c : He.SaysD Hd.fa Hd.fn K) : FnK P w K mg base (k + 1) f_is_doubtful := by
  obtain ⟨fd, FD⟩ := c.def_ 27 rfl
  exact def_ok (N := ["scheme", "store", "table", "key"]) (ps := ["scheme", "store", "table", "key"]) F_is_doubtful FD (FD.bindsN fun _ _ _ _ _ _ us hl => match us, hl with | [_, _, _, _], _ => rfl) sc_is_doubtful rfl rfl (of_decide_eq_true rfl) fun cdv hco A outer s H E hr hg => t_is_doubtful V D TBs cdv hco A outer s H E hr hg
theorem e_is_settled (c : He.SaysD Hd.fa Hd.fn K) : FnK P w K mg base 0 f_is_settled := by
  obtain ⟨fd, FD⟩ := c.def_ 28 rfl
  exact def_0 (ps := ["scheme", "store"]) FD (FD.bindsN fun _ _ _ _ _ _ us hl => match us, hl with | [_, _], _ => rfl) rfl
theorem d_is_settled {k : Nat} (V : Txt K w mg) (D : ∀ f, (Ly K).fn f = true → FnK P w K mg base k f) (TBs : ∀ p ∈ tfs K, LamX.TabB base mg p.1 p.2) (c : He.SaysD Hd.fa Hd.fn K) : FnK P w K mg base (k + 1) f_is_settled := by
  obtain ⟨fd, FD⟩ := c.def_ 28 rfl
  exact def_ok (N := ["scheme", "store"]) (ps := ["scheme", "store"]) F_is_settled FD (FD.bindsN fun _ _ _ _ _ _ us hl => match us, hl with | [_, _], _ => rfl) sc_is_settled rfl rfl (of_decide_eq_true rfl) fun cdv hco A outer s H E hr hg => t_is_settled V D TBs cdv hco A outer s H E hr hg
theorem e_cut_to (c : He.SaysD Hd.fa Hd.fn K) : FnK P w K mg base 0 f_cut_to := by
  obtain ⟨fd, FD⟩ := c.def_ 29 rfl
  exact def_0 (ps := ["scheme", "store", "table", "rows"]) FD (FD.bindsN fun _ _ _ _ _ _ us hl => match us, hl with | [_, _, _, _], _ => rfl) rfl
theorem d_cut_to {k : Nat} (V : Txt K w mg) (D : ∀ f, (Ly K).fn f = true → FnK P w K mg base k f) (TBs : ∀ p ∈ tfs K, LamX.TabB base mg p.1 p.2) (c : He.SaysD Hd.fa Hd.fn K) : FnK P w K mg base (k + 1) f_cut_to := by
  obtain ⟨fd, FD⟩ := c.def_ 29 rfl
  exact def_ok (N := ["scheme", "store", "table", "rows", "its", "keys", "left", "row"]) (ps := ["scheme", "store", "table", "rows"]) F_cut_to FD (FD.bindsN fun _ _ _ _ _ _ us hl => match us, hl with | [_, _, _, _], _ => rfl) sc_cut_to rfl rfl (of_decide_eq_true rfl) fun cdv hco A outer s H E hr hg => t_cut_to V D TBs cdv hco A outer s H E hr hg
theorem e__law_bag (c : He.SaysD Hd.fa Hd.fn K) : FnK P w K mg base 0 f__law_bag := by
  obtain ⟨fd, FD⟩ := c.def_ 30 rfl
  exact def_0 (ps := ["script"]) FD (FD.bindsN fun _ _ _ _ _ _ us hl => match us, hl with | [_], _ => rfl) rfl
theorem d__law_bag {k : Nat} (V : Txt K w mg) (D : ∀ f, (Ly K).fn f = true → FnK P w K mg base k f) (TBs : ∀ p ∈ tfs K, LamX.TabB base mg p.1 p.2) (c : He.SaysD Hd.fa Hd.fn K) : FnK P w K mg base (k + 1) f__law_bag := by
  obtain ⟨fd, FD⟩ := c.def_ 30 rfl
  exact def_ok (N := ["script", "cell"]) (ps := ["script"]) F__law_bag FD (FD.bindsN fun _ _ _ _ _ _ us hl => match us, hl with | [_], _ => rfl) sc__law_bag rfl rfl (of_decide_eq_true rfl) fun cdv hco A outer s H E hr hg => t__law_bag V D TBs cdv hco A outer s H E hr hg
theorem e__law_take (c : He.SaysD Hd.fa Hd.fn K) : FnK P w K mg base 0 f__law_take := by
  obtain ⟨fd, FD⟩ := c.def_ 31 rfl
  exact def_0 (ps := ["bag", "many"]) FD (FD.bindsN fun _ _ _ _ _ _ us hl => match us, hl with | [_, _], _ => rfl) rfl
theorem d__law_take {k : Nat} (V : Txt K w mg) (D : ∀ f, (Ly K).fn f = true → FnK P w K mg base k f) (TBs : ∀ p ∈ tfs K, LamX.TabB base mg p.1 p.2) (c : He.SaysD Hd.fa Hd.fn K) : FnK P w K mg base (k + 1) f__law_take := by
  obtain ⟨fd, FD⟩ := c.def_ 31 rfl
  exact def_ok (N := ["bag", "many", "cell", "stirred", "value", "begin", "second"]) (ps := ["bag", "many"]) F__law_take FD (FD.bindsN fun _ _ _ _ _ _ us hl => match us, hl with | [_, _], _ => rfl) sc__law_take rfl rfl (of_decide_eq_true rfl) fun cdv hco A outer s H E hr hg => t__law_take V D TBs cdv hco A outer s H E hr hg
theorem e__law_some (c : He.SaysD Hd.fa Hd.fn K) : FnK P w K mg base 0 f__law_some := by
  obtain ⟨fd, FD⟩ := c.def_ 32 rfl
  exact def_0 (ps := ["bag", "things"]) FD (FD.bindsN fun _ _ _ _ _ _ us hl => match us, hl with | [_, _], _ => rfl) rfl
theorem d__law_some {k : Nat} (V : Txt K w mg) (D : ∀ f, (Ly K).fn f = true → FnK P w K mg base k f) (TBs : ∀ p ∈ tfs K, LamX.TabB base mg p.1 p.2) (c : He.SaysD Hd.fa Hd.fn K) : FnK P w K mg base (k + 1) f__law_some := by
  obtain ⟨fd, FD⟩ := c.def_ 32 rfl
  exact def_ok (N := ["bag", "things"]) (ps := ["bag", "things"]) F__law_some FD (FD.bindsN fun _ _ _ _ _ _ us hl => match us, hl with | [_, _], _ => rfl) sc__law_some rfl rfl (of_decide_eq_true rfl) fun cdv hco A outer s H E hr hg => t__law_some V D TBs cdv hco A outer s H E hr hg
theorem e__law_mixed (c : He.SaysD Hd.fa Hd.fn K) : FnK P w K mg base 0 f__law_mixed := by
  obtain ⟨fd, FD⟩ := c.def_ 33 rfl
  exact def_0 (ps := ["bag", "things"]) FD (FD.bindsN fun _ _ _ _ _ _ us hl => match us, hl with | [_, _], _ => rfl) rfl
theorem d__law_mixed {k : Nat} (V : Txt K w mg) (D : ∀ f, (Ly K).fn f = true → FnK P w K mg base k f) (TBs : ∀ p ∈ tfs K, LamX.TabB base mg p.1 p.2) (c : He.SaysD Hd.fa Hd.fn K) : FnK P w K mg base (k + 1) f__law_mixed := by
  obtain ⟨fd, FD⟩ := c.def_ 33 rfl
  exact def_ok (N := ["bag", "things", "found", "thing"]) (ps := ["bag", "things"]) F__law_mixed FD (FD.bindsN fun _ _ _ _ _ _ us hl => match us, hl with | [_, _], _ => rfl) sc__law_mixed rfl rfl (of_decide_eq_true rfl) fun cdv hco A outer s H E hr hg => t__law_mixed V D TBs cdv hco A outer s H E hr hg
theorem e__law_alike (c : He.SaysD Hd.fa Hd.fn K) : FnK P w K mg base 0 f__law_alike := by
  obtain ⟨fd, FD⟩ := c.def_ 34 rfl
  exact def_0 (ps := ["found", "due"]) FD (FD.bindsN fun _ _ _ _ _ _ us hl => match us, hl with | [_, _], _ => rfl) rfl
theorem d__law_alike {k : Nat} (V : Txt K w mg) (D : ∀ f, (Ly K).fn f = true → FnK P w K mg base k f) (TBs : ∀ p ∈ tfs K, LamX.TabB base mg p.1 p.2) (c : He.SaysD Hd.fa Hd.fn K) : FnK P w K mg base (k + 1) f__law_alike := by
  obtain ⟨fd, FD⟩ := c.def_ 34 rfl
  exact def_ok (N := ["found", "due"]) (ps := ["found", "due"]) F__law_alike FD (FD.bindsN fun _ _ _ _ _ _ us hl => match us, hl with | [_, _], _ => rfl) sc__law_alike rfl rfl (of_decide_eq_true rfl) fun cdv hco A outer s H E hr hg => t__law_alike V D TBs cdv hco A outer s H E hr hg
theorem e__law_value_key (c : He.SaysD Hd.fa Hd.fn K) : FnK P w K mg base 0 f__law_value_key := by
  obtain ⟨fd, FD⟩ := c.def_ 35 rfl
  exact def_0 (ps := ["value"]) FD (FD.bindsN fun _ _ _ _ _ _ us hl => match us, hl with | [_], _ => rfl) rfl
theorem d__law_value_key {k : Nat} (V : Txt K w mg) (D : ∀ f, (Ly K).fn f = true → FnK P w K mg base k f) (TBs : ∀ p ∈ tfs K, LamX.TabB base mg p.1 p.2) (c : He.SaysD Hd.fa Hd.fn K) : FnK P w K mg base (k + 1) f__law_value_key := by
  obtain ⟨fd, FD⟩ := c.def_ 35 rfl
  exact def_ok (N := ["value"]) (ps := ["value"]) F__law_value_key FD (FD.bindsN fun _ _ _ _ _ _ us hl => match us, hl with | [_], _ => rfl) sc__law_value_key rfl rfl (of_decide_eq_true rfl) fun cdv hco A outer s H E hr hg => t__law_value_key V D TBs cdv hco A outer s H E hr hg
theorem e__law_row_key (c : He.SaysD Hd.fa Hd.fn K) : FnK P w K mg base 0 f__law_row_key := by
  obtain ⟨fd, FD⟩ := c.def_ 36 rfl
  exact def_0 (ps := ["row"]) FD (FD.bindsN fun _ _ _ _ _ _ us hl => match us, hl with | [_], _ => rfl) rfl
theorem d__law_row_key {k : Nat} (V : Txt K w mg) (D : ∀ f, (Ly K).fn f = true → FnK P w K mg base k f) (TBs : ∀ p ∈ tfs K, LamX.TabB base mg p.1 p.2) (c : He.SaysD Hd.fa Hd.fn K) : FnK P w K mg base (k + 1) f__law_row_key := by
  obtain ⟨fd, FD⟩ := c.def_ 36 rfl
  exact def_ok (N := ["row", "value"]) (ps := ["row"]) F__law_row_key FD (FD.bindsN fun _ _ _ _ _ _ us hl => match us, hl with | [_], _ => rfl) sc__law_row_key rfl rfl (of_decide_eq_true rfl) fun cdv hco A outer s H E hr hg => t__law_row_key V D TBs cdv hco A outer s H E hr hg
theorem e__law_sorted (c : He.SaysD Hd.fa Hd.fn K) : FnK P w K mg base 0 f__law_sorted := by
  obtain ⟨fd, FD⟩ := c.def_ 37 rfl
  exact def_0 (ps := ["rows"]) FD (FD.bindsN fun _ _ _ _ _ _ us hl => match us, hl with | [_], _ => rfl) rfl
theorem d__law_sorted {k : Nat} (V : Txt K w mg) (D : ∀ f, (Ly K).fn f = true → FnK P w K mg base k f) (TBs : ∀ p ∈ tfs K, LamX.TabB base mg p.1 p.2) (c : He.SaysD Hd.fa Hd.fn K) : FnK P w K mg base (k + 1) f__law_sorted := by
  obtain ⟨fd, FD⟩ := c.def_ 37 rfl
  exact def_ok (N := ["rows", "found", "key", "row", "one"]) (ps := ["rows"]) F__law_sorted FD (FD.bindsN fun _ _ _ _ _ _ us hl => match us, hl with | [_], _ => rfl) sc__law_sorted rfl rfl (of_decide_eq_true rfl) fun cdv hco A outer s H E hr hg => t__law_sorted V D TBs cdv hco A outer s H E hr hg
theorem e__law_scheme (c : He.SaysD Hd.fa Hd.fn K) : FnK P w K mg base 0 f__law_scheme := by
  obtain ⟨fd, FD⟩ := c.def_ 38 rfl
  exact def_0 (ps := ["bag"]) FD (FD.bindsN fun _ _ _ _ _ _ us hl => match us, hl with | [_], _ => rfl) rfl
theorem d__law_scheme {k : Nat} (V : Txt K w mg) (D : ∀ f, (Ly K).fn f = true → FnK P w K mg base k f) (TBs : ∀ p ∈ tfs K, LamX.TabB base mg p.1 p.2) (c : He.SaysD Hd.fa Hd.fn K) : FnK P w K mg base (k + 1) f__law_scheme := by
  obtain ⟨fd, FD⟩ := c.def_ 38 rfl
  exact def_ok (N := ["bag", "names", "found", "name", "columns"]) (ps := ["bag"]) F__law_scheme FD (FD.bindsN fun _ _ _ _ _ _ us hl => match us, hl with | [_], _ => rfl) sc__law_scheme rfl rfl (of_decide_eq_true rfl) fun cdv hco A outer s H E hr hg => t__law_scheme V D TBs cdv hco A outer s H E hr hg
theorem e__law_small_value (c : He.SaysD Hd.fa Hd.fn K) : FnK P w K mg base 0 f__law_small_value := by
  obtain ⟨fd, FD⟩ := c.def_ 39 rfl
  exact def_0 (ps := ["bag"]) FD (FD.bindsN fun _ _ _ _ _ _ us hl => match us, hl with | [_], _ => rfl) rfl
theorem d__law_small_value {k : Nat} (V : Txt K w mg) (D : ∀ f, (Ly K).fn f = true → FnK P w K mg base k f) (TBs : ∀ p ∈ tfs K, LamX.TabB base mg p.1 p.2) (c : He.SaysD Hd.fa Hd.fn K) : FnK P w K mg base (k + 1) f__law_small_value := by
  obtain ⟨fd, FD⟩ := c.def_ 39 rfl
  exact def_ok (N := ["bag"]) (ps := ["bag"]) F__law_small_value FD (FD.bindsN fun _ _ _ _ _ _ us hl => match us, hl with | [_], _ => rfl) sc__law_small_value rfl rfl (of_decide_eq_true rfl) fun cdv hco A outer s H E hr hg => t__law_small_value V D TBs cdv hco A outer s H E hr hg
theorem e__law_store (c : He.SaysD Hd.fa Hd.fn K) : FnK P w K mg base 0 f__law_store := by
  obtain ⟨fd, FD⟩ := c.def_ 40 rfl
  exact def_0 (ps := ["bag", "scheme"]) FD (FD.bindsN fun _ _ _ _ _ _ us hl => match us, hl with | [_, _], _ => rfl) rfl
theorem d__law_store {k : Nat} (V : Txt K w mg) (D : ∀ f, (Ly K).fn f = true → FnK P w K mg base k f) (TBs : ∀ p ∈ tfs K, LamX.TabB base mg p.1 p.2) (c : He.SaysD Hd.fa Hd.fn K) : FnK P w K mg base (k + 1) f__law_store := by
  obtain ⟨fd, FD⟩ := c.def_ 40 rfl
  exact def_ok (N := ["bag", "scheme", "found", "name", "columns", "keys", "k", "j"]) (ps := ["bag", "scheme"]) F__law_store FD (FD.bindsN fun _ _ _ _ _ _ us hl => match us, hl with | [_, _], _ => rfl) sc__law_store rfl rfl (of_decide_eq_true rfl) fun cdv hco A outer s H E hr hg => t__law_store V D TBs cdv hco A outer s H E hr hg
theorem e__law_blocks (c : He.SaysD Hd.fa Hd.fn K) : FnK P w K mg base 0 f__law_blocks := by
  obtain ⟨fd, FD⟩ := c.def_ 41 rfl
  exact def_0 (ps := ["scheme", "store", "table"]) FD (FD.bindsN fun _ _ _ _ _ _ us hl => match us, hl with | [_, _, _], _ => rfl) rfl
theorem d__law_blocks {k : Nat} (V : Txt K w mg) (D : ∀ f, (Ly K).fn f = true → FnK P w K mg base k f) (TBs : ∀ p ∈ tfs K, LamX.TabB base mg p.1 p.2) (c : He.SaysD Hd.fa Hd.fn K) : FnK P w K mg base (k + 1) f__law_blocks := by
  obtain ⟨fd, FD⟩ := c.def_ 41 rfl
  exact def_ok (N := ["scheme", "store", "table", "keys", "found", "row", "one"]) (ps := ["scheme", "store", "table"]) F__law_blocks FD (FD.bindsN fun _ _ _ _ _ _ us hl => match us, hl with | [_, _, _], _ => rfl) sc__law_blocks rfl rfl (of_decide_eq_true rfl) fun cdv hco A outer s H E hr hg => t__law_blocks V D TBs cdv hco A outer s H E hr hg
theorem e__law_every_block (c : He.SaysD Hd.fa Hd.fn K) : FnK P w K mg base 0 f__law_every_block := by
  obtain ⟨fd, FD⟩ := c.def_ 42 rfl
  exact def_0 (ps := ["scheme", "store"]) FD (FD.bindsN fun _ _ _ _ _ _ us hl => match us, hl with | [_, _], _ => rfl) rfl
theorem d__law_every_block {k : Nat} (V : Txt K w mg) (D : ∀ f, (Ly K).fn f = true → FnK P w K mg base k f) (TBs : ∀ p ∈ tfs K, LamX.TabB base mg p.1 p.2) (c : He.SaysD Hd.fa Hd.fn K) : FnK P w K mg base (k + 1) f__law_every_block := by
  obtain ⟨fd, FD⟩ := c.def_ 42 rfl
  exact def_ok (N := ["scheme", "store", "found", "name", "columns", "keys", "key", "rows"]) (ps := ["scheme", "store"]) F__law_every_block FD (FD.bindsN fun _ _ _ _ _ _ us hl => match us, hl with | [_, _], _ => rfl) sc__law_every_block rfl rfl (of_decide_eq_true rfl) fun cdv hco A outer s H E hr hg => t__law_every_block V D TBs cdv hco A outer s H E hr hg
theorem e__law_come_to (c : He.SaysD Hd.fa Hd.fn K) : FnK P w K mg base 0 f__law_come_to := by
  obtain ⟨fd, FD⟩ := c.def_ 43 rfl
  exact def_0 (ps := ["way", "scheme", "store", "table", "thing"]) FD (FD.bindsN fun _ _ _ _ _ _ us hl => match us, hl with | [_, _, _, _, _], _ => rfl) rfl
theorem d__law_come_to {k : Nat} (V : Txt K w mg) (D : ∀ f, (Ly K).fn f = true → FnK P w K mg base k f) (TBs : ∀ p ∈ tfs K, LamX.TabB base mg p.1 p.2) (c : He.SaysD Hd.fa Hd.fn K) : FnK P w K mg base (k + 1) f__law_come_to := by
  obtain ⟨fd, FD⟩ := c.def_ 43 rfl
  exact def_ok (N := ["way", "scheme", "store", "table", "thing"]) (ps := ["way", "scheme", "store", "table", "thing"]) F__law_come_to FD (FD.bindsN fun _ _ _ _ _ _ us hl => match us, hl with | [_, _, _, _, _], _ => rfl) sc__law_come_to rfl rfl (of_decide_eq_true rfl) fun cdv hco A outer s H E hr hg => t__law_come_to V D TBs cdv hco A outer s H E hr hg
theorem e_law (c : He.SaysD Hd.fa Hd.fn K) : FnK P w K mg base 0 f_law := by
  obtain ⟨fd, FD⟩ := c.def_ 44 rfl
  exact def_0 (ps := ["script"]) FD (FD.bindsN fun _ _ _ _ _ _ us hl => match us, hl with | [_], _ => rfl) rfl
theorem l_law {k : Nat} {fd : FuncData} (V : Txt K w mg) (D : ∀ f, (Ly K).fn f = true → FnK P w K mg base k f) (TBs : ∀ p ∈ tfs K, LamX.TabB base mg p.1 p.2) (FD : FunD K "law" "law" (defArgs (Hd.top 61)) (defBody (Hd.top 61)) (defScope (Hd.top 61)) [] [] ((Ly K).fa f_law) fd) :
    FnG P w K mg base (k + 1) ((Ly K).fa f_law) fd ["script"] (spF (cfL K w (Ly K)) [] (call F G (k + 1)) f_law 1) :=
  def_okG (N := ["script", "bag", "turn", "scheme", "store", "every", "told", "unsure", "name", "columns", "keys", "its", "row", "due", "wrong", "key", "rows", "kept", "cut", "one", "k", "thing", "lot", "way"]) (ps := ["script"]) F_law FD (FD.bindsN fun _ _ _ _ _ _ us hl => match us, hl with | [_], _ => rfl) sc_law rfl rfl (of_decide_eq_true rfl) fun cdv hco A outer s H E hr hg => t_law V D TBs cdv hco A outer s H E hr hg
theorem d_law {k : Nat} (V : Txt K w mg) (D : ∀ f, (Ly K).fn f = true → FnK P w K mg base k f) (TBs : ∀ p ∈ tfs K, LamX.TabB base mg p.1 p.2) (c : He.SaysD Hd.fa Hd.fn K) : FnK P w K mg base (k + 1) f_law := by
  obtain ⟨fd, FD⟩ := c.def_ 44 rfl
  exact def_ok (N := ["script", "bag", "turn", "scheme", "store", "every", "told", "unsure", "name", "columns", "keys", "its", "row", "due", "wrong", "key", "rows", "kept", "cut", "one", "k", "thing", "lot", "way"]) (ps := ["script"]) F_law FD (FD.bindsN fun _ _ _ _ _ _ us hl => match us, hl with | [_], _ => rfl) sc_law rfl rfl (of_decide_eq_true rfl) fun cdv hco A outer s H E hr hg => t_law V D TBs cdv hco A outer s H E hr hg
theorem fam (V : Txt K w mg) (TBs : ∀ p ∈ tfs K, LamX.TabB base mg p.1 p.2) (c : He.SaysD Hd.fa Hd.fn K) : ∀ k f, (Ly K).fn f = true → FnK P w K mg base k f
  | 0, f, h => match f, h with
    | 0, _ => e_is_number c
    | 1, _ => e_is_name c
    | 2, _ => e_great c
    | 3, _ => e_is_value c
    | 4, _ => e_is_tuple_of c
    | 5, _ => e_is_sized c
    | 6, _ => e_is_row c
    | 7, _ => e_is_rows_form c
    | 8, _ => e_is_store_form c
    | 9, _ => e_value_key c
    | 10, _ => e_row_key c
    | 11, _ => e_ascending c
    | 12, _ => e_are_rising c
    | 13, _ => e_table_names c
    | 14, _ => e_table_of c
    | 15, _ => e_columns_of c
    | 16, _ => e_keys_of c
    | 17, _ => e_check_rows c
    | 18, _ => e_checked_store c
    | 19, _ => e_rows_of c
    | 20, _ => e_with_rows c
    | 21, _ => e_key_of c
    | 22, _ => e_blocks_by_keys c
    | 23, _ => e_blocks c
    | 24, _ => e_block_with c
    | 25, _ => e_all_blocks c
    | 26, _ => e_doubtful c
    | 27, _ => e_is_doubtful c
    | 28, _ => e_is_settled c
    | 29, _ => e_cut_to c
    | 30, _ => e__law_bag c
    | 31, _ => e__law_take c
    | 32, _ => e__law_some c
    | 33, _ => e__law_mixed c
    | 34, _ => e__law_alike c
    | 35, _ => e__law_value_key c
    | 36, _ => e__law_row_key c
    | 37, _ => e__law_sorted c
    | 38, _ => e__law_scheme c
    | 39, _ => e__law_small_value c
    | 40, _ => e__law_store c
    | 41, _ => e__law_blocks c
    | 42, _ => e__law_every_block c
    | 43, _ => e__law_come_to c
    | 44, _ => e_law c
    | n + 45, h => absurd (of_decide_eq_true (show decide (n + 45 < 45) = true from h)) (by omega)
  | k + 1, f, h => have D := fam V TBs c k
    match f, h with
    | 0, _ => d_is_number V D TBs c
    | 1, _ => d_is_name V D TBs c
    | 2, _ => d_great V D TBs c
    | 3, _ => d_is_value V D TBs c
    | 4, _ => d_is_tuple_of V D TBs c
    | 5, _ => d_is_sized V D TBs c
    | 6, _ => d_is_row V D TBs c
    | 7, _ => d_is_rows_form V D TBs c
    | 8, _ => d_is_store_form V D TBs c
    | 9, _ => d_value_key V D TBs c
    | 10, _ => d_row_key V D TBs c
    | 11, _ => d_ascending V D TBs c
    | 12, _ => d_are_rising V D TBs c
    | 13, _ => d_table_names V D TBs c
    | 14, _ => d_table_of V D TBs c
    | 15, _ => d_columns_of V D TBs c
    | 16, _ => d_keys_of V D TBs c
    | 17, _ => d_check_rows V D TBs c
    | 18, _ => d_checked_store V D TBs c
    | 19, _ => d_rows_of V D TBs c
    | 20, _ => d_with_rows V D TBs c
    | 21, _ => d_key_of V D TBs c
    | 22, _ => d_blocks_by_keys V D TBs c
    | 23, _ => d_blocks V D TBs c
    | 24, _ => d_block_with V D TBs c
    | 25, _ => d_all_blocks V D TBs c
    | 26, _ => d_doubtful V D TBs c
    | 27, _ => d_is_doubtful V D TBs c
    | 28, _ => d_is_settled V D TBs c
    | 29, _ => d_cut_to V D TBs c
    | 30, _ => d__law_bag V D TBs c
    | 31, _ => d__law_take V D TBs c
    | 32, _ => d__law_some V D TBs c
    | 33, _ => d__law_mixed V D TBs c
    | 34, _ => d__law_alike V D TBs c
    | 35, _ => d__law_value_key V D TBs c
    | 36, _ => d__law_row_key V D TBs c
    | 37, _ => d__law_sorted V D TBs c
    | 38, _ => d__law_scheme V D TBs c
    | 39, _ => d__law_small_value V D TBs c
    | 40, _ => d__law_store V D TBs c
    | 41, _ => d__law_blocks V D TBs c
    | 42, _ => d__law_every_block V D TBs c
    | 43, _ => d__law_come_to V D TBs c
    | 44, _ => d_law V D TBs c
    | n + 45, h => absurd (of_decide_eq_true (show decide (n + 45 < 45) = true from h)) (by omega)
end
/-- the law runs to True at every script -/
def LawRuns : Prop := ∀ ns : List Int, ns.length ≤ 63 → (∀ z ∈ ns, Builtin.Int.intBits z ≤ 1048576) → call F G 12 f_law [.d (.list (ns.map .int))] = .ok (.d (.bool true)) []
theorem fin {P : Program} {w : World} {h : Heap} {K : PySem.W.Frag} {mg : Str → Option Value} {fa : Addr} (KX : K.In h) (Gm : h.Ns mainGlobals mg) (hmg : mg ("law" : Str) = some (.ref fa)) (c : He.SaysX Hd.fa Hd.fn [] Hd.tf Hd.ex w h K) (hl : LawRuns) :
    ∃ (K : PySem.W.Frag) (fd : FuncData) (cs : List (Addr × Addr)) (sp : Sp), K.In h ∧ (∀ p ∈ cs, h.get? p.2 = some { cls := .none, data := .fields #[] }) ∧ (∀ p ∈ cs, K.lookup p.2 = none) ∧ (∀ p ∈ cs, PySem.W.CodeHd h p.1 p.2) ∧ (∀ (s : Shared) (u : Value), BindsTo s fd ⟨[u], []⟩ [("script", u)]) ∧
        (∀ (H : Hp) (a : Addr) (ns : List Int), ns.length ≤ 63 → (∀ z ∈ ns, Builtin.Int.intBits z ≤ 1048576) → Emp cs H → RdF K H a (ns.map V.int) → sp [.ref a] H (fun v _ => v = .bl true) fun _ _ _ => False) ∧
        ∀ base : Heap, K.In base → base.Ns mainGlobals mg → (∀ p ∈ cs, LamX.TabB base mg p.1 p.2) → FnG P w K mg base 12 fa fd ["script"] sp := by
  have e := hmg.symm.trans (He.glo_ok KX Gm (c.t.d.fact 44 (f := .glo "law") rfl))
  cases e
  obtain ⟨fd, FD⟩ := c.t.d.def_ 44 rfl
  have b := FunD.bindsA (ps := ["script"]) FD fun _ _ _ _ _ _ us hl => match us, hl with | [_], _ => rfl
  refine ⟨K, fd, tfs K, spF (cfL K w (Ly K)) [] (call F G 12) f_law 1, KX, fun p hp => ?_, fun p hp => ?_, fun p hp => ?_, fun s v => b s [v] rfl, fun H a ns hn hz hE hS => sp_law (hl ns hn hz) hE (fun p hp => ?_) hS, fun base hb hn TB => l_law (txt KX Gm c) (fam (txt KX Gm c) TB c.t.d _) TB FD⟩
  · obtain ⟨q, hq, rfl⟩ := List.mem_map.mp hp
    exact c.empty q hq
  · obtain ⟨q, hq, rfl⟩ := List.mem_map.mp hp
    exact c.out q hq
  · obtain ⟨q, hq, rfl⟩ := List.mem_map.mp hp
    exact PySem.W.codeHd_of_K KX (c.hd q hq)
  · obtain ⟨q, hq, rfl⟩ := List.mem_map.mp (show p ∈ Hd.tf.map (tbOf K) from hp)
    exact ⟨_, mem_tf hq, rfl⟩
end Mp
set_option maxHeartbeats 200000
/-! Lib: loops and comprehensions of the interpreter as folds, maps, searches. -/
namespace Mp
open PySem

@[simp] theorem muOut_nil (s : S) : muOut [] s = some [] := rfl
@[simp] theorem muOut_cons (i : Nat) (r : List Nat) (s : S) : muOut (i :: r) s = (s[i]?.bind id).bind fun x => (muOut r s).map (x :: ·) := by
  unfold muOut
  rw [List.mapM_cons]
  cases s[i]?.bind id with
  | none => rfl
  | some x =>
    show (List.mapM (fun i => s[i]?.bind id) r >>= fun y => some (x :: y)) = _
    cases List.mapM (fun i => s[i]?.bind id) r <;> rfl
/-- place by place -/
inductive All2 {α β : Type} (Q : α → β → Prop) : List α → List β → Prop
  | nil : All2 Q [] []
  | cons {a b l m} : Q a b → All2 Q l m → All2 Q (a :: l) (b :: m)

section
variable {β : Type} {l : List β} {f : β → X} {s : S}
/-- every turn goes on; what is carried is in emb -/
theorem forL_fold {α : Type} {body : X → S → Fl} (emb : α → S) (step : α → β → α) (I : α → List β → Prop) (a : α) (pre : List β) (h0 : I a pre)
    (h : ∀ a pre b post, l = pre ++ b :: post → I a pre → body (f b) (emb a) = .nx (emb (step a b)) ∧ I (step a b) (pre ++ [b])) :
    ∀ post, l = pre ++ post → forL body (post.map f) (emb a) = .nx (emb (post.foldl step a)) ∧ I (post.foldl step a) l := by
  intro post
  induction post generalizing a pre with
  | nil => intro e; rw [List.append_nil] at e; subst e; exact ⟨rfl, h0⟩
  | cons b post ih =>
    intro e
    obtain ⟨h1, h2⟩ := h a pre b post e h0
    obtain ⟨h3, h4⟩ := ih (step a b) (pre ++ [b]) h2 (by rw [e]; simp)
    refine ⟨?_, h4⟩
    show forL body (f b :: post.map f) (emb a) = _
    unfold forL
    rw [h1]
    exact h3
/-- .. without an invariant -/
theorem forL_fold0 {α : Type} {body : X → S → Fl} (emb : α → S) (step : α → β → α) (a : α) (h : ∀ a b, b ∈ l → body (f b) (emb a) = .nx (emb (step a b))) :
    forL body (l.map f) (emb a) = .nx (emb (l.foldl step a)) := by
  induction l generalizing a with
  | nil => rfl
  | cons b r ih =>
    show forL body (f b :: r.map f) (emb a) = _
    unfold forL
    rw [h a b List.mem_cons_self]
    exact ih (step a b) fun a c hc => h a c (List.mem_cons_of_mem _ hc)
/-- a search: each turn leaves the state or leaves the loop -/
theorem forL_find {body : X → S → Fl} (p : β → Bool) (o : β → Fl) (h : ∀ b, b ∈ l → body (f b) s = if p b then o b else .nx s)
    (ho : ∀ b t, o b ≠ .nx t ∧ o b ≠ .ct t ∧ o b ≠ .bk t) : forL body (l.map f) s = match l.find? p with
      | some b => o b
      | none => .nx s := by
  induction l with
  | nil => rfl
  | cons b r ih =>
    show forL body (f b :: r.map f) s = _
    unfold forL
    rw [h b List.mem_cons_self, List.find?_cons]
    cases p b with
    | true =>
      have q := ho b
      simp only [if_true]
      generalize o b = w at q
      cases w with
      | nx t => exact absurd rfl (q t).1
      | ct t => exact absurd rfl (q t).2.1
      | bk t => exact absurd rfl (q t).2.2
      | _ => rfl
    | false =>
      simp only [Bool.false_eq_true, if_false]
      exact ih fun c hc => h c (List.mem_cons_of_mem _ hc)
/-- by a relation -/
theorem forL_rel {body : X → S → Fl} (I : List β → S → Prop) (pre : List β) (h : ∀ pre b post t, l = pre ++ b :: post → I pre t → ∃ t', body (f b) t = .nx t' ∧ I (pre ++ [b]) t') :
    ∀ post t, l = pre ++ post → I pre t → ∃ t', forL body (post.map f) t = .nx t' ∧ I l t' := by
  intro post
  induction post generalizing pre with
  | nil => intro t e hi; rw [List.append_nil] at e; subst e; exact ⟨t, rfl, hi⟩
  | cons b post ih =>
    intro t e hi
    obtain ⟨t', h1, h2⟩ := h pre b post t e hi
    obtain ⟨t'', h3, h4⟩ := ih (pre ++ [b]) t' (by rw [e]; simp) h2
    refine ⟨t'', ?_, h4⟩
    show forL body (f b :: post.map f) t = _
    unfold forL
    rw [h1]
    exact h3

/-- a comprehension that leaves the state: tests and elements by functions -/
theorem lcL_filterMap {turn : X → S → R S (Option X)} (g : β → Option X) (acc : List X) (h : ∀ b, b ∈ l → turn (f b) s = .ok (g b) s) (hl : acc.length + l.length ≤ lim) :
    lcL turn (l.map f) acc s = .ok (acc ++ l.filterMap g) s := by
  induction l generalizing acc with
  | nil => simp [lcL]
  | cons b r ih =>
    show lcL turn (f b :: r.map f) acc s = _
    unfold lcL
    rw [h b List.mem_cons_self]
    simp only [calm_ok, bind_ok, List.length_cons] at hl ⊢
    cases e : g b with
    | none => simp only [List.filterMap_cons, e]; exact ih acc (fun c hc => h c (List.mem_cons_of_mem _ hc)) (by omega)
    | some y =>
      simp only [List.filterMap_cons, e]
      rw [if_pos (by omega), ih (acc ++ [y]) (fun c hc => h c (List.mem_cons_of_mem _ hc)) (by simp; omega)]
      simp
theorem lcL_map {turn : X → S → R S (Option X)} (g : β → X) (h : ∀ b, b ∈ l → turn (f b) s = .ok (some (g b)) s) (hl : l.length ≤ lim) : lcL turn (l.map f) [] s = .ok (l.map g) s := by
  have q := lcL_filterMap (f := f) (fun b => some (g b)) [] h (by simpa using hl)
  simpa using q
theorem lcL_filter {turn : X → S → R S (Option X)} (p : β → Bool) (g : β → X) (h : ∀ b, b ∈ l → turn (f b) s = .ok (if p b then some (g b) else none) s) (hl : l.length ≤ lim) :
    lcL turn (l.map f) [] s = .ok ((l.filter p).map g) s := by
  have q := lcL_filterMap (f := f) (fun b => if p b then some (g b) else none) [] h (by simpa using hl)
  rw [q, List.nil_append]
  congr 1
  clear q h hl
  induction l with
  | nil => rfl
  | cons b r ih =>
    rw [List.filterMap_cons, List.filter_cons, ih]
    cases p b <;> simp
/-- .. that turns the state: by a relation -/
theorem lcL_rel {turn : X → S → R S (Option X)} (I : S → Prop) (Q : β → X → Prop) (acc : List X) (h : ∀ b t, b ∈ l → I t → ∃ y t', turn (f b) t = .ok (some y) t' ∧ I t' ∧ Q b y) (hl : acc.length + l.length ≤ lim) :
    ∀ t, I t → ∃ ys t', lcL turn (l.map f) acc t = .ok (acc ++ ys) t' ∧ I t' ∧ All2 Q l ys := by
  induction l generalizing acc with
  | nil => intro t hi; exact ⟨[], t, by simp [lcL], hi, .nil⟩
  | cons b r ih =>
    intro t hi
    obtain ⟨y, t', h1, h2, h3⟩ := h b t List.mem_cons_self hi
    simp only [List.length_cons] at hl
    obtain ⟨ys, t'', h4, h5, h6⟩ := ih (acc ++ [y]) (fun c u hc => h c u (List.mem_cons_of_mem _ hc)) (by simp; omega) t' h2
    refine ⟨y :: ys, t'', ?_, h5, .cons h3 h6⟩
    show lcL turn (f b :: r.map f) acc t = _
    unfold lcL
    rw [h1]
    simp only [calm_ok, bind_ok]
    rw [if_pos (by omega), h4]
    simp
theorem lcL2_flat {turn : X → List X → S → R S (List X)} (g : β → List X) (acc : List X) (h : ∀ b acc, b ∈ l → acc.length + (g b).length ≤ lim → turn (f b) acc s = .ok (acc ++ g b) s) (hl : acc.length + (l.flatMap g).length ≤ lim) :
    lcL2 turn (l.map f) acc s = .ok (acc ++ l.flatMap g) s := by
  induction l generalizing acc with
  | nil => simp [lcL2]
  | cons b r ih =>
    show lcL2 turn (f b :: r.map f) acc s = _
    unfold lcL2
    rw [List.flatMap_cons, List.length_append] at hl
    rw [h b acc List.mem_cons_self (by omega)]
    simp only [calm_ok, bind_ok]
    rw [ih (acc ++ g b) (fun c a hc => h c a (List.mem_cons_of_mem _ hc)) (by rw [List.length_append]; omega), List.flatMap_cons, List.append_assoc]
theorem keyG_map {turn : D → R S X} {l : List β} (f g : β → D) (h : ∀ b, b ∈ l → ∃ s x, turn (f b) = .ok x s ∧ dat? x = some (g b)) : keyG turn (l.map f) = some (l.map fun b => (g b, f b)) := by
  induction l with
  | nil => rfl
  | cons d r ih =>
    obtain ⟨s, x, e1, e2⟩ := h d List.mem_cons_self
    show keyG turn (f d :: r.map f) = _
    unfold keyG
    rw [e1, ih fun c hc => h c (List.mem_cons_of_mem _ hc)]
    simp only [e2, Option.bind_some, Option.map_some, List.map_cons]
theorem keyC_map {C : Calls} {k : Nat} {l : List β} (f g : β → D) (h : ∀ b, b ∈ l → ∃ ms x, C k [.d (f b)] = .ok x ms ∧ dat? x = some (g b)) : keyC C k (l.map f) = some (l.map fun b => (g b, f b)) := by
  induction l with
  | nil => rfl
  | cons d r ih =>
    obtain ⟨ms, x, e1, e2⟩ := h d List.mem_cons_self
    show keyC C k (f d :: r.map f) = _
    unfold keyC
    rw [e1, ih fun c hc => h c (List.mem_cons_of_mem _ hc)]
    simp only [e2, Option.bind_some, Option.map_some, List.map_cons]
end
end Mp
set_option maxHeartbeats 1000000
/-! PA: tables of rows; the program's short functions. -/
namespace Mp
open PySem
/-- the values that rows have -/
inductive A5 where | i0 | i1 | i2 | sa | sb
  deriving DecidableEq
def A5.d : A5 → D
  | .i0 => .int 0 | .i1 => .int 1 | .i2 => .int 2 | .sa => .str (Str.ofString "a") | .sb => .str (Str.ofString "b")
abbrev Row := List A5
/-- a table: its name, columns, keys, rows -/
structure Tab where
  n : Str
  c : Nat
  k : Nat
  rs : List Row
def rowD (r : Row) : D := .tuple (r.map A5.d)
def rowsD (r : List Row) : D := .tuple (r.map rowD)
def schE (t : Tab) : D := .tuple [.str t.n, .int t.c, .int t.k]
def stoE (t : Tab) : D := .tuple [.str t.n, rowsD t.rs]
def schD (T : List Tab) : D := .tuple (T.map schE)
def stoD (T : List Tab) : D := .tuple (T.map stoE)
@[simp] theorem deep_str (x : Str) (d : D) : deep d (.str x) = true := by simp [deep, PyData.depth]
@[simp] theorem deep_str' (x : Str) (d : D) : deep (.str x) d = true := by simp [deep, PyData.depth]
@[simp] theorem deep_int (x : Int) (d : D) : deep d (.int x) = true := by simp [deep, PyData.depth]
@[simp] theorem deep_int' (x : Int) (d : D) : deep (.int x) d = true := by simp [deep, PyData.depth]
@[simp] theorem deep_nil (d : D) : deep d (.tuple []) = true := by simp [deep, PyData.depth, PyData.depthAll]; omega
@[simp] theorem deep_nil' (d : D) : deep (.tuple []) d = true := by simp [deep, PyData.depth, PyData.depthAll]; omega
theorem ev_at (n : Nat) {f : Nat} {fd : Fd} (xs : List X) (d : Nat) (hn : d + 1 ≤ n) (h : F f = some fd) (hl : xs.length = fd.ps) : ∃ m, d ≤ m ∧ n = m + 1 ∧ call F G n f xs = outOf fd.mu (exs (call F G m) G fd.body (xs.map some ++ List.replicate (fd.ns - fd.ps) none)) := by
  obtain ⟨m, rfl⟩ : ∃ m, n = m + 1 := ⟨n - 1, by omega⟩
  exact ⟨m, by omega, rfl, call_eq m xs h hl⟩
def NmD (T : List Tab) : Prop := (T.map Tab.n).Nodup
theorem find_in : ∀ {T : List Tab} {t : Tab}, NmD T → t ∈ T → T.find? (fun u => u.n == t.n) = some t
  | [], t, _, h => by cases h
  | u :: T, t, hn, h => by
    obtain ⟨h1, h2⟩ := List.nodup_cons.mp hn
    rcases List.mem_cons.mp h with rfl | h
    · simp [List.find?_cons]
    · have : (u.n == t.n) = false := beq_eq_false_iff_ne.mpr fun e => h1 (List.mem_map.mpr ⟨t, h, e.symm⟩)
      rw [List.find?_cons, this]
      exact find_in h2 h
theorem find_out {T : List Tab} {x : Str} (h : x ∉ T.map Tab.n) : T.find? (fun u => u.n == x) = none := by
  rw [List.find?_eq_none]
  intro u hu e
  exact h (List.mem_map.mpr ⟨u, hu, eq_of_beq e⟩)
theorem cut_take {α : Type} (l : List α) (k : Nat) : cut l none (some (k : Int)) = l.take k := by
  unfold cut sIx
  simp
  rw [if_neg (by omega)]
  omega
theorem c_table (n : Nat) (hn : 1 ≤ n) (T : List Tab) (x : Str) : call F G n f_table_of [.d (schD T), .d (.str x)] = match T.find? (fun t => t.n == x) with
    | some t => .ok (.d (schE t)) []
    | none => .exc ⟨c_Nothing, []⟩ [] := by
  obtain ⟨m, hm, rfl, e⟩ := ev_at n [.d (schD T), .d (.str x)] 0 hn F_table_of rfl
  rw [e]
  simp [b_table_of, kFor, forI, schD, -List.map_map]
  rw [List.map_map, forL_find (fun t : Tab => t.n == x) (fun t => .rt (.d (schE t)) [some (.d (schD T)), some (.d (.str x)), none])]
  · cases T.find? (fun t => t.n == x) <;> simp
  · intro t ht
    simp [forT, forT0, schE, ixOf, schD]
    split <;> simp
  · simp
theorem c_rows (n : Nat) (hn : 1 ≤ n) (T : List Tab) (x : Str) : call F G n f_rows_of [.d (stoD T), .d (.str x)] = match T.find? (fun t => t.n == x) with
    | some t => .ok (.d (rowsD t.rs)) []
    | none => .exc ⟨c_Nothing, []⟩ [] := by
  obtain ⟨m, hm, rfl, e⟩ := ev_at n [.d (stoD T), .d (.str x)] 0 hn F_rows_of rfl
  rw [e]
  simp [b_rows_of, kFor, forI, stoD, -List.map_map]
  rw [List.map_map, forL_find (fun t : Tab => t.n == x) (fun t => .rt (.d (rowsD t.rs)) [some (.d (stoD T)), some (.d (.str x)), some (.d (.str t.n)), none])]
  · cases T.find? (fun t => t.n == x) <;> simp
  · intro t ht
    simp [forT, forT0, stoE, ixOf, stoD]
    split <;> simp
  · simp
section
variable {T : List Tab} {t : Tab} (hN : NmD T) (ht : t ∈ T)
include hN ht
theorem c_table_in (n : Nat) (hn : 1 ≤ n) : call F G n f_table_of [.d (schD T), .d (.str t.n)] = .ok (.d (schE t)) [] := by rw [c_table n hn, find_in hN ht]
theorem c_rows_in (n : Nat) (hn : 1 ≤ n) : call F G n f_rows_of [.d (stoD T), .d (.str t.n)] = .ok (.d (rowsD t.rs)) [] := by rw [c_rows n hn, find_in hN ht]
theorem c_keys_in (n : Nat) (hn : 2 ≤ n) : call F G n f_keys_of [.d (schD T), .d (.str t.n)] = .ok (.d (.int t.k)) [] := by
  obtain ⟨m, hm, rfl, e⟩ := ev_at n [.d (schD T), .d (.str t.n)] 1 hn F_keys_of rfl
  rw [e]
  simp [b_keys_of, doCall, schD] 
  rw [show X.d (.tuple (T.map schE)) = .d (schD T) from rfl, c_table_in hN ht m hm]
  simp [schE, ixOf]
theorem c_columns_in (n : Nat) (hn : 2 ≤ n) : call F G n f_columns_of [.d (schD T), .d (.str t.n)] = .ok (.d (.int t.c)) [] := by
  obtain ⟨m, hm, rfl, e⟩ := ev_at n [.d (schD T), .d (.str t.n)] 1 hn F_columns_of rfl
  rw [e]
  simp [b_columns_of, doCall, c_table_in hN ht m hm, schE, ixOf]
theorem c_key_in (n : Nat) (hn : 3 ≤ n) (r : Row) : call F G n f_key_of [.d (schD T), .d (.str t.n), .d (rowD r)] = .ok (.d (rowD (r.take t.k))) [] := by
  obtain ⟨m, hm, rfl, e⟩ := ev_at n [.d (schD T), .d (.str t.n), .d (rowD r)] 2 hn F_key_of rfl
  rw [e]
  simp [b_key_of, doCall, c_keys_in hN ht m hm, rowD, cut_take]
end
section
variable {T : List Tab} {x : Str} (hx : x ∉ T.map Tab.n)
include hx
theorem c_table_out (n : Nat) (hn : 1 ≤ n) : call F G n f_table_of [.d (schD T), .d (.str x)] = .exc ⟨c_Nothing, []⟩ [] := by rw [c_table n hn, find_out hx]
theorem c_rows_out (n : Nat) (hn : 1 ≤ n) : call F G n f_rows_of [.d (stoD T), .d (.str x)] = .exc ⟨c_Nothing, []⟩ [] := by rw [c_rows n hn, find_out hx]
theorem c_keys_out (n : Nat) (hn : 2 ≤ n) : call F G n f_keys_of [.d (schD T), .d (.str x)] = .exc ⟨c_Nothing, []⟩ [] := by
  obtain ⟨m, hm, rfl, e⟩ := ev_at n [.d (schD T), .d (.str x)] 1 hn F_keys_of rfl
  rw [e]
  simp [b_keys_of, doCall, c_table_out hx m hm]
end
theorem c_names (n : Nat) (hn : 1 ≤ n) (T : List Tab) (hl : T.length ≤ lim) : call F G n f_table_names [.d (schD T)] = .ok (.d (.tuple (T.map fun t => .str t.n))) [] := by
  obtain ⟨m, hm, rfl, e⟩ := ev_at n [.d (schD T)] 0 hn F_table_names rfl
  rw [e]
  simp [b_table_names, schD, -List.map_map]
  rw [List.map_map, lcL_map (fun t : Tab => .d (.str t.n)) _ hl]
  · simp
  · intro t ht
    simp [lcT, lcT0, schE]
theorem c_value (n : Nat) (hn : 3 ≤ n) (a : A5) : call F G n f_is_value [.d a.d] = .ok (.d (.bool true)) [] := by
  obtain ⟨m, rfl⟩ : ∃ m, n = m + 3 := ⟨n - 3, by omega⟩
  cases a <;> with_unfolding_all rfl
end Mp
set_option maxHeartbeats 1000000
/-! PO: the order of rows; sorting. -/
namespace Mp
open PySem SrtO
def A5.r : A5 → Nat
  | .i0 => 0 | .i1 => 1 | .i2 => 2 | .sa => 3 | .sb => 4
theorem A5.inj {a b : A5} (h : a.r = b.r) : a = b := by cases a <;> cases b <;> first | rfl | (exact absurd h (by decide))
def lx : Row → Row → Bool
  | [], [] => false
  | [], _ :: _ => true
  | _ :: _, [] => false
  | a :: x, b :: y => if a = b then lx x y else decide (a.r < b.r)
theorem lx_irr : ∀ x, lx x x = false
  | [] => rfl
  | a :: x => by unfold lx; rw [if_pos rfl]; exact lx_irr x
theorem lx_trans : ∀ {x y z}, lx x y = true → lx y z = true → lx x z = true
  | [], [], _, h, _ => by cases h
  | [], _ :: _, [], _, h => by cases h
  | [], _ :: _, _ :: _, _, _ => rfl
  | _ :: _, [], _, h, _ => by cases h
  | _ :: _, _ :: _, [], _, h => by cases h
  | a :: x, b :: y, c :: z, h1, h2 => by
    unfold lx at h1 h2 ⊢
    by_cases e1 : a = b
    · subst e1
      rw [if_pos rfl] at h1
      by_cases e2 : a = c
      · subst e2
        rw [if_pos rfl] at h2 ⊢
        exact lx_trans h1 h2
      · rw [if_neg e2] at h2 ⊢; exact h2
    · rw [if_neg e1] at h1
      have h1 := of_decide_eq_true h1
      by_cases e2 : b = c
      · subst e2
        rw [if_neg e1]; exact decide_eq_true h1
      · rw [if_neg e2] at h2
        have h2 := of_decide_eq_true h2
        rw [if_neg (fun e => by subst e; omega)]
        exact decide_eq_true (by omega)
theorem lx_tot : ∀ {x y}, lx x y = false → lx y x = false → x = y
  | [], [], _, _ => rfl
  | [], _ :: _, h, _ => by cases h
  | _ :: _, [], _, h => by cases h
  | a :: x, b :: y, h1, h2 => by
    unfold lx at h1 h2
    by_cases e : a = b
    · subst e
      rw [if_pos rfl] at h1 h2
      rw [lx_tot h1 h2]
    · rw [if_neg e] at h1
      rw [if_neg (fun z => e z.symm)] at h2
      have h1 := of_decide_eq_false h1
      have h2 := of_decide_eq_false h2
      exact absurd (A5.inj (by omega)) e
theorem lx_asym {x y} (h : lx x y = true) : lx y x = false := by
  cases q : lx y x with
  | false => rfl
  | true => have := lx_trans h q; rw [lx_irr] at this; cases this
theorem lx_swo : Swo lx := ⟨fun _ _ h => lx_asym h, fun x y z h1 h2 => by
  cases q : lx z x with
  | false => rfl
  | true =>
    cases p : lx x y with
    | true => rw [lx_trans q p] at h2; cases h2
    | false => rw [lx_tot p h1] at q; rw [q] at h2; cases h2⟩
theorem lx_take : ∀ (k : Nat) {x y}, lx x y = true → x.take k = y.take k ∨ lx (x.take k) (y.take k) = true
  | 0, _, _, _ => .inl (by simp)
  | k + 1, [], [], h => by cases h
  | k + 1, [], _ :: _, _ => .inr rfl
  | k + 1, _ :: _, [], h => by cases h
  | k + 1, a :: x, b :: y, h => by
    unfold lx at h
    rw [List.take_succ_cons, List.take_succ_cons]
    by_cases e : a = b
    · subst e
      rw [if_pos rfl] at h
      rcases lx_take k h with z | z
      · exact .inl (by rw [z])
      · refine .inr ?_
        unfold lx
        rw [if_pos rfl]; exact z
    · rw [if_neg e] at h
      refine .inr ?_
      unfold lx
      rw [if_neg e]; exact h
/-- a way to make keys of values -/
structure KeyOf (K : A5 → D) : Prop where
  eq : ∀ a b, PyData.eqv (K a) (K b) = decide (a = b)
  lt : ∀ a b, a ≠ b → ltD (K a) (K b) = some (decide (a.r < b.r))
  pl : ∀ a, plain (K a) = true
  dp : ∀ a, (K a).depth ≤ 2
def keyD (K : A5 → D) (r : Row) : D := .tuple (r.map K)
section
variable {K : A5 → D} (k : KeyOf K)
include k
theorem key_lts : ∀ x y : Row, ltDs (x.map K) (y.map K) = some (lx x y)
  | [], [] => rfl
  | [], _ :: _ => rfl
  | _ :: _, [] => rfl
  | a :: x, b :: y => by
    show (if PyData.eqv (K a) (K b) then ltDs (x.map K) (y.map K) else ltD (K a) (K b)) = _
    unfold lx
    rw [k.eq]
    by_cases e : a = b
    · subst e
      simp only [decide_true, if_true]
      exact key_lts x y
    · simp only [e, decide_false, if_false, Bool.false_eq_true]
      exact k.lt a b e
theorem key_lt (x y : Row) : ltD (keyD K x) (keyD K y) = some (lx x y) := key_lts k x y
theorem key_ltB (x y : Row) : ltB (keyD K x) (keyD K y) = lx x y := by unfold ltB; rw [key_lt k]; rfl
theorem key_depth : ∀ x : Row, PyData.depthAll (x.map K) ≤ 2
  | [] => by simp [PyData.depthAll]
  | a :: x => by
    have h1 := k.dp a
    have h2 := key_depth x
    rw [List.map_cons, PyData.depthAll]
    omega
theorem key_plain : ∀ x : Row, plains (x.map K) = true
  | [] => rfl
  | a :: x => by
    show (plain (K a) && plains (x.map K)) = true
    rw [k.pl, key_plain x]; rfl
theorem key_srt {l : List Row} (hl : ∀ r ∈ l, r ≠ []) : SrtOk (l.map (keyD K)) where
  pl := fun a ha => by obtain ⟨r, _, rfl⟩ := List.mem_map.mp ha; exact key_plain k r
  dp := fun a ha => by
    obtain ⟨r, _, rfl⟩ := List.mem_map.mp ha
    have := key_depth k r
    show (PyData.tuple (r.map K)).depth ≤ 60
    simp only [PyData.depth]
    omega
  cm := fun a ha b hb => by
    obtain ⟨r, _, rfl⟩ := List.mem_map.mp ha
    obtain ⟨q, _, rfl⟩ := List.mem_map.mp hb
    rw [key_lt k]; rfl
  kd := .inr (.inr (.inl fun a ha => by
    obtain ⟨r, hr, rfl⟩ := List.mem_map.mp ha
    cases r with
    | nil => exact absurd rfl (hl [] hr)
    | cons a r => exact ⟨K a, r.map K, rfl⟩))
/-- sorted by the key of a row -/
theorem sorted_rows (f : Row → D) (l : List Row) (hl : ∀ r ∈ l, r ≠ []) : sortedK (l.map fun r => (keyD K r, f r)) = some (.lst ((isort lx l).map fun r => X.d (f r))) := by
  unfold sortedK
  have h1 : SrtOk ((l.map fun r => (keyD K r, f r)).map (·.1)) := by
    rw [List.map_map]
    exact key_srt k hl
  rw [if_pos (.inr h1)]
  unfold sortKeyed
  have e := isort_map (lt := fun p q : D × D => ltB p.1 q.1) (fun r => (keyD K r, f r)) l
  have e2 : (fun p q : Row => (fun p q : D × D => ltB p.1 q.1) (keyD K p, f p) (keyD K q, f q)) = lx := by
    funext p q
    exact key_ltB k p q
  rw [e2] at e
  rw [← e, List.map_map, List.map_map]
  rfl
end
def Asc (l : List Row) : Prop := l.Pairwise fun x y => lx x y = true
theorem isort_self : ∀ {l : List Row}, Asc l → isort lx l = l
  | [], _ => rfl
  | [x], _ => rfl
  | x :: y :: r, h => by
    obtain ⟨h1, h2⟩ := List.pairwise_cons.mp h
    show ins lx x (isort lx (y :: r)) = _
    rw [isort_self h2]
    unfold ins
    rw [lx_asym (h1 y List.mem_cons_self)]
    rfl
theorem Asc.nodup {l : List Row} (h : Asc l) : l.Nodup := h.imp fun {a b} h e => by subst e; rw [lx_irr] at h; cases h
/-- equal neighbours once -/
def dd1 (acc : List Row) (r : Row) : List Row := if acc.getLast? = some r then acc else acc ++ [r]
def dd (l : List Row) : List Row := l.foldl dd1 []
theorem dd_ok : ∀ (l acc : List Row), Srtd lx l → Asc acc → (∀ a ∈ acc, ∀ b ∈ l, lx b a = false) → Asc (l.foldl dd1 acc) ∧ (∀ r ∈ l.foldl dd1 acc, r ∈ acc ∨ r ∈ l) ∧ (l.foldl dd1 acc).length ≤ acc.length + l.length
  | [], acc, _, h, _ => ⟨h, fun r hr => .inl hr, by simp⟩
  | x :: l, acc, hs, h, hb => by
    obtain ⟨s1, s2⟩ := List.pairwise_cons.mp hs
    have key : Asc (dd1 acc x) ∧ (∀ r ∈ dd1 acc x, r ∈ acc ∨ r = x) ∧ (dd1 acc x).length ≤ acc.length + 1 := by
      unfold dd1
      by_cases e : acc.getLast? = some x
      · rw [if_pos e]
        exact ⟨h, fun r hr => .inl hr, by omega⟩
      · rw [if_neg e]
        refine ⟨List.pairwise_append.mpr ⟨h, List.pairwise_singleton _ _, fun a ha b hb' => ?_⟩, fun r hr => ?_, by simp⟩
        · rw [List.mem_singleton.mp hb']
          have h1 := hb a ha x List.mem_cons_self
          cases q : lx a x with
          | true => rfl
          | false =>
            -- a = x: then a is the last
            have ea := lx_tot q h1
            subst ea
            exfalso
            apply e
            obtain ⟨p, r, rfl⟩ := List.append_of_mem ha
            cases r with
            | nil => simp
            | cons z r =>
              have hz : lx a z = true := by
                have := (List.pairwise_append.mp h).2.1
                exact (List.pairwise_cons.mp this).1 z List.mem_cons_self
              have hzz := hb z (by simp) a List.mem_cons_self
              rw [hz] at hzz; cases hzz
        · rcases List.mem_append.mp hr with z | z
          · exact .inl z
          · exact .inr (List.mem_singleton.mp z)
    obtain ⟨k1, k2, k3⟩ := key
    obtain ⟨r1, r2, r3⟩ := dd_ok l (dd1 acc x) s2 k1 fun a ha b hb' => by
      rcases k2 a ha with z | z
      · exact hb a z b (List.mem_cons_of_mem _ hb')
      · subst z; exact s1 b hb'
    refine ⟨r1, fun r hr => ?_, by simp only [List.foldl_cons, List.length_cons]; omega⟩
    rcases r2 r hr with z | z
    · rcases k2 r z with z | z
      · exact .inl z
      · exact .inr (by simp [z])
    · exact .inr (List.mem_cons_of_mem _ z)
theorem dd_isort (l : List Row) : Asc (dd (isort lx l)) ∧ (∀ r ∈ dd (isort lx l), r ∈ l) ∧ (dd (isort lx l)).length ≤ l.length := by
  obtain ⟨s1, s2⟩ := isort_ok lx_swo l
  obtain ⟨h1, h2, h3⟩ := dd_ok (isort lx l) [] s1 List.Pairwise.nil (fun _ h => nomatch h)
  refine ⟨h1, fun r hr => ?_, by have := s2.perm.length_eq; simp only [List.length_nil] at h3; unfold dd; omega⟩
  rcases h2 r hr with z | z
  · cases z
  · exact isort_mem.mp z
end Mp
set_option maxHeartbeats 1000000
/-! PG: rows in groups by their first values; rows as data. -/
namespace Mp
open PySem
theorem eqvs_map {α : Type} [DecidableEq α] {K : α → D} (h : ∀ a b, PyData.eqv (K a) (K b) = decide (a = b)) : ∀ x y : List α, PyData.eqvAll (x.map K) (y.map K) = decide (x = y)
  | [], [] => by simp
  | [], _ :: _ => by simp
  | _ :: _, [] => by simp
  | a :: x, b :: y => by
    simp only [List.map_cons, eqvs_cc, h, eqvs_map h x y, List.cons.injEq, Bool.decide_and]
theorem eqv_a (a b : A5) : PyData.eqv a.d b.d = decide (a = b) := by cases a <;> cases b <;> simp [A5.d] <;> decide +kernel
@[simp] theorem eqv_row (a b : Row) : PyData.eqv (rowD a) (rowD b) = decide (a = b) := by rw [rowD, rowD, eqv_tup, eqvs_map eqv_a]
@[simp] theorem eqv_rows (a b : List Row) : PyData.eqv (rowsD a) (rowsD b) = decide (a = b) := by rw [rowsD, rowsD, eqv_tup, eqvs_map eqv_row]
theorem dpa (a : A5) : a.d.depth = 0 := by cases a <;> simp [A5.d, PyData.depth]
theorem dp_map {α : Type} {K : α → D} {m : Nat} (h : ∀ a, (K a).depth ≤ m) : ∀ x : List α, PyData.depthAll (x.map K) ≤ m
  | [] => by simp [PyData.depthAll]
  | a :: x => by
    have h1 := h a
    have h2 := dp_map h x
    rw [List.map_cons, PyData.depthAll]
    omega
theorem dp_row (r : Row) : (rowD r).depth ≤ 1 := by
  have := dp_map (K := A5.d) (m := 0) (fun a => by rw [dpa]; omega) r
  simp only [rowD, PyData.depth]; omega
theorem dp_rows (r : List Row) : (rowsD r).depth ≤ 2 := by
  have := dp_map (K := rowD) (m := 1) dp_row r
  simp only [rowsD, PyData.depth]; omega
@[simp] theorem deep_row (r : Row) (d : D) : deep (rowD r) d = true := by have := dp_row r; simp only [deep, decide_eq_true_eq]; omega
@[simp] theorem deep_row' (r : Row) (d : D) : deep d (rowD r) = true := by have := dp_row r; simp only [deep, decide_eq_true_eq]; omega
@[simp] theorem deep_rows (r : List Row) (d : D) : deep (rowsD r) d = true := by have := dp_rows r; simp only [deep, decide_eq_true_eq]; omega
@[simp] theorem deep_rows' (r : List Row) (d : D) : deep d (rowsD r) = true := by have := dp_rows r; simp only [deep, decide_eq_true_eq]; omega
@[simp] theorem deepL_row (r : Row) (l : List D) : deepL (rowD r) l = true := by have := dp_row r; simp only [deepL, decide_eq_true_eq]; omega
theorem has_row (r : Row) : ∀ l : List Row, hasD (rowD r) (l.map rowD) = decide (r ∈ l)
  | [] => rfl
  | q :: l => by
    have e := has_row r l
    unfold hasD at e ⊢
    rw [List.map_cons, List.any_cons, e, eqv_row]
    by_cases h : q = r
    · subst h; simp
    · have : r ≠ q := fun z => h z.symm
      simp [h, this]
theorem okl : ∀ r : Row, okLeaves (r.map A5.d) = true
  | [] => rfl
  | a :: r => by
    show (okLeaf a.d && okLeaves (r.map A5.d)) = true
    rw [okl r]
    cases a <;> rfl
@[simp] theorem kind_row (r : Row) : kindK (rowD r) = some false := by
  have := dp_row r
  show (if okLeaves (r.map A5.d) = true ∧ (rowD r).depth ≤ 8 then some false else none) = some false
  rw [if_pos ⟨okl r, by omega⟩]
theorem okIn_row {β : Type} (r : Row) (l : List (D × β)) (h : ∀ p ∈ l, ∃ q, p.1 = rowD q) : okIn (rowD r) l = true := by
  cases l with
  | nil => simp [okIn]
  | cons p l =>
    obtain ⟨q, e⟩ := h p List.mem_cons_self
    obtain ⟨j, x⟩ := p
    have e : j = rowD q := e
    subst e
    simp [okIn]
/-! groups -/
abbrev Gr := Row × List Row
def g1 (k : Nat) (acc : List Gr) (r : Row) : List Gr := match acc.getLast? with
  | some g => if g.1 = r.take k then acc.dropLast ++ [(g.1, g.2 ++ [r])] else acc ++ [(r.take k, [r])]
  | none => [(r.take k, [r])]
def grp (k : Nat) (rs : List Row) : List Gr := rs.foldl (g1 k) []
structure GInv (k : Nat) (acc : List Gr) (pre : List Row) : Prop where
  all : acc.flatMap (·.2) = pre
  ne : ∀ g ∈ acc, g.2 ≠ [] ∧ ∀ r ∈ g.2, r.take k = g.1
  asc : (acc.map (·.1)).Pairwise fun x y => lx x y = true
/-- what is known of a further row -/
theorem GInv.less {k : Nat} {acc : List Gr} {pre : List Row} {r : Row} (I : GInv k acc pre) (h : ∀ q ∈ pre, lx q r = true) {init : List Gr} {g : Gr} (e : acc = init ++ [g]) (hg : g.1 ≠ r.take k) : ∀ x ∈ acc, lx x.1 (r.take k) = true := by
  have own : ∀ x ∈ acc, x.1 = r.take k ∨ lx x.1 (r.take k) = true := fun x hx => by
    obtain ⟨n1, n2⟩ := I.ne x hx
    obtain ⟨q, hq⟩ := List.exists_mem_of_ne_nil _ n1
    have hp : q ∈ pre := by rw [← I.all]; exact List.mem_flatMap.mpr ⟨x, hx, hq⟩
    rw [← n2 q hq]
    exact lx_take k (h q hp)
  have hl : lx g.1 (r.take k) = true := (own g (by rw [e]; simp)).resolve_left hg
  intro x hx
  rw [e] at hx
  rcases List.mem_append.mp hx with z | z
  · have p := I.asc
    rw [e, List.map_append] at p
    exact lx_trans ((List.pairwise_append.mp p).2.2 x.1 (List.mem_map.mpr ⟨x, z, rfl⟩) g.1 (by simp)) hl
  · rw [List.mem_singleton.mp z]; exact hl
theorem GInv.step {k : Nat} {acc : List Gr} {pre : List Row} {r : Row} (I : GInv k acc pre) (h : ∀ q ∈ pre, lx q r = true) : GInv k (g1 k acc r) (pre ++ [r]) := by
  rcases List.eq_nil_or_concat acc with e | ⟨init, g, e⟩
  · subst e
    have e2 := I.all
    simp only [List.flatMap_nil] at e2
    subst e2
    exact ⟨by simp [g1], by simp [g1], by simp [g1]⟩
  · have e : acc = init ++ [g] := by simpa using e
    have hlast : acc.getLast? = some g := by rw [e]; simp
    unfold g1
    rw [hlast]
    by_cases hg : g.1 = r.take k
    · simp only [hg, if_true]
      have hd : acc.dropLast = init := by rw [e]; simp
      rw [hd]
      refine ⟨?_, fun x hx => ?_, ?_⟩
      · rw [← I.all, e]; simp
      · rcases List.mem_append.mp hx with z | z
        · exact I.ne x (by rw [e]; simp [z])
        · rw [List.mem_singleton.mp z]
          refine ⟨by simp, fun q hq => ?_⟩
          rcases List.mem_append.mp hq with y | y
          · rw [← hg]; exact (I.ne g (by rw [e]; simp)).2 q y
          · rw [List.mem_singleton.mp y]
      · have p := I.asc
        rw [e] at p
        simpa [hg] using p
    · simp only [hg, if_false]
      have L := I.less h e hg
      refine ⟨?_, fun x hx => ?_, ?_⟩
      · rw [List.flatMap_append, I.all]; simp
      · rcases List.mem_append.mp hx with z | z
        · exact I.ne x z
        · rw [List.mem_singleton.mp z]; simp
      · rw [List.map_append]
        refine List.pairwise_append.mpr ⟨I.asc, by simp, fun a ha b hb => ?_⟩
        obtain ⟨x, hx, rfl⟩ := List.mem_map.mp ha
        have : b = r.take k := by simpa using hb
        rw [this]; exact L x hx
theorem grp_inv (k : Nat) : ∀ (post pre : List Row) (acc : List Gr), Asc (pre ++ post) → GInv k acc pre → GInv k (post.foldl (g1 k) acc) (pre ++ post)
  | [], pre, acc, _, I => by simpa using I
  | r :: post, pre, acc, h, I => by
    have hq : ∀ q ∈ pre, lx q r = true := fun q hq => (List.pairwise_append.mp h).2.2 q hq r List.mem_cons_self
    have := grp_inv k post (pre ++ [r]) (g1 k acc r) (by simpa using h) (I.step hq)
    simpa using this
theorem grp_ok {k : Nat} {rs : List Row} (h : Asc rs) : GInv k (grp k rs) rs := by
  have := grp_inv k rs [] [] (by simpa using h) ⟨rfl, by simp, by simp⟩
  simpa [grp] using this
section
variable {k : Nat} {acc : List Gr} {rs : List Row} (I : GInv k acc rs)
include I
theorem GInv.nd : (acc.map (·.1)).Nodup := I.asc.imp fun {a b} h e => by subst e; rw [lx_irr] at h; cases h
theorem GInv.sub {g : Gr} (hg : g ∈ acc) {r : Row} (hr : r ∈ g.2) : r ∈ rs := by rw [← I.all]; exact List.mem_flatMap.mpr ⟨g, hg, hr⟩
theorem GInv.uniq {g g' : Gr} (hg : g ∈ acc) (hg' : g' ∈ acc) (e : g.1 = g'.1) : g = g' := by
  have nd := I.nd
  clear I
  induction acc with
  | nil => cases hg
  | cons a l ih =>
    obtain ⟨n1, n2⟩ := List.nodup_cons.mp nd
    rcases List.mem_cons.mp hg with h1 | h1
    · rcases List.mem_cons.mp hg' with h2 | h2
      · rw [h1, h2]
      · exact (n1 (List.mem_map.mpr ⟨g', h2, by rw [← e, h1]⟩)).elim
    · rcases List.mem_cons.mp hg' with h2 | h2
      · exact (n1 (List.mem_map.mpr ⟨g, h1, by rw [e, h2]⟩)).elim
      · exact ih h1 h2 n2
theorem GInv.mem {g : Gr} (hg : g ∈ acc) {r : Row} (hr : r ∈ rs) : r ∈ g.2 ↔ r.take k = g.1 := by
  refine ⟨(I.ne g hg).2 r, fun e => ?_⟩
  rw [← I.all] at hr
  obtain ⟨g', hg', hr'⟩ := List.mem_flatMap.mp hr
  rw [I.uniq hg hg' (by rw [← e]; exact (I.ne g' hg').2 r hr')]
  exact hr'
theorem GInv.ex {r : Row} (hr : r ∈ rs) : ∃ g ∈ acc, r ∈ g.2 := by
  rw [← I.all] at hr
  obtain ⟨g', hg', hr'⟩ := List.mem_flatMap.mp hr
  exact ⟨g', hg', hr'⟩
theorem GInv.len : acc.length ≤ rs.length := by
  rw [← I.all]
  have h := I.ne
  clear I
  induction acc with
  | nil => simp
  | cons a l ih =>
    have h1 := (h a List.mem_cons_self).1
    have h2 := ih fun g hg => h g (List.mem_cons_of_mem _ hg)
    have : 0 < a.2.length := List.length_pos_iff.mpr h1
    simp only [List.flatMap_cons, List.length_append, List.length_cons]
    omega
theorem GInv.sublist {g : Gr} (hg : g ∈ acc) : g.2.Sublist rs := by
  rw [← I.all]
  obtain ⟨a, b, rfl⟩ := List.append_of_mem hg
  simp only [List.flatMap_append, List.flatMap_cons]
  exact ((List.sublist_append_left g.2 _).trans (List.sublist_append_right _ _))
end
end Mp
set_option maxHeartbeats 1000000
/-! PB: the program's blocks. -/
namespace Mp
open PySem
structure OkT (T : List Tab) : Prop where
  nd : NmD T
  len : T.length ≤ 3
  nm : ∀ t ∈ T, t.n = Str.ofString "r" ∨ t.n = Str.ofString "s" ∨ t.n = Str.ofString "t9"
  k1 : ∀ t ∈ T, 1 ≤ t.k
  kc : ∀ t ∈ T, t.k ≤ t.c
  c3 : ∀ t ∈ T, t.c ≤ 3
  asc : ∀ t ∈ T, Asc t.rs
  rl : ∀ t ∈ T, t.rs.length ≤ 4
  cl : ∀ t ∈ T, ∀ r ∈ t.rs, r.length = t.c
def rowsX (l : List Row) : X := .lst (l.map fun r => X.d (rowD r))
def gdic (acc : List Gr) : List (D × X) := acc.map fun g => (rowD g.1, rowsX g.2)
theorem gdic_key {acc : List Gr} : ∀ p ∈ gdic acc, ∃ q, p.1 = rowD q := fun p hp => by
  obtain ⟨g, _, rfl⟩ := List.mem_map.mp hp
  exact ⟨g.1, rfl⟩
@[simp] theorem okIn_g (q : Row) (acc : List Gr) : okIn (rowD q) (gdic acc) = true := okIn_row q _ gdic_key
theorem look_g (q : Row) : ∀ acc : List Gr, lookD (rowD q) (gdic acc) = (acc.find? fun g => decide (g.1 = q)).map fun g => rowsX g.2
  | [] => rfl
  | g :: acc => by
    show (if PyData.eqv (rowD g.1) (rowD q) then some (rowsX g.2) else lookD (rowD q) (gdic acc)) = _
    rw [eqv_row, List.find?_cons, look_g q acc]
    by_cases h : g.1 = q <;> simp [h]
theorem put_new (q : Row) (v : X) : ∀ acc : List Gr, (∀ g ∈ acc, g.1 ≠ q) → putD (rowD q) v (gdic acc) = gdic acc ++ [(rowD q, v)]
  | [], _ => rfl
  | g :: acc, h => by
    show (if PyData.eqv (rowD g.1) (rowD q) then _ else (rowD g.1, rowsX g.2) :: putD (rowD q) v (gdic acc)) = _
    rw [eqv_row, put_new q v acc fun x hx => h x (List.mem_cons_of_mem _ hx)]
    simp only [h g List.mem_cons_self, decide_false, if_false, Bool.false_eq_true]
    rfl
theorem put_last (v : X) (g : Gr) : ∀ init : List Gr, (∀ x ∈ init, x.1 ≠ g.1) → putD (rowD g.1) v (gdic (init ++ [g])) = gdic init ++ [(rowD g.1, v)]
  | [], _ => by simp [gdic, putD]
  | x :: init, h => by
    show (if PyData.eqv (rowD x.1) (rowD g.1) then _ else (rowD x.1, rowsX x.2) :: putD (rowD g.1) v (gdic (init ++ [g]))) = _
    rw [eqv_row, put_last v g init fun y hy => h y (List.mem_cons_of_mem _ hy)]
    simp only [h x List.mem_cons_self, decide_false, if_false, Bool.false_eq_true]
    rfl
theorem g_step {k : Nat} {acc : List Gr} {pre : List Row} {r : Row} (I : GInv k acc pre) (h : ∀ q ∈ pre, lx q r = true) (hl : pre.length ≤ 4) :
    ∃ old : List Row, sdaAt (some (some (.dic (gdic acc)))) (.d (rowD (r.take k))) = some (rowD (r.take k), gdic acc, old.map fun r => X.d (rowD r)) ∧ old.length < lim ∧ putD (rowD (r.take k)) (.lst ((old.map fun r => X.d (rowD r)) ++ [.d (rowD r)])) (gdic acc) = gdic (g1 k acc r) := by
  have hl1 := I.len
  have hlg : (gdic acc).length < lim := by simp only [gdic, List.length_map, lim]; omega
  rcases List.eq_nil_or_concat acc with e | ⟨init, g, e⟩
  · subst e
    exact ⟨[], by simp [gdic, okIn, lookD, lim], by simp [lim], rfl⟩
  · have e : acc = init ++ [g] := by simpa using e
    have hlast : acc.getLast? = some g := by rw [e]; simp
    have hd : acc.dropLast = init := by rw [e]; simp
    have hgl : g.2.length ≤ pre.length := (I.sublist (by rw [e]; simp)).length_le
    by_cases hg : g.1 = r.take k
    · have hin : ∀ x ∈ init, x.1 ≠ g.1 := fun x hx z => by
        have p := I.asc
        rw [e, List.map_append] at p
        have := (List.pairwise_append.mp p).2.2 x.1 (List.mem_map.mpr ⟨x, hx, rfl⟩) g.1 (by simp)
        rw [z, lx_irr] at this; cases this
      refine ⟨g.2, ?_, by simp only [lim]; omega, ?_⟩
      · simp only [sdaAt, okIn_g, hlg, and_self, if_true, look_g, ← hg]
        rw [e, List.find?_append]
        have : init.find? (fun x => decide (x.1 = g.1)) = none := by
          rw [List.find?_eq_none]
          intro x hx; simp [hin x hx]
        rw [this]
        simp [rowsX]
      · rw [← hg, e, put_last _ g init hin, ← e]
        unfold g1
        rw [hlast]
        simp only [hg, if_true, hd]
        simp [gdic, rowsX]
    · have hn : ∀ x ∈ acc, x.1 ≠ r.take k := fun x hx z => by
        have := I.less h e hg x hx
        rw [z, lx_irr] at this; cases this
      refine ⟨[], ?_, by simp [lim], ?_⟩
      · simp only [sdaAt, okIn_g, hlg, and_self, if_true, look_g]
        have : acc.find? (fun x => decide (x.1 = r.take k)) = none := by
          rw [List.find?_eq_none]
          intro x hx; simp [hn x hx]
        rw [this]
        simp
      · rw [put_new _ _ acc hn]
        unfold g1
        rw [hlast]
        simp only [hg, if_false]
        simp [gdic, rowsX]
section
variable {T : List Tab} {t : Tab} (O : OkT T) (ht : t ∈ T)
include O ht
theorem OkT.g : GInv t.k (grp t.k t.rs) t.rs := grp_ok (O.asc t ht)
theorem c_byk (n : Nat) (hn : 3 ≤ n) : call F G n f_blocks_by_keys [.d (schD T), .d (stoD T), .d (.str t.n)] = .ok (.dic (gdic (grp t.k t.rs))) [] := by
  obtain ⟨m, hm, rfl, e⟩ := ev_at n [.d (schD T), .d (stoD T), .d (.str t.n)] 2 hn F_blocks_by_keys rfl
  rw [e]
  simp [b_blocks_by_keys, doCall, c_keys_in O.nd ht m hm, c_rows_in O.nd ht m (by omega), kFor, forI]
  rw [rowsD]
  simp [-List.map_map]
  rw [List.map_map]
  have key := forL_fold (l := t.rs) (f := X.d ∘ rowD) (body := forT (call F G m) G [5] (.n 5) [(.setdapp 4 (.slice (.p 5) none (some (.v 3))) (.v 5))]) (fun acc : List Gr => [some (.d (schD T)), some (.d (stoD T)), some (.d (.str t.n)), some (.d (.int t.k)), some (.dic (gdic acc)), none]) (g1 t.k) (fun acc pre => GInv t.k acc pre) [] [] ⟨rfl, by simp, by simp⟩ (fun acc pre r post el I => ?_) t.rs rfl
  · rw [show ([] : List (D × X)) = gdic [] from rfl, key.1]
    simp [grp]
  · have hq : ∀ q ∈ pre, lx q r = true := fun q hq => by
      have := O.asc t ht
      rw [el] at this
      exact (List.pairwise_append.mp this).2.2 q hq r List.mem_cons_self
    have hl : pre.length ≤ 4 := by have := O.rl t ht; rw [el] at this; simp at this; omega
    obtain ⟨old, h1, h2, h3⟩ := g_step I hq hl
    refine ⟨?_, I.step hq⟩
    rw [rowD] at h1
    simp [forT, forT0, -sdaAt, rowD, cut_take, h1, h2]
    simp only [rowD, List.map_take] at h1 h3
    simp [-sdaAt, h1, h2, h3]
end
end Mp
set_option maxHeartbeats 1000000
/-! PC: blocks, doubts. -/
namespace Mp
open PySem
theorem c_tupof (n g : Nat) (l : List D) (p : D → Bool) (hn : 1 ≤ n) (h : ∀ m, m + 1 = n → ∀ d ∈ l, call F G m g [.d d] = .ok (.d (.bool (p d))) []) (hl : l.length ≤ lim) : call F G n f_is_tuple_of [.d (.tuple l), .fn g] = .ok (.d (.bool (l.all p))) [] := by
  obtain ⟨m, hm, rfl, e⟩ := ev_at n [.d (.tuple l), .fn g] 0 hn F_is_tuple_of rfl
  rw [e]
  simp [b_is_tuple_of]
  rw [lcL_map (f := X.d) (fun d => .d (.bool (p d))) _ hl]
  · simp [Function.comp_def]
  · intro d hd
    simp [lcT, lcT0, doCall, h m rfl d hd]
theorem c_row (n : Nat) (hn : 5 ≤ n) (r : Row) (hl : r.length ≤ lim) : call F G n f_is_row [.d (rowD r)] = .ok (.d (.bool true)) [] := by
  obtain ⟨m, hm, rfl, e⟩ := ev_at n [.d (rowD r)] 4 hn F_is_row rfl
  rw [e]
  simp [b_is_row, doCall, rowD]
  rw [c_tupof m f_is_value (r.map A5.d) (fun _ => true) (by omega) _ (by simpa using hl)]
  · simp
  · intro m' e d hd
    obtain ⟨a, _, rfl⟩ := List.mem_map.mp hd
    exact c_value m' (by omega) a
theorem dats_lists (l : List Gr) : dats? (l.map fun g => rowsX g.2) = some (l.map fun g => .list (g.2.map rowD)) := by
  induction l with
  | nil => rfl
  | cons g l ih =>
    show ((dat? (rowsX g.2)).bind fun v => (dats? (l.map fun g => rowsX g.2)).map (v :: ·)) = _
    rw [ih]
    simp [rowsX]
@[simp] theorem gkeys (acc : List Gr) : (gdic acc).map (fun p => p.1) = acc.map fun g => rowD g.1 := by simp [gdic, Function.comp_def]
section
variable {T : List Tab} {t : Tab} (O : OkT T) (ht : t ∈ T)
include O ht
theorem OkT.glen : (grp t.k t.rs).length ≤ 4 := Nat.le_trans (O.g ht).len (O.rl t ht)
theorem c_blocks (n : Nat) (hn : 4 ≤ n) : call F G n f_blocks [.d (schD T), .d (stoD T), .d (.str t.n)] = .ok (.d (.tuple ((grp t.k t.rs).map fun g => rowsD g.2))) [] := by
  obtain ⟨m, hm, rfl, e⟩ := ev_at n [.d (schD T), .d (stoD T), .d (.str t.n)] 3 hn F_blocks rfl
  rw [e]
  have hg := O.glen ht
  simp [b_blocks, doCall, c_byk O ht m hm, gdic, Function.comp_def, dats_lists]
  rw [lcL_map (f := fun g : Gr => X.d (.list (g.2.map rowD))) (fun g : Gr => .d (rowsD g.2)) _ (by simp only [lim]; omega)]
  · simp
  · intro g hg
    simp [lcT, lcT0, rowsD]
/-- the block of a key -/
def bw (acc : List Gr) (q : Row) : List Row := match acc.find? fun g => decide (g.1 = q) with
  | some g => g.2
  | none => []
theorem c_with (n : Nat) (hn : 6 ≤ n) (q : Row) (hq : q.length ≤ lim) : call F G n f_block_with [.d (schD T), .d (stoD T), .d (.str t.n), .d (rowD q)] = .ok (.d (rowsD (bw (grp t.k t.rs) q))) [] := by
  obtain ⟨m, hm, rfl, e⟩ := ev_at n [.d (schD T), .d (stoD T), .d (.str t.n), .d (rowD q)] 5 hn F_block_with rfl
  rw [e]
  simp [b_block_with, doCall, c_row m hm q hq, c_byk O ht m (by omega), look_g]
  unfold bw
  cases (grp t.k t.rs).find? (fun g => decide (g.1 = q)) with
  | none => simp [rowsD]
  | some g => simp [rowsD, rowsX]
theorem bw_in {g : Gr} (hg : g ∈ grp t.k t.rs) : bw (grp t.k t.rs) g.1 = g.2 := by
  unfold bw
  cases e : (grp t.k t.rs).find? (fun x => decide (x.1 = g.1)) with
  | none =>
    rw [List.find?_eq_none] at e
    exact absurd (e g hg) (by simp)
  | some x =>
    have h1 := List.mem_of_find?_eq_some e
    have h2 := List.find?_some e
    rw [(O.g ht).uniq h1 hg (of_decide_eq_true h2)]
theorem c_doubt (n : Nat) (hn : 7 ≤ n) {g : Gr} (hg : g ∈ grp t.k t.rs) (hq : g.1.length ≤ lim) : call F G n f_is_doubtful [.d (schD T), .d (stoD T), .d (.str t.n), .d (rowD g.1)] = .ok (.d (.bool (decide (1 < g.2.length)))) [] := by
  obtain ⟨m, hm, rfl, e⟩ := ev_at n [.d (schD T), .d (stoD T), .d (.str t.n), .d (rowD g.1)] 6 hn F_is_doubtful rfl
  rw [e]
  simp [b_is_doubtful, doCall, c_with O ht m hm g.1 hq, bw_in O ht hg, rowsD]
  omega
end
/-- the tables' groups -/
def prs (T : List Tab) : List (Tab × Gr) := T.flatMap fun t => (grp t.k t.rs).map fun g => (t, g)
def pk (p : Tab × Gr) : D := .tuple [.str p.1.n, rowD p.2.1]
theorem mem_prs {T : List Tab} {p : Tab × Gr} : p ∈ prs T ↔ p.1 ∈ T ∧ p.2 ∈ grp p.1.k p.1.rs := by
  unfold prs
  rw [List.mem_flatMap]
  constructor
  · rintro ⟨t, ht, hp⟩
    obtain ⟨g, hg, rfl⟩ := List.mem_map.mp hp
    exact ⟨ht, hg⟩
  · rintro ⟨h1, h2⟩
    exact ⟨p.1, h1, List.mem_map.mpr ⟨p.2, h2, rfl⟩⟩
theorem flat_le {α β : Type} {f : α → List β} {m : Nat} : ∀ {l : List α}, (∀ a ∈ l, (f a).length ≤ m) → (l.flatMap f).length ≤ l.length * m
  | [], _ => by simp
  | a :: l, h => by
    have h1 := h a List.mem_cons_self
    have h2 := flat_le (l := l) fun b hb => h b (List.mem_cons_of_mem _ hb)
    rw [List.flatMap_cons, List.length_append, List.length_cons, Nat.succ_mul]
    omega
section
variable {T : List Tab} (O : OkT T)
include O
theorem OkT.plen : (prs T).length ≤ 12 := by
  have h := flat_le (f := fun t : Tab => (grp t.k t.rs).map fun g => (t, g)) (m := 4) (l := T) fun t ht => by rw [List.length_map]; exact O.glen ht
  have := O.len
  show (List.flatMap _ T).length ≤ 12
  omega
theorem OkT.row3 {t : Tab} (ht : t ∈ T) {r : Row} (hr : r ∈ t.rs) : r.length ≤ 3 := by rw [O.cl t ht r hr]; exact O.c3 t ht
theorem OkT.key3 {t : Tab} (ht : t ∈ T) {g : Gr} (hg : g ∈ grp t.k t.rs) : g.1.length ≤ 3 := by
  obtain ⟨n1, n2⟩ := (O.g ht).ne g hg
  obtain ⟨q, hq⟩ := List.exists_mem_of_ne_nil _ n1
  have := O.row3 ht ((O.g ht).sub hg hq)
  rw [← n2 q hq, List.length_take]; omega
theorem c_every (n : Nat) (hn : 4 ≤ n) : call F G n f_all_blocks [.d (schD T), .d (stoD T)] = .ok (.d (.tuple ((prs T).map pk))) [] := by
  obtain ⟨m, hm, rfl, e⟩ := ev_at n [.d (schD T), .d (stoD T)] 3 hn F_all_blocks rfl
  rw [e]
  have h3 := O.len
  simp [b_all_blocks, doCall, c_names m (by omega) T (by simp only [lim]; omega), -List.map_map]
  have hp := O.plen
  rw [List.map_map, lcL2_flat (f := X.d ∘ fun t : Tab => .str t.n) (fun t : Tab => (grp t.k t.rs).map fun g => X.d (pk (t, g))) [] _ _]
  · have e3 : (T.flatMap fun t => (grp t.k t.rs).map fun g => X.d (pk (t, g))) = ((prs T).map pk).map X.d := by simp [prs, List.map_flatMap, Function.comp_def]
    rw [e3]
    simp [-List.map_map]
  · intro t acc ht hl
    simp [lc2T, lc2T0, doCall, c_byk O ht m hm, -List.map_map]
    rw [List.map_map, lcL_filterMap (f := X.d ∘ fun g : Gr => rowD g.1) (fun g : Gr => some (X.d (pk (t, g)))) acc _ (by simpa using hl)]
    · simp
    · intro g hg
      simp [lcT, lcT0, pk, lim]
  · have : (prs T).length = (T.flatMap fun t => (grp t.k t.rs).map fun g => X.d (pk (t, g))).length := by simp [prs, List.length_flatMap]
    simp only [lim, List.length_nil]; omega
theorem c_doubtful (n : Nat) (hn : 8 ≤ n) : call F G n f_doubtful [.d (schD T), .d (stoD T)] = .ok (.d (.tuple (((prs T).filter fun p => decide (1 < p.2.2.length)).map pk))) [] := by
  obtain ⟨m, hm, rfl, e⟩ := ev_at n [.d (schD T), .d (stoD T)] 7 hn F_doubtful rfl
  rw [e]
  have hp := O.plen
  simp [b_doubtful, doCall, c_every O m (by omega), -List.map_map]
  rw [List.map_map, lcL_filter (f := X.d ∘ pk) (fun p : Tab × Gr => decide (1 < p.2.2.length)) (fun p => X.d (pk p)) _ (by simp only [lim]; omega)]
  · simp [Function.comp_def]
  · intro p hp
    obtain ⟨h1, h2⟩ := mem_prs.mp hp
    have h3 := O.key3 h1 h2
    have e := c_doubt O h1 m hm h2 (by simp only [lim]; omega)
    simp [lcT, lcT0, pk, doCall, e]
    split <;> simp [lim]
theorem c_settled (n : Nat) (hn : 9 ≤ n) : call F G n f_is_settled [.d (schD T), .d (stoD T)] = .ok (.d (.bool (decide (((prs T).filter fun p => decide (1 < p.2.2.length)) = [])))) [] := by
  obtain ⟨m, hm, rfl, e⟩ := ev_at n [.d (schD T), .d (stoD T)] 8 hn F_is_settled rfl
  rw [e]
  simp [b_is_settled, doCall, c_doubtful O m hm]
  cases (prs T).filter fun p => decide (1 < p.2.2.length) with
  | nil => simp
  | cons a l => simp
end
end Mp
set_option maxHeartbeats 1000000
/-! PD: stores cut, stores checked. -/
namespace Mp
open PySem
/-- the program's keys of values -/
def pkey (a : A5) : D := match a with
  | .sa | .sb => .tuple [.int 1, .int 0, a.d]
  | _ => .tuple [.int 0, a.d, .str (Str.ofString "")]
theorem KeyOf.pkey : KeyOf pkey where
  eq := fun a b => by cases a <;> cases b <;> simp [Mp.pkey, A5.d] <;> decide +kernel
  lt := fun a b h => by
    cases a <;> cases b <;> first | exact absurd rfl h | (with_unfolding_all rfl)
  pl := fun a => by cases a <;> rfl
  dp := fun a => by cases a <;> simp [Mp.pkey, A5.d, PyData.depth, PyData.depthAll]
theorem c_vkey (n : Nat) (hn : 1 ≤ n) (a : A5) : call F G n f_value_key [.d a.d] = .ok (.d (pkey a)) [] := by
  obtain ⟨m, rfl⟩ : ∃ m, n = m + 1 := ⟨n - 1, by omega⟩
  cases a <;> with_unfolding_all rfl
theorem c_rkey (n : Nat) (hn : 2 ≤ n) (r : Row) (hl : r.length ≤ lim) : call F G n f_row_key [.d (rowD r)] = .ok (.d (keyD pkey r)) [] := by
  obtain ⟨m, hm, rfl, e⟩ := ev_at n [.d (rowD r)] 1 hn F_row_key rfl
  rw [e]
  simp [b_row_key, rowD, Function.comp_def]
  rw [lcL_map (f := fun a : A5 => X.d a.d) (fun a => .d (pkey a)) _ hl]
  · simp [keyD]
  · intro a ha
    simp [lcT, lcT0, doCall, c_vkey m hm a]
def addk (acc : List Row) (q : Row) : List Row := if q ∈ acc then acc else acc ++ [q]
def kdic (acc : List Row) : List (D × X) := acc.map fun q => (rowD q, X.d (.bool true))
@[simp] theorem okIn_k (q : Row) (acc : List Row) : okIn (rowD q) (kdic acc) = true := okIn_row q _ fun p hp => by
  obtain ⟨g, _, rfl⟩ := List.mem_map.mp hp
  exact ⟨g, rfl⟩
theorem put_k (q : Row) : ∀ acc : List Row, putD (rowD q) (X.d (.bool true)) (kdic acc) = kdic (addk acc q)
  | [] => by simp [kdic, addk, putD]
  | x :: acc => by
    show (if PyData.eqv (rowD x) (rowD q) then _ else (rowD x, X.d (.bool true)) :: putD (rowD q) (X.d (.bool true)) (kdic acc)) = _
    rw [eqv_row, put_k q acc]
    by_cases h : x = q
    · subst h
      simp [addk, kdic]
    · have h' : ¬ q = x := fun e => h e.symm
      by_cases h2 : q ∈ acc <;> simp [addk, kdic, h, h', h2]
@[simp] theorem look_k (q : Row) : ∀ acc : List Row, (lookD (rowD q) (kdic acc)).isSome = decide (q ∈ acc)
  | [] => rfl
  | x :: acc => by
    show (if PyData.eqv (rowD x) (rowD q) then some (X.d (.bool true)) else lookD (rowD q) (kdic acc)).isSome = _
    rw [eqv_row]
    by_cases h : x = q
    · subst h; simp
    · have h' : ¬ q = x := fun e => h e.symm
      simp [h, h', look_k q acc]
theorem addk_len (acc : List Row) (q : Row) : (addk acc q).length ≤ acc.length + 1 := by unfold addk; split <;> simp
theorem dc_run {turn : X → S → R S (Option (D × X))} {s : S} {β : Type} (f : β → D) (κ : β → Row) : ∀ (l : List β) (acc : List Row), (∀ r ∈ l, turn (.d (f r)) s = .ok (some (rowD (κ r), .d (.bool true))) s) → acc.length + l.length ≤ lim →
    dcL turn (l.map fun r => X.d (f r)) (kdic acc) s = .ok (kdic ((l.map κ).foldl addk acc)) s
  | [], acc, _, _ => rfl
  | r :: l, acc, h, hl => by
    show dcL turn (X.d (f r) :: l.map fun r => X.d (f r)) (kdic acc) s = _
    unfold dcL
    rw [h r List.mem_cons_self]
    simp only [calm_ok, bind_ok, okIn_k, true_and, List.length_cons] at hl ⊢
    have hk : (kdic acc).length < lim := by simp only [kdic, List.length_map]; omega
    rw [if_pos hk, put_k, dc_run f κ l (addk acc (κ r)) (fun q hq => h q (List.mem_cons_of_mem _ hq)) (by have := addk_len acc (κ r); omega)]
    rfl
/-- the keys told, each once -/
def kd (l : List Row) : List Row := l.foldl addk []
theorem kd_nd : ∀ (l acc : List Row), (acc ++ l).Nodup → l.foldl addk acc = acc ++ l
  | [], acc, _ => by simp
  | q :: l, acc, h => by
    have hq : q ∉ acc := fun z => (List.nodup_append.mp h).2.2 q z q List.mem_cons_self rfl
    rw [List.foldl_cons, show addk acc q = acc ++ [q] from if_neg hq, kd_nd l (acc ++ [q]) (by simpa using h)]
    simp
theorem kd_one : ∀ (l : List Row) (q : Row), (∀ r ∈ l, r = q) → l.foldl addk [q] = [q]
  | [], _, _ => rfl
  | r :: l, q, h => by
    rw [List.foldl_cons, h r List.mem_cons_self, show addk [q] q = [q] from if_pos (by simp)]
    exact kd_one l q fun x hx => h x (List.mem_cons_of_mem _ hx)
theorem c_ascending (n : Nat) (hn : 3 ≤ n) (l : List Row) (h : Asc l) (h3 : ∀ r ∈ l, r ≠ [] ∧ r.length ≤ 3) (hl : l.length ≤ 4) : call F G n f_ascending [.d (.list (l.map rowD))] = .ok (.d (rowsD l)) [] := by
  obtain ⟨m, hm, rfl, e⟩ := ev_at n [.d (.list (l.map rowD))] 2 hn F_ascending rfl
  rw [e]
  simp [b_ascending, Function.comp_def]
  rw [show ([] : List (D × X)) = kdic [] from rfl, dc_run rowD id l [] (fun r hr => ?_) (by simp only [List.length_nil, lim]; omega)]
  · rw [List.map_id, kd_nd l [] (by simpa using h.nodup)]
    simp [kdic, Function.comp_def]
    rw [keyC_map rowD (keyD pkey) (fun r hr => ⟨_, _, c_rkey m hm r (by have := (h3 r hr).2; simp only [lim]; omega), rfl⟩)]
    simp only [Option.bind_some]
    rw [sorted_rows KeyOf.pkey rowD l fun r hr => (h3 r hr).1, isort_self h]
    simp [rowsD]
  · simp [dcT, dcT0]
end Mp
set_option maxHeartbeats 1000000
/-! PE: cut_to, checked_store. -/
namespace Mp
open PySem
/-- a table's rows put otherwise -/
def cutT (T : List Tab) (x : Str) (rs : List Row) : List Tab := T.map fun u => if u.n == x then { u with rs := rs } else u
theorem c_withrows (n : Nat) (hn : 1 ≤ n) (T : List Tab) (hl : T.length ≤ lim) (x : Str) (rs : List Row) : call F G n f_with_rows [.d (stoD T), .d (.str x), .d (rowsD rs)] = .ok (.d (stoD (cutT T x rs))) [] := by
  obtain ⟨m, hm, rfl, e⟩ := ev_at n [.d (stoD T), .d (.str x), .d (rowsD rs)] 0 hn F_with_rows rfl
  rw [e]
  simp [b_with_rows, stoD, Function.comp_def]
  rw [lcL_map (f := fun t : Tab => X.d (stoE t)) (fun u : Tab => .d (stoE (if u.n == x then { u with rs := rs } else u))) _ hl]
  · simp [cutT, Function.comp_def]
  · intro u hu
    simp [lcT, lcT0, stoE]
    split <;> simp [lim, stoE]
@[simp] theorem kdic_len (ks : List Row) : (kdic ks).length = ks.length := by simp [kdic]
theorem all_mem (rs rows : List Row) : (rows.map fun r => decide (r ∈ rs)).all id = decide (∀ r ∈ rows, r ∈ rs) := by
  rw [List.all_map]
  by_cases h : ∀ r ∈ rows, r ∈ rs
  · rw [decide_eq_true h, List.all_eq_true]; intro r hr; exact decide_eq_true (h r hr)
  · rw [decide_eq_false h, List.all_eq_false]
    simp only [Classical.not_forall] at h
    obtain ⟨r, hr, hn⟩ := h
    exact ⟨r, hr, by simpa using hn⟩
theorem has_mem (r : Row) (l : List Row) : inSeq (rowD r) (l.map rowD) = some (decide (r ∈ l)) := by simp [has_row]
section
variable {T : List Tab} {t : Tab} (O : OkT T) (ht : t ∈ T)
include O ht
theorem OkT.rne {r : Row} (hr : r ∈ t.rs) : r ≠ [] := fun e => by
  have h1 := O.cl t ht r hr
  have h2 := O.k1 t ht
  have h3 := O.kc t ht
  rw [e] at h1; simp at h1; omega
theorem c_cut (n : Nat) (hn : 6 ≤ n) (rows : List Row) (hr : rows.length ≤ 12) (hc : ∀ r ∈ rows, r.length ≤ 3) : call F G n f_cut_to [.d (schD T), .d (stoD T), .d (.str t.n), .d (rowsD rows)] =
    if rows = [] ∨ ¬ (∀ r ∈ rows, r ∈ t.rs) ∨ (kd (rows.map fun r => r.take t.k)).length ≠ 1 then .exc ⟨c_Nothing, []⟩ [] else
      .ok (.d (stoD (cutT T t.n (t.rs.filter fun r => decide (r ∈ rows) || !decide (r.take t.k ∈ kd (rows.map fun r => r.take t.k)))))) [] := by
  obtain ⟨m, hm, rfl, e⟩ := ev_at n [.d (schD T), .d (stoD T), .d (.str t.n), .d (rowsD rows)] 5 hn F_cut_to rfl
  rw [e]
  have h4 := O.rl t ht
  simp [b_cut_to, doCall, c_rows_in O.nd ht m (by omega), rowsD, Function.comp_def]
  by_cases h0 : rows = []
  · subst h0; simp
  have h0' : rows.isEmpty = false := by cases rows <;> simp_all
  have hz : PyData.eqvAll (rows.map rowD) [] = false := by cases rows <;> simp_all
  simp only [hz, h0, false_or, Bool.false_eq_true, if_false, Bool.not_false, if_true]
  rw [lcL_map (f := fun r : Row => X.d (rowD r)) (fun r => .d (.bool (decide (r ∈ t.rs)))) _ (by simp only [lim]; omega)]
  rotate_left
  · intro r hr
    simp [lcT, lcT0, doCall, c_row m (by omega) r (by have := hc r hr; simp only [lim]; omega), has_row, -inSeq, has_mem]
  simp [all_mem, -List.all_map, -List.map_map]
  by_cases h1 : ∃ x, x ∈ rows ∧ ¬x ∈ t.rs
  · simp [h1]
  simp only [h1, if_false, false_or]
  simp [Function.comp_def]
  rw [show ([] : List (D × X)) = kdic [] from rfl, dc_run rowD (fun r => r.take t.k) rows [] (fun r hr => ?_) (by simp only [List.length_nil, lim]; omega)]
  rotate_left
  · simp [dcT, dcT0, doCall, c_key_in O.nd ht m (by omega)]
  rw [show (rows.map fun r => r.take t.k).foldl addk [] = kd (rows.map fun r => r.take t.k) from rfl]
  generalize kd (rows.map fun r => r.take t.k) = ks
  by_cases h2 : ks.length = 1
  · simp [h2, Function.comp_def]
    rw [lcL_filter (f := fun r : Row => X.d (rowD r)) (fun r => decide (r ∈ rows) || !decide (r.take t.k ∈ ks)) (fun r => X.d (rowD r)) (fun r hr => ?_) (by simp only [lim]; omega)]
    rotate_left
    · simp [lcT, lcT0, doCall, c_key_in O.nd ht m (by omega), has_row]
      by_cases h3 : r ∈ rows
      · simp [h3]
      · by_cases h4 : r.take t.k ∈ ks <;> simp [h3, h4]
    have e1 := c_ascending m (by omega) (t.rs.filter fun r => decide (r ∈ rows) || !decide (r.take t.k ∈ ks)) ((O.asc t ht).filter _) (fun r hr => ⟨O.rne ht (List.mem_filter.mp hr).1, O.row3 ht (List.mem_filter.mp hr).1⟩) (Nat.le_trans (List.length_filter_le _ _) h4)
    generalize (t.rs.filter fun r => decide (r ∈ rows) || !decide (r.take t.k ∈ ks)) = left at e1
    have h5 := O.len
    simp [doCall, e1, c_withrows m (by omega) T (by simp only [lim]; omega)]
  · have h2' : ¬ ((ks.length : Int) = 1) := by omega
    simp [h2']
    exact h2
end
end Mp
set_option maxHeartbeats 1000000
/-! PF: stores checked. -/
namespace Mp
open PySem
@[simp] theorem deep_key (r : Row) (d : D) : deep (keyD pkey r) d = true := by
  have := key_depth KeyOf.pkey r
  simp only [deep, keyD, PyData.depth, decide_eq_true_eq]; omega
theorem zip_pairs {α : Type} (K : α → D) : ∀ (l m : List α), pairs2 (l.map K) (m.map K) = (l.zip m).map fun p => .tuple [K p.1, K p.2]
  | [], m => by simp [pairs2]
  | _ :: _, [] => by simp [pairs2]
  | a :: l, b :: m => by simp [pairs2, zip_pairs K l m]
theorem tlm {α β : Type} (f : α → β) (l : List α) : (l.map f).tail = l.tail.map f := by cases l <;> rfl
theorem cut_drop {α : Type} (l : List α) : cut l (some 1) none = l.tail := by
  unfold cut sIx
  cases l with
  | nil => simp
  | cons a r => simp
theorem asc_zip : ∀ (l : List Row), Asc l → ∀ p ∈ l.zip l.tail, lx p.1 p.2 = true
  | [], _, p, h => by simp at h
  | [a], _, p, h => by simp at h
  | a :: b :: r, hA, p, h => by
    obtain ⟨h1, h2⟩ := List.pairwise_cons.mp hA
    have h : p ∈ (a, b) :: (b :: r).zip (b :: r).tail := h
    rcases List.mem_cons.mp h with rfl | h
    · exact h1 b List.mem_cons_self
    · exact asc_zip (b :: r) h2 p h
theorem c_rising (n : Nat) (hn : 1 ≤ n) (l : List Row) (h : Asc l) (hl : l.length ≤ 4) : call F G n f_are_rising [.lst (l.map fun r => X.d (keyD pkey r))] = .ok (.d (.bool true)) [] := by
  obtain ⟨m, hm, rfl, e⟩ := ev_at n [.lst (l.map fun r => X.d (keyD pkey r))] 0 hn F_are_rising rfl
  rw [e]
  have hz : (l.zip l.tail).length ≤ 4 := by rw [List.length_zip]; omega
  simp [b_are_rising, cut_drop, tlm, zip_pairs, Function.comp_def, -List.map_tail]
  rw [lcL_map (f := fun p : Row × Row => X.d (.tuple [keyD pkey p.1, keyD pkey p.2])) (fun p => .d (.bool (lx p.1 p.2))) (fun p hp => ?_) (by simp only [lim]; omega)]
  rotate_left
  · simp [lcT, lcT0, key_lt KeyOf.pkey]
  have hb : ((l.zip l.tail).map fun p => lx p.1 p.2).all id = true := by
    rw [List.all_eq_true]
    intro b hb
    obtain ⟨p, hp, rfl⟩ := List.mem_map.mp hb
    exact asc_zip l h p hp
  simp [hb, -List.all_map]
theorem numb_map {α : Type} (K : α → D) : ∀ (l : List α) (n : Nat), numbered n (l.map K) = (l.zipIdx n).map fun p => .tuple [.int p.2, K p.1]
  | [], n => by simp [numbered]
  | a :: l, n => by simp [numbered, numb_map K l (n + 1)]
section
variable {T : List Tab} {t : Tab} (O : OkT T) (ht : t ∈ T)
include O ht
theorem c_checkrows (n : Nat) (hn : 4 ≤ n) : call F G n f_check_rows [.d (schD T), .d (.str t.n), .d (rowsD t.rs)] = .ok (.d .none) [] := by
  obtain ⟨m, hm, rfl, e⟩ := ev_at n [.d (schD T), .d (.str t.n), .d (rowsD t.rs)] 3 hn F_check_rows rfl
  rw [e]
  have h4 := O.rl t ht
  have h4' : ¬ (200 : Int) < t.rs.length := by omega
  simp [b_check_rows, rowsD, kFor, forI, numb_map, Function.comp_def, G_MOST_ROWS, h4']
  obtain ⟨t', e1, y, e2⟩ := forL_rel (l := t.rs.zipIdx) (f := fun x : Row × Nat => X.d (.tuple [.int x.2, rowD x.1])) (body := forT (call F G m) G [3] (.t [.n 3, .n 4]) [.if_ (.tr (.b .ne (.u .len (.p 4)) (.call f_columns_of [.v 0, .v 1]))) [.ex (.star (.k .none))] []]) (fun _ u => ∃ y : Option X, u = [some (.d (schD T)), some (.d (.str t.n)), some (.d (.tuple (t.rs.map rowD))), none, y]) [] (fun pre p post u el hu => by
    obtain ⟨y, rfl⟩ := hu
    have hp : p ∈ t.rs.zipIdx := by rw [el]; simp
    have hr : p.1 ∈ t.rs := by
      obtain ⟨a, b⟩ := p
      have := List.mem_zipIdx hp
      simp at this
      rw [this.2]; exact List.getElem_mem _
    have hc := O.cl t ht p.1 hr
    simp [forT, forT0, doCall, c_columns_in O.nd ht m (by omega), rowD, hc]) t.rs.zipIdx _ rfl ⟨none, rfl⟩
  subst e2
  rw [e1]
  simp [doCall, Function.comp_def]
  rw [lcL_map (f := fun r : Row => X.d (rowD r)) (fun r => .d (keyD pkey r)) (fun r hr => ?_) (by simp only [lim]; omega)]
  rotate_left
  · simp [lcT, lcT0, doCall, c_rkey m (by omega) r (by have := O.row3 ht hr; simp only [lim]; omega)]
  simp [doCall, c_rising m (by omega) t.rs (O.asc t ht) h4]
end
theorem c_name (n : Nat) (hn : 1 ≤ n) (x : Str) (h : x = Str.ofString "r" ∨ x = Str.ofString "s" ∨ x = Str.ofString "t9") : call F G n f_is_name [.d (.str x)] = .ok (.d (.bool true)) [] := by
  obtain ⟨m, rfl⟩ : ∃ m, n = m + 1 := ⟨n - 1, by omega⟩
  rcases h with rfl | rfl | rfl <;> with_unfolding_all rfl
theorem c_sized (n : Nat) (hn : 1 ≤ n) (l : List D) (k : Nat) (hk : k = l.length) : call F G n f_is_sized [.d (.tuple l), .d (.int k)] = .ok (.d (.bool true)) [] := by
  obtain ⟨m, hm, rfl, e⟩ := ev_at n [.d (.tuple l), .d (.int k)] 0 hn F_is_sized rfl
  rw [e]
  simp [b_is_sized, hk]
@[simp] theorem eqvs_strs : ∀ T : List Tab, PyData.eqvAll (T.map fun t => .str t.n) (T.map fun t => .str t.n) = true
  | [] => by simp
  | t :: T => by simp [eqvs_strs T]
theorem dp_strs (T : List Tab) : PyData.depthAll (T.map fun t : Tab => .str t.n) ≤ 0 := dp_map (K := fun t : Tab => .str t.n) (m := 0) (fun t => by simp [PyData.depth]) T
section
variable {T : List Tab} (O : OkT T)
include O
theorem c_rowsform (n : Nat) (hn : 7 ≤ n) {t : Tab} (ht : t ∈ T) : call F G n f_is_rows_form [.d (stoE t)] = .ok (.d (.bool true)) [] := by
  obtain ⟨m, hm, rfl, e⟩ := ev_at n [.d (stoE t)] 6 hn F_is_rows_form rfl
  rw [e]
  have h4 := O.rl t ht
  have e1 : call F G m f_is_sized [.d (.tuple [.str t.n, rowsD t.rs]), .d (.int 2)] = .ok (.d (.bool true)) [] := c_sized m (by omega) [.str t.n, rowsD t.rs] 2 rfl
  have e2 := c_name m (by omega) t.n (O.nm t ht)
  have e3 := c_tupof m f_is_row (t.rs.map rowD) (fun _ => true) (by omega) (fun k hk d hd => by
    obtain ⟨r, hr, rfl⟩ := List.mem_map.mp hd
    exact c_row k (by omega) r (by have := O.row3 ht hr; simp only [lim]; omega)) (by simp only [List.length_map, lim]; omega)
  rw [← rowsD] at e3
  simp [b_is_rows_form, stoE, doCall, e1, e2, e3, ixOf]
theorem c_checked (n : Nat) (hn : 10 ≤ n) : call F G n f_checked_store [.d (schD T), .d (stoD T)] = .ok (.d (stoD T)) [] := by
  obtain ⟨m, hm, rfl, e⟩ := ev_at n [.d (schD T), .d (stoD T)] 9 hn F_checked_store rfl
  rw [e]
  have h3 := O.len
  have e1 : call F G m f_is_store_form [.d (stoD T)] = .ok (.d (.bool true)) [] := by
    obtain ⟨m, hm, rfl, e⟩ := ev_at m [.d (stoD T)] 8 hm F_is_store_form rfl
    rw [e]
    have e3 := c_tupof m f_is_rows_form (T.map stoE) (fun _ => true) (by omega) (fun k hk d hd => by
      obtain ⟨t, ht, rfl⟩ := List.mem_map.mp hd
      exact c_rowsform O k (by omega) ht) (by simp only [List.length_map, lim]; omega)
    rw [← stoD] at e3
    simp [b_is_store_form, doCall, e3]
  have e2 := c_names m (by omega) T (by simp only [lim]; omega)
  simp [b_checked_store, doCall, e1]
  rw [show X.d (stoD T) = .d (.tuple (T.map stoE)) from rfl]
  simp [Function.comp_def]
  rw [lcL_map (f := fun t : Tab => X.d (stoE t)) (fun t => .d (.str t.n)) (fun t ht => ?_) (by simp only [lim]; omega)]
  rotate_left
  · simp [lcT, lcT0, stoE]
  have hd : deep (.tuple (T.map fun t => .str t.n)) (.tuple (T.map fun t => .str t.n)) = true := by
    have := dp_strs T
    simp only [deep, PyData.depth]
    exact decide_eq_true (by omega)
  simp [doCall, e2, hd, kFor, forI, Function.comp_def]
  rw [forL_fold0 (l := T) (f := fun t : Tab => X.d (stoE t)) (fun _ : Unit => [some (.d (schD T)), some (.d (.tuple (T.map stoE))), none, none]) (fun _ _ => ()) () (fun _ t ht => ?_)]
  rotate_left
  · simp [forT, forT0, stoE, doCall, c_checkrows O ht m (by omega)]
  simp
end
end Mp
set_option maxHeartbeats 1000000
/-! PT: the law's draws. -/
namespace Mp
open PySem
def bagX (a s c : Int) (l : List Int) : X := .lst [.d (.int a), .d (.int s), .d (.int c), .d (.list (l.map .int))]
def Bag (b : X) : Prop := ∃ (a s c : Int) (l : List Int), l.length ≤ 63 ∧ b = bagX a s c l
theorem cut_len {α : Type} (l : List α) (lo hi : Option Int) : (cut l lo hi).length ≤ l.length := by
  unfold cut
  rw [List.length_take, List.length_drop]; omega
theorem cut_map {α β : Type} (f : α → β) (l : List α) (lo hi : Option Int) : cut (l.map f) lo hi = (cut l lo hi).map f := by
  unfold cut
  rw [List.length_map, ← List.map_drop, ← List.map_take]
theorem bnd (x : Int) : (x % 1000000007).natAbs < 18446744073709551616 := by omega
section
variable {k : Int} (h0 : 0 < k) (h1 : k < 1073741824)
include h0 h1
/-- behind the first part of a draw -/
theorem take_tail (m : Nat) (a s c : Int) (l : List Int) (hl : l.length ≤ 63) (x2 x3 : Option X) : ∃ v b', outOf [0] (exs (call F G m) G (b__law_take.body.drop 1) [some (bagX a s c l), some (.d (.int k)), x2, x3, none, none, none]) = .ok (.d (.int v)) [b'] ∧ Bag b' ∧ 0 ≤ v ∧ v < k := by
  have md : ∀ x : Int, 0 ≤ x % k ∧ x % k < k := fun x => ⟨Int.emod_nonneg _ (by omega), Int.emod_lt_of_pos _ h0⟩
  by_cases ha : 0 < a
  · exact ⟨a % k, bagX (a / k) s c l, by simp [b__law_take, bagX, ixOf, ha, h0, h1], ⟨_, _, _, l, hl, rfl⟩, md _⟩
  · exact ⟨(((s + 1) * 39373 % 1000000007 * ((s + 1) * 39373 % 1000000007) % 998244353 * 30011) % 998244353 / 7) % k, bagX a s c l, by simp [b__law_take, bagX, ixOf, ha, mulOk, h0, h1, bnd], ⟨_, _, _, l, hl, rfl⟩, md _⟩
theorem c_take (n : Nat) (hn : 1 ≤ n) {b : X} (hb : Bag b) : ∃ v b', call F G n f__law_take [b, .d (.int k)] = .ok (.d (.int v)) [b'] ∧ Bag b' ∧ 0 ≤ v ∧ v < k := by
  obtain ⟨a, s, c, l, hl, rfl⟩ := hb
  obtain ⟨m, hm, rfl, e⟩ := ev_at n [bagX a s c l, .d (.int k)] 0 hn F__law_take rfl
  rw [e]
  have hcl := cut_len l (some c) none
  have main : ∃ a' s' c' x2 x3, exs (call F G m) G b__law_take.body [some (bagX a s c l), some (.d (.int k)), none, none, none, none, none] = exs (call F G m) G (b__law_take.body.drop 1) [some (bagX a' s' c' l), some (.d (.int k)), x2, x3, none, none, none] := by
    by_cases ha : a = 0
    · subst ha
      have hd : datas (List.map (X.d ∘ PyData.int) (cut l (some c) none)) = some ((cut l (some c) none).map .int) := by rw [← List.map_map, datas_d]
      have hz : ∃ z r, List.map (X.d ∘ PyData.int) (cut l (some c) none) ++ [X.d (.int 0)] = X.d (.int z) :: r := by
        cases cut l (some c) none with
        | nil => exact ⟨0, [], rfl⟩
        | cons z r => exact ⟨z, _, rfl⟩
      obtain ⟨z, r, hz⟩ := hz
      have hle : (cut l (some c) none).length ≤ 16777215 := by omega
      by_cases hb : (10 : Int) ^ 18 ≤ z
      · have hb' : (1000000000000000000 : Int) ≤ z := by simpa using hb
        refine ⟨z, (s * 48271 + z % 2147483647 + 7919 * (c + 1)) % 2147483647, c + 1, some (.d (.int z)), some (.d (.int (s * 48271 + z % 2147483647 + 7919 * (c + 1)))), ?_⟩
        unfold b__law_take
        rw [exs_cons]
        simp [bagX, ixOf, cut_map, lim, hd, hle, hz, mulOk, hb']
      · have hb' : ¬ (1000000000000000000 : Int) ≤ z := by simpa using hb
        refine ⟨0, (s * 48271 + z % 2147483647 + 7919 * (c + 1)) % 2147483647, c + 1, some (.d (.int z)), some (.d (.int (s * 48271 + z % 2147483647 + 7919 * (c + 1)))), ?_⟩
        unfold b__law_take
        rw [exs_cons]
        simp [bagX, ixOf, cut_map, lim, hd, hle, hz, mulOk, hb']
    · refine ⟨a, s, c, none, none, ?_⟩
      unfold b__law_take
      rw [exs_cons]
      simp [bagX, ixOf, ha]
  obtain ⟨a', s', c', x2, x3, e1⟩ := main
  obtain ⟨v, b', e2, h2, h3⟩ := take_tail h0 h1 m a' s' c' l hl x2 x3
  refine ⟨v, b', ?_, h2, h3⟩
  show outOf b__law_take.mu (exs (call F G m) G b__law_take.body [some (bagX a s c l), some (.d (.int k)), none, none, none, none, none]) = _
  rw [e1]
  exact e2
end
end Mp
set_option maxHeartbeats 1000000
/-! PU: the law's schemes. -/
namespace Mp
open PySem
theorem ins_perm {α : Type} {lt : α → α → Bool} (x : α) : ∀ l : List α, (ins lt x l).Perm (x :: l)
  | [] => .refl _
  | y :: r => by
    unfold ins
    split
    · exact ((ins_perm x r).cons y).trans (.swap x y r)
    · exact .refl _
theorem isort_perm {α : Type} {lt : α → α → Bool} : ∀ l : List α, (isort lt l).Perm l
  | [] => .refl _
  | x :: r => (ins_perm x _).trans ((isort_perm r).cons x)
theorem c_some (n : Nat) (hn : 2 ≤ n) {b : X} (hb : Bag b) (ds : List D) (h0 : ds ≠ []) (hl : ds.length < 1000) : ∃ d b', call F G n f__law_some [b, .lst (ds.map X.d)] = .ok (.d d) [b'] ∧ Bag b' ∧ d ∈ ds := by
  obtain ⟨m, hm, rfl, e⟩ := ev_at n [b, .lst (ds.map X.d)] 1 hn F__law_some rfl
  have hp : 0 < ds.length := List.length_pos_iff.mpr h0
  obtain ⟨v, b', e1, h1, h2, h3⟩ := c_take (k := ds.length) (by omega) (by omega) m hm hb
  obtain ⟨i, rfl⟩ : ∃ i : Nat, v = i := ⟨v.toNat, by omega⟩
  have hi : i < ds.length := by omega
  refine ⟨ds[i], b', ?_, h1, List.getElem_mem _⟩
  rw [e]
  simp [b__law_some, doCall, e1, ixOf, hi]
theorem c_mixed {β : Type} (g : β → D) (n : Nat) (hn : 2 ≤ n) {b : X} (hb : Bag b) (l : List β) (hl : l.length < 1000) : ∃ (fs : List β) (b' : X), call F G n f__law_mixed [b, .lst (l.map fun x => X.d (g x))] = .ok (.lst (fs.map fun x => X.d (g x))) [b'] ∧ Bag b' ∧ fs.Perm l := by
  obtain ⟨m, hm, rfl, e⟩ := ev_at n [b, .lst (l.map fun x => X.d (g x))] 1 hn F__law_mixed rfl
  obtain ⟨t', e1, b', fs, h1, h2, rfl⟩ := forL_rel (l := l) (f := fun x => X.d (g x)) (body := forT (call F G m) G [3] (.n 3) [.ins 2 (.call f__law_take [.mu 0, .b .add (.u .len (.p 2)) (.k (.int 1))]) (.v 3)])
    (fun pre t => ∃ (b' : X) (fs : List β), Bag b' ∧ fs.Perm pre ∧ t = [some b', some (.d (.list (l.map g))), some (.lst (fs.map fun x => X.d (g x))), none]) [] (fun pre d post t el ht => by
      obtain ⟨b', fs, h1, h2, rfl⟩ := ht
      have hlen := h2.length_eq
      have hle : fs.length < 1000 := by
        have : l.length = pre.length + (post.length + 1) := by rw [el]; simp
        omega
      obtain ⟨v, b2, e1, k1, k2, k3⟩ := c_take (k := (fs.length : Int) + 1) (by omega) (by omega) m hm h1
      obtain ⟨i, rfl⟩ : ∃ i : Nat, v = i := ⟨v.toNat, by omega⟩
      have hi : i ≤ fs.length := by omega
      have hi' : (i : Int) ≤ fs.length := by omega
      refine ⟨_, ?_, b2, fs.take i ++ d :: fs.drop i, k1, ?_, rfl⟩
      · have hz : fs.length < 16777216 := by omega
        simp [forT, forT0, doCall, e1, lim, hz, hi']
      · refine (List.perm_middle.trans ?_).trans (List.perm_append_singleton d pre).symm
        rw [List.take_append_drop]
        exact h2.cons d) l [some b, some (.d (.list (l.map g))), some (.lst []), none] rfl ⟨b, [], hb, .refl _, rfl⟩
  refine ⟨fs, b', ?_, h1, h2⟩
  rw [e]
  simp [b__law_mixed, kFor, forI, lim, Function.comp_def]
  rw [e1]
  simp
def NmOk (x : Str) : Prop := x = Str.ofString "r" ∨ x = Str.ofString "s" ∨ x = Str.ofString "t9"
theorem srt_names (ns : List Str) : ∃ zs : List Str, uSorted (.lst ((ns.map PyData.str).map X.d)) = some (.lst (zs.map fun z => X.d (.str z))) ∧ zs.Perm ns := by
  have h : SrtOk (((ns.map PyData.str).map fun a => (a, a)).map (·.1)) := by
    rw [List.map_map, List.map_map]
    refine ⟨fun a ha => ?_, fun a ha => ?_, fun a ha b hb => ?_, .inr (.inl fun a ha => ?_)⟩ <;> obtain ⟨x, _, rfl⟩ := List.mem_map.mp ha
    · rfl
    · simp [PyData.depth]
    · obtain ⟨y, _, rfl⟩ := List.mem_map.mp hb; rfl
    · rfl
  refine ⟨isort (fun x y => ltB (.str x) (.str y)) ns, ?_, isort_perm ns⟩
  unfold uSorted
  rw [show srtIn (.lst ((ns.map PyData.str).map X.d)) = some (ns.map PyData.str) from datas_d _]
  show sortedK ((ns.map PyData.str).map fun a => (a, a)) = _
  unfold sortedK
  rw [if_pos (.inr h), sortKeyed_self, ← isort_map (lt := ltB) PyData.str ns, List.map_map]
  rfl
/-- a scheme's entries -/
structure SchOk (T : List Tab) : Prop where
  nd : NmD T
  len : T.length ≤ 3
  nm : ∀ t ∈ T, NmOk t.n
  k1 : ∀ t ∈ T, 1 ≤ t.k
  kc : ∀ t ∈ T, t.k ≤ t.c
  c3 : ∀ t ∈ T, t.c ≤ 3
theorem c_scheme (n : Nat) (hn : 3 ≤ n) {b : X} (hb : Bag b) : ∃ (T : List Tab) (b' : X), call F G n f__law_scheme [b] = .ok (.d (schD T)) [b'] ∧ Bag b' ∧ SchOk T := by
  obtain ⟨m, hm, rfl, e⟩ := ev_at n [b] 2 hn F__law_scheme rfl
  obtain ⟨fs, b1, e1, h1, p1⟩ := c_mixed PyData.str m hm hb [Str.ofString "r", Str.ofString "s", Str.ofString "t9"] (by simp)
  obtain ⟨v, b2, e2, h2, h3, h4⟩ := c_take (k := 3) (by omega) (by omega) m (by omega) h1
  obtain ⟨i, rfl⟩ : ∃ i : Nat, v = i := ⟨v.toNat, by omega⟩
  obtain ⟨zs, e3, p3⟩ := srt_names (fs.take (i + 1))
  have hsub : (fs.take (i + 1)).Sublist fs := List.take_sublist _ _
  have nd0 : [Str.ofString "r", Str.ofString "s", Str.ofString "t9"].Nodup := by decide +kernel
  have ndz : zs.Nodup := p3.nodup_iff.mpr ((p1.nodup_iff.mpr nd0).sublist hsub)
  have inz : ∀ z ∈ zs, NmOk z := fun z hz => by
    have := p1.mem_iff.mp (hsub.subset (p3.mem_iff.mp hz))
    simpa [NmOk] using this
  have lnz : zs.length ≤ 3 := by
    rw [p3.length_eq]
    have := hsub.length_le
    rw [p1.length_eq] at this
    simpa using this
  obtain ⟨t', e4, b', T, k1, k2, k3, rfl⟩ := forL_rel (l := zs) (f := fun z => X.d (.str z)) (body := forT (call F G m) G [3, 4] (.n 3) [.set (.n 4) (.b .add (.k (.int 1)) (.call f__law_take [.mu 0, .k (.int 3)])), .app 2 (.tup [.v 3, .v 4, .b .add (.k (.int 1)) (.call f__law_take [.mu 0, .v 4])])])
    (fun pre t => ∃ (b' : X) (T : List Tab), Bag b' ∧ T.map Tab.n = pre ∧ (∀ t ∈ T, 1 ≤ t.k ∧ t.k ≤ t.c ∧ t.c ≤ 3) ∧ t = [some b', some (.d (.list (zs.map .str))), some (.lst (T.map fun x => X.d (schE x))), none, none]) [] (fun pre z post t el ht => by
      obtain ⟨b', T, q1, q2, q3, rfl⟩ := ht
      obtain ⟨c, b3, a1, a2, a3, a4⟩ := c_take (k := 3) (by omega) (by omega) m (by omega) q1
      obtain ⟨c, rfl⟩ : ∃ i : Nat, c = i := ⟨c.toNat, by omega⟩
      obtain ⟨k, b4, d1, d2, d3, d4⟩ := c_take (k := 1 + (c : Int)) (by omega) (by omega) m (by omega) a2
      obtain ⟨k, rfl⟩ : ∃ i : Nat, k = i := ⟨k.toNat, by omega⟩
      have hT : T.length ≤ 3 := by
        have : (T.map Tab.n).length ≤ zs.length := by rw [q2, el]; simp
        rw [List.length_map] at this; omega
      have hT' : T.length < 16777216 := by omega
      refine ⟨_, ?_, b4, T ++ [⟨z, 1 + c, 1 + k, []⟩], d2, by simp [q2], fun t ht => ?_, rfl⟩
      · simp [forT, forT0, doCall, a1, d1, lim, hT', schE]
      · rcases List.mem_append.mp ht with h | h
        · exact q3 t h
        · rw [List.mem_singleton.mp h]
          exact ⟨by simp, by simp; omega, by simp; omega⟩) zs [some b2, some (.d (.list (zs.map .str))), some (.lst []), none, none] rfl ⟨b2, [], h2, rfl, by simp, rfl⟩
  have hTl : T.length ≤ 3 := by
    have h : (T.map Tab.n).length ≤ 3 := by rw [k2]; exact lnz
    rwa [List.length_map] at h
  refine ⟨T, b', ?_, k1, ⟨by unfold NmD; rw [k2]; exact ndz, hTl, fun t ht => inz t.n (by rw [← k2]; exact List.mem_map.mpr ⟨t, ht, rfl⟩), fun t ht => (k3 t ht).1, fun t ht => (k3 t ht).2.1, fun t ht => (k3 t ht).2.2⟩⟩
  rw [e]
  have e1' : call F G m f__law_mixed [b, .lst [.d (.str (Str.ofString "r")), .d (.str (Str.ofString "s")), .d (.str (Str.ofString "t9"))]] = .ok (.lst (fs.map fun x => X.d (.str x))) [b1] := e1
  have hct : cut (fs.map PyData.str) none (some (1 + (i : Int))) = (fs.take (i + 1)).map PyData.str := by
    rw [show (1 + (i : Int)) = ((i + 1 : Nat) : Int) by omega, cut_take, List.map_take]
  simp [b__law_scheme, doCall, lim, e1', e2, hct, Function.comp_def, kFor, forI] at e3 ⊢
  rw [e3]
  simp [kFor, forI, Function.comp_def, dats_map (fun z => PyData.str z)]
  rw [e4]
  have hd : datas (T.map fun x => X.d (schE x)) = some (T.map schE) := datas_map schE T
  simp [hd, schD]
end Mp
set_option maxHeartbeats 1000000
/-! PV: the law's stores. -/
namespace Mp
open PySem
theorem c_small (n : Nat) (hn : 3 ≤ n) {b : X} (hb : Bag b) : ∃ (a : A5) (b' : X), call F G n f__law_small_value [b] = .ok (.d a.d) [b'] ∧ Bag b' := by
  obtain ⟨m, hm, rfl, e⟩ := ev_at n [b] 2 hn F__law_small_value rfl
  obtain ⟨d, b', e1, h1, h2⟩ := c_some m hm hb [.int 0, .int 1, .int 1, .int 2, .str (Str.ofString "a"), .str (Str.ofString "b")] (by simp) (by simp)
  have hd : ∃ a : A5, d = a.d := by
    simp at h2
    rcases h2 with rfl | rfl | rfl | rfl | rfl
    · exact ⟨.i0, rfl⟩
    · exact ⟨.i1, rfl⟩
    · exact ⟨.i2, rfl⟩
    · exact ⟨.sa, rfl⟩
    · exact ⟨.sb, rfl⟩
  obtain ⟨a, rfl⟩ := hd
  refine ⟨a, b', ?_, h1⟩
  rw [e]
  simp at e1
  simp [b__law_small_value, doCall, e1, lim]
/-- the law's keys of values -/
def lkey (a : A5) : D := match a with
  | .sa | .sb => .tuple [.int 1, a.d]
  | _ => .tuple [.int 0, a.d]
theorem KeyOf.lkey : KeyOf lkey where
  eq := fun a b => by cases a <;> cases b <;> simp [Mp.lkey, A5.d] <;> decide +kernel
  lt := fun a b h => by
    cases a <;> cases b <;> first | exact absurd rfl h | (with_unfolding_all rfl)
  pl := fun a => by cases a <;> rfl
  dp := fun a => by cases a <;> simp [Mp.lkey, A5.d, PyData.depth, PyData.depthAll]
theorem c_lvkey (n : Nat) (hn : 1 ≤ n) (a : A5) : call F G n f__law_value_key [.d a.d] = .ok (.d (lkey a)) [] := by
  obtain ⟨m, rfl⟩ : ∃ m, n = m + 1 := ⟨n - 1, by omega⟩
  cases a <;> with_unfolding_all rfl
theorem c_lrkey (n : Nat) (hn : 2 ≤ n) (r : Row) (hl : r.length ≤ lim) : call F G n f__law_row_key [.d (rowD r)] = .ok (.d (keyD lkey r)) [] := by
  obtain ⟨m, hm, rfl, e⟩ := ev_at n [.d (rowD r)] 1 hn F__law_row_key rfl
  rw [e]
  simp [b__law_row_key, rowD, Function.comp_def]
  rw [lcL_map (f := fun a : A5 => X.d a.d) (fun a => .d (lkey a)) _ hl]
  · simp [keyD]
  · intro a ha
    simp [lcT, lcT0, doCall, c_lvkey m hm a]
theorem c_lsorted (n : Nat) (hn : 3 ≤ n) (l : List Row) (h3 : ∀ r ∈ l, r ≠ [] ∧ r.length ≤ 3) (hl : l.length ≤ 4) : call F G n f__law_sorted [.lst (l.map fun r => X.d (rowD r))] = .ok (.d (rowsD (dd (isort lx l)))) [] := by
  obtain ⟨m, hm, rfl, e⟩ := ev_at n [.lst (l.map fun r => X.d (rowD r))] 2 hn F__law_sorted rfl
  rw [e]
  have hil := (isort_perm (lt := lx) l).length_eq
  simp [b__law_sorted, Function.comp_def, kFor, forI, dats_map rowD]
  rw [lcL_map (f := fun r : Row => X.d (rowD r)) (fun r => .d (.tuple [keyD lkey r, rowD r])) (fun r hr => ?_) (by simp only [lim]; omega)]
  rotate_left
  · simp [lcT, lcT0, doCall, c_lrkey m (by omega) r (by have := (h3 r hr).2; simp only [lim]; omega), lim]
  have hd : datas (l.map fun r => X.d (.tuple [keyD lkey r, rowD r])) = some (l.map fun r => .tuple [keyD lkey r, rowD r]) := datas_map _ l
  simp [hd]
  rw [keyG_map (fun r : Row => .tuple [keyD lkey r, rowD r]) (keyD lkey) (fun r hr => ⟨[some (.d (.tuple [keyD lkey r, rowD r]))], .d (keyD lkey r), by simp [ixOf], rfl⟩)]
  simp only [Option.bind_some]
  rw [sorted_rows KeyOf.lkey (fun r => .tuple [keyD lkey r, rowD r]) l fun r hr => (h3 r hr).1]
  simp [dats_map (fun r : Row => .tuple [keyD lkey r, rowD r]), Function.comp_def, kFor, forI]
  have key := forL_fold (l := isort lx l) (f := fun r : Row => X.d (.tuple [keyD lkey r, rowD r])) (body := forT (call F G m) G [2, 3] (.t [.n 2, .n 3]) [.ext 1 (.ite (.or_ (.tr (.b .eq (.p 1) (.lst []))) (.tr (.b .ne (.b .ix (.p 1) (.u .neg (.k (.int 1)))) (.p 3)))) (.lst [.v 3]) (.lst []))]) (fun acc : List Row => [some (.d (.list (l.map rowD))), some (rowsX acc), none, none, none]) dd1 (fun acc pre => acc.length ≤ pre.length) [] [] (by simp) (fun acc pre r post el ha => ?_) (isort lx l) rfl
  · rw [show X.lst [] = rowsX [] from rfl, key.1]
    show _ = Out.ok (X.d (rowsD (dd (isort lx l)))) []
    rw [show (isort lx l).foldl dd1 [] = dd (isort lx l) from rfl]
    simp [rowsX, rowsD, datas_map rowD]
  · have hal : acc.length < 16777216 := by
      have h : pre.length ≤ (isort lx l).length := by rw [el]; simp
      omega
    have hal2 : acc.length ≤ 16777216 := by omega
    have hal3 : acc.length ≤ 16777215 := by omega
    rcases List.eq_nil_or_concat acc with e | ⟨init, x, e⟩
    · subst e
      refine ⟨?_, by simp [dd1]⟩
      simp [forT, forT0, rowsX, dd1, lim, deep, PyData.depth, PyData.depthAll]
    · have e : acc = init ++ [x] := by simpa using e
      have hne : PyData.eqvAll (acc.map rowD) [] = false := by rw [e]; cases init <;> simp
      have hlast : acc.getLast? = some x := by rw [e]; simp
      have hl2 : acc.length = init.length + 1 := by rw [e]; simp
      have hi : ixOf acc.length (-1) = some init.length := by
        unfold ixOf
        rw [if_neg (by omega), if_pos (by omega)]
        congr 1; omega
      have hg : acc[init.length]? = some x := by rw [e]; simp
      have hdeep : deep (.list (acc.map rowD)) (.list []) = true := by simp [deep, PyData.depth, PyData.depthAll]
      by_cases hx : x = r
      · subst hx
        refine ⟨?_, ?_⟩
        · simp [forT, forT0, rowsX, dd1, hlast, lim, dats_map rowD, hdeep, hne, hi, hg, hal2, hal3]
        · simp [dd1, hlast]; omega
      · refine ⟨?_, ?_⟩
        · simp [forT, forT0, rowsX, dd1, hlast, lim, dats_map rowD, hdeep, hne, hx, hi, hg, hal2, hal3]
        · simp [dd1, hlast, hx]; omega
theorem all2_rows {l : List Nat} {c : Nat} : ∀ {l : List Nat} {ys : List X}, All2 (fun _ y => ∃ r : Row, r.length = c ∧ y = X.d (rowD r)) l ys → ∃ rs : List Row, ys = (rs.map fun r => X.d (rowD r)) ∧ rs.length = l.length ∧ ∀ r ∈ rs, r.length = c
  | _, _, .nil => ⟨[], rfl, rfl, by simp⟩
  | _, _, .cons ⟨r, h1, h2⟩ h => by
    obtain ⟨rs, e1, e2, e3⟩ := all2_rows (l := []) h
    exact ⟨r :: rs, by rw [h2, e1]; rfl, by simp [e2], fun q hq => (List.mem_cons.mp hq).elim (fun z => z ▸ h1) (e3 q)⟩
theorem all2_vals : ∀ {l : List Nat} {ys : List X}, All2 (fun _ y => ∃ a : A5, y = X.d a.d) l ys → ∃ r : Row, ys = (r.map fun a => X.d a.d) ∧ r.length = l.length
  | _, _, .nil => ⟨[], rfl, rfl⟩
  | _, _, .cons ⟨a, h⟩ t => by
    obtain ⟨r, e1, e2⟩ := all2_vals t
    exact ⟨a :: r, by rw [h, e1]; rfl, by simp [e2]⟩
/-- a row of drawn values -/
theorem rowlc (m : Nat) (hm : 3 ≤ m) (c : Nat) (hc : c ≤ 3) (j : Nat) (pre : X → S) (h0 : ∀ b, (pre b)[0]? = some (some b)) (hlen : ∀ b b', (pre b).set 0 (some b') = pre b') (hj : 0 < j) (hset : ∀ (b : X) (x : Option X), ((pre b).set j x).set j none = pre b) (hjn : ∀ (b b' : X) (x : Option X), ((pre b).set j x).set 0 (some b') = (pre b').set j x) (h0j : ∀ (b : X) (x : Option X), ((pre b).set j x)[0]? = some (some b)) {b : X} (hb : Bag b) :
    ∃ (r : Row) (b' : X), lcL (lcT (call F G m) G [j] (.call f__law_small_value [.mu 0]) (.n j) []) ((List.range c).map fun (i : Nat) => X.d (.int (i : Int))) [] (pre b) = .ok (r.map fun a => X.d a.d) (pre b') ∧ Bag b' ∧ r.length = c := by
  obtain ⟨ys, t', e1, ⟨b', h1, rfl⟩, h2⟩ := lcL_rel (l := List.range c) (f := fun (i : Nat) => X.d (.int (i : Int))) (turn := lcT (call F G m) G [j] (.call f__law_small_value [.mu 0]) (.n j) []) (fun t => ∃ b, Bag b ∧ t = pre b) (fun _ y => ∃ a : A5, y = X.d a.d) [] (fun i t hi ⟨b, hb, e⟩ => by
    subst e
    obtain ⟨a, b2, e2, k2⟩ := c_small m hm hb
    refine ⟨.d a.d, pre b2, ?_, ⟨b2, k2, rfl⟩, ⟨a, rfl⟩⟩
    simp [lcT, lcT0, doCall, h0j, e2, hjn, hset]) (by simp [lim]; omega) (pre b) ⟨b, hb, rfl⟩
  obtain ⟨r, e3, e4⟩ := all2_vals h2
  exact ⟨r, b', by rw [e1, e3]; rfl, h1, by rw [e4, List.length_range]⟩
end Mp
set_option maxHeartbeats 1000000
/-! PW: the law's stores, made. -/
namespace Mp
open PySem
/-- drawn rows -/
theorem rowslc (m : Nat) (hm : 3 ≤ m) (c : Nat) (hc : c ≤ 3) (v : Nat) (hv : v ≤ 4) (x1 x2 x3 x5 : Option X) {b : X} (hb : Bag b) :
    ∃ (rs : List Row) (b' : X), lcL (lcT (call F G m) G [6] (.u .tuple (.lc [7] (.call f__law_small_value [.mu 0]) (.n 7) (.range (.v 4)) [])) (.n 6) []) ((List.range v).map fun (i : Nat) => X.d (.int (i : Int))) [] [some b, x1, x2, x3, some (.d (.int c)), x5, none, none] =
      .ok (rs.map fun r => X.d (rowD r)) [some b', x1, x2, x3, some (.d (.int c)), x5, none, none] ∧ Bag b' ∧ rs.length = v ∧ ∀ r ∈ rs, r.length = c := by
  obtain ⟨ys, t', e1, ⟨b', h1, rfl⟩, h2⟩ := lcL_rel (l := List.range v) (f := fun (i : Nat) => X.d (.int (i : Int))) (turn := lcT (call F G m) G [6] (.u .tuple (.lc [7] (.call f__law_small_value [.mu 0]) (.n 7) (.range (.v 4)) [])) (.n 6) [])
    (fun t => ∃ b, Bag b ∧ t = [some b, x1, x2, x3, some (.d (.int c)), x5, none, none]) (fun _ y => ∃ r : Row, r.length = c ∧ y = X.d (rowD r)) [] (fun i t hi ⟨b, hb, e⟩ => by
    subst e
    obtain ⟨r, b2, e2, k2, k3⟩ := rowlc m hm c hc 7 (fun b => [some b, x1, x2, x3, some (.d (.int c)), x5, some (.d (.int i)), none]) (fun _ => rfl) (fun _ _ => rfl) (by omega) (fun _ _ => rfl) (fun _ _ _ => rfl) (fun _ _ => rfl) hb
    have hcl : (c : Int) ≤ 16777216 := by omega
    have hd : datas (r.map fun a => X.d a.d) = some (r.map A5.d) := datas_map A5.d r
    refine ⟨.d (rowD r), _, ?_, ⟨b2, k2, rfl⟩, ⟨r, k3, rfl⟩⟩
    simp [lcT, lcT0, lim, hcl, Function.comp_def]
    rw [e2]
    simp [hd, rowD]) (by simp [lim]; omega) _ ⟨b, hb, rfl⟩
  obtain ⟨rs, e3, e4, e5⟩ := all2_rows (l := []) h2
  exact ⟨rs, b', by rw [e1, e3]; rfl, h1, by rw [e4, List.length_range], e5⟩
theorem c_store (n : Nat) (hn : 4 ≤ n) {b : X} (hb : Bag b) {T0 : List Tab} (S : SchOk T0) : ∃ (T : List Tab) (b' : X), call F G n f__law_store [b, .d (schD T0)] = .ok (.d (stoD T)) [b'] ∧ Bag b' ∧ OkT T ∧ schD T = schD T0 := by
  obtain ⟨m, hm, rfl, e⟩ := ev_at n [b, .d (schD T0)] 3 hn F__law_store rfl
  obtain ⟨t', e1, b', T, k1, k2, k3, rfl⟩ := forL_rel (l := T0) (f := fun t => X.d (schE t)) (body := forT (call F G m) G [3, 4, 5] (.t [.n 3, .n 4, .n 5]) [.app 2 (.tup [.v 3, .call f__law_sorted [.lc [6] (.u .tuple (.lc [7] (.call f__law_small_value [.mu 0]) (.n 7) (.range (.v 4)) [])) (.n 6) (.range (.call f__law_take [.mu 0, .k (.int 5)])) []]])])
    (fun pre t => ∃ (b' : X) (T : List Tab), Bag b' ∧ T.map (fun t => (t.n, t.c, t.k)) = pre.map (fun t => (t.n, t.c, t.k)) ∧ (∀ t ∈ T, Asc t.rs ∧ t.rs.length ≤ 4 ∧ ∀ r ∈ t.rs, r.length = t.c) ∧ t = [some b', some (.d (schD T0)), some (.lst (T.map fun t => X.d (stoE t))), none, none, none, none, none]) [] (fun pre t post u el hu => by
      obtain ⟨b', T, q1, q2, q3, rfl⟩ := hu
      have ht : t ∈ T0 := by rw [el]; simp
      obtain ⟨v, b3, a1, a2, a3, a4⟩ := c_take (k := 5) (by omega) (by omega) m (by omega) q1
      obtain ⟨v, rfl⟩ : ∃ i : Nat, v = i := ⟨v.toNat, by omega⟩
      obtain ⟨rs, b4, d1, d2, d3, d4⟩ := rowslc m hm t.c (S.c3 t ht) v (by omega) (some (.d (schD T0))) (some (.lst (T.map fun t => X.d (stoE t)))) (some (.d (.str t.n))) (some (.d (.int t.k))) a2
      have hrs : ∀ r ∈ rs, r ≠ [] ∧ r.length ≤ 3 := fun r hr => by
        have h1 := d4 r hr
        have h2 := S.k1 t ht
        have h3 := S.kc t ht
        have h4 := S.c3 t ht
        exact ⟨fun e => by rw [e] at h1; simp at h1; omega, by omega⟩
      have e2 := c_lsorted m hm rs hrs (by omega)
      have hv : (v : Int) ≤ 16777216 := by omega
      obtain ⟨s1, s2, s3⟩ := dd_isort rs
      have hT : T.length < 16777216 := by
        have h1 : (T.map fun t => (t.n, t.c, t.k)).length = (pre.map fun t => (t.n, t.c, t.k)).length := by rw [q2]
        have h2 : pre.length ≤ T0.length := by rw [el]; simp
        have h3 := S.len
        simp only [List.length_map] at h1
        omega
      refine ⟨_, ?_, b4, T ++ [⟨t.n, t.c, t.k, dd (isort lx rs)⟩], d2, by simp [q2], fun u hu => ?_, rfl⟩
      · simp [forT, forT0, schE, doCall, a1, lim, hv, Function.comp_def]
        rw [d1]
        simp [e2, doCall, hT, stoE, lim]
      · rcases List.mem_append.mp hu with h | h
        · exact q3 u h
        · rw [List.mem_singleton.mp h]
          exact ⟨s1, by show (dd (isort lx rs)).length ≤ 4; omega, fun r hr => d4 r (s2 r hr)⟩) T0 [some b, some (.d (schD T0)), some (.lst []), none, none, none, none, none] rfl ⟨b, [], hb, rfl, by simp, rfl⟩
  have hmem : ∀ t ∈ T, ∃ u ∈ T0, u.n = t.n ∧ u.c = t.c ∧ u.k = t.k := fun t ht => by
    have : (t.n, t.c, t.k) ∈ T0.map (fun t => (t.n, t.c, t.k)) := by rw [← k2]; exact List.mem_map.mpr ⟨t, ht, rfl⟩
    obtain ⟨u, hu, e⟩ := List.mem_map.mp this
    simp only [Prod.mk.injEq] at e
    exact ⟨u, hu, e⟩
  have hlen : T.length = T0.length := by
    have : (T.map fun t => (t.n, t.c, t.k)).length = (T0.map fun t => (t.n, t.c, t.k)).length := by rw [k2]
    simpa using this
  have hn' : T.map Tab.n = T0.map Tab.n := by
    have := congrArg (List.map Prod.fst) k2
    simpa [Function.comp_def] using this
  have hsch : schD T = schD T0 := by
    have := congrArg (List.map fun p : Str × Nat × Nat => PyData.tuple [.str p.1, .int p.2.1, .int p.2.2]) k2
    simp only [List.map_map] at this
    unfold schD
    exact congrArg PyData.tuple this
  refine ⟨T, b', ?_, k1, ⟨by unfold NmD; rw [hn']; exact S.nd, by rw [hlen]; exact S.len, fun t ht => ?_, fun t ht => ?_, fun t ht => ?_, fun t ht => ?_, fun t ht => (k3 t ht).1, fun t ht => (k3 t ht).2.1, fun t ht => (k3 t ht).2.2⟩, hsch⟩
  · rw [e]
    have hl : T.length ≤ 16777216 := by rw [hlen]; have := S.len; omega
    have hd : datas (T.map fun t => X.d (stoE t)) = some (T.map stoE) := datas_map stoE T
    simp [b__law_store, kFor, forI]
    rw [show X.d (schD T0) = .d (.tuple (T0.map schE)) from rfl]
    simp [Function.comp_def]
    rw [show X.d (.tuple (T0.map schE)) = .d (schD T0) from rfl, e1]
    simp [hd, stoD]
  · obtain ⟨u, hu, e1, e2, e3⟩ := hmem t ht; rw [← e1]; exact S.nm u hu
  · obtain ⟨u, hu, e1, e2, e3⟩ := hmem t ht; rw [← e3]; exact S.k1 u hu
  · obtain ⟨u, hu, e1, e2, e3⟩ := hmem t ht; rw [← e3, ← e2]; exact S.kc u hu
  · obtain ⟨u, hu, e1, e2, e3⟩ := hmem t ht; rw [← e2]; exact S.c3 u hu
end Mp
set_option maxHeartbeats 1000000
/-! PS: what repr shows; things that are alike. -/
namespace Mp
open PySem
structure Sh (n dp : Nat) (d : D) : Prop where
  sw : d.showable = true
  ok : PyData.strOk d.shown = true
  ln : d.shown.length + 2 ≤ 26 * n
  dq : d.depth ≤ dp
  eq : PyData.eqv d d = true
theorem sok_app {a b : Str} (h1 : PyData.strOk a = true) (h2 : PyData.strOk b = true) : PyData.strOk (a ++ b) = true := by
  have e : (a ++ b).cps = a.cps ++ b.cps := rfl
  unfold PyData.strOk at *
  rw [e, Array.all_append, h1, h2]
  rfl
theorem sok_join : ∀ ts : List Str, (∀ t ∈ ts, PyData.strOk t = true) → PyData.strOk (Str.join ", " ts) = true
  | [], _ => by decide +kernel
  | [x], h => h x (by simp)
  | x :: y :: r, h => by
    show PyData.strOk (x ++ ", " ++ Str.join ", " (y :: r)) = true
    exact sok_app (sok_app (h x (by simp)) (by decide +kernel)) (sok_join (y :: r) fun t ht => h t (List.mem_cons_of_mem _ ht))
theorem sok_text : ∀ (ts : List Str) (k : Nat) (acc : Str), PyData.strOk acc = true → (∀ t ∈ ts, PyData.strOk t = true) → PyData.strOk (textFrom k acc ts) = true
  | [], k, acc, h, _ => h
  | t :: r, k, acc, h, ht => by
    show PyData.strOk (textFrom (k + 1) (acc ++ (if k > 0 then ", " else "" : String) ++ t) r) = true
    refine sok_text r _ _ (sok_app (sok_app h ?_) (ht t (by simp))) fun x hx => ht x (List.mem_cons_of_mem _ hx)
    split <;> decide +kernel
theorem shown_all : ∀ l : List D, PyData.shownAll l = l.map PyData.shown
  | [] => rfl
  | x :: l => by simp only [PyData.shownAll, List.map_cons, shown_all l]
theorem showable_all : ∀ l : List D, (∀ x ∈ l, x.showable = true) → PyData.showableAll l = true
  | [], _ => rfl
  | x :: l, h => by
    simp only [PyData.showableAll, h x (by simp), showable_all l fun y hy => h y (List.mem_cons_of_mem _ hy), Bool.and_self]
theorem eqvs_self : ∀ l : List D, (∀ x ∈ l, PyData.eqv x x = true) → PyData.eqvAll l l = true
  | [], _ => by simp
  | x :: l, h => by simp [h x (by simp), eqvs_self l fun y hy => h y (List.mem_cons_of_mem _ hy)]
theorem depth_all {m : Nat} : ∀ l : List D, (∀ x ∈ l, x.depth ≤ m) → PyData.depthAll l ≤ m
  | [], _ => by simp [PyData.depthAll]
  | x :: l, h => by
    have h1 := h x (by simp)
    have h2 := depth_all l fun y hy => h y (List.mem_cons_of_mem _ hy)
    rw [PyData.depthAll]; omega
theorem sum_len {n : Nat} : ∀ l : List D, (∀ x ∈ l, x.shown.length + 2 ≤ 26 * n) → ((l.map PyData.shown).map (·.length)).sum + 2 * l.length ≤ l.length * (26 * n)
  | [], _ => by simp
  | x :: l, h => by
    have h1 := h x (by simp)
    have h2 := sum_len l fun y hy => h y (List.mem_cons_of_mem _ hy)
    have h3 : (l.length + 1) * (26 * n) = l.length * (26 * n) + 26 * n := Nat.succ_mul _ _
    simp only [List.map_cons, List.sum_cons, List.length_cons]
    omega
section
variable {n dp m : Nat} {l : List D}
theorem Sh.tup (h : ∀ x ∈ l, Sh n dp x) (hl : l.length ≤ m) : Sh (1 + m * n) (dp + 1) (.tuple l) where
  sw := by simp only [PyData.showable]; exact showable_all l fun x hx => (h x hx).sw
  ok := by
    simp only [PyData.shown, shown_all]
    unfold tupleText
    refine sok_app (sok_app (by decide +kernel) (sok_join _ fun t ht => ?_)) (by split <;> decide +kernel)
    obtain ⟨x, hx, rfl⟩ := List.mem_map.mp ht
    exact (h x hx).ok
  ln := by
    simp only [PyData.shown, shown_all]
    have h1 := tupleText_len_le (l.map PyData.shown)
    have h2 := sum_len l fun x hx => (h x hx).ln
    have h3 : l.length * (26 * n) ≤ m * (26 * n) := Nat.mul_le_mul_right _ hl
    have h4 : m * (26 * n) = 26 * (m * n) := by rw [Nat.mul_left_comm]
    simp only [List.length_map] at h1
    omega
  dq := by
    have := depth_all l fun x hx => (h x hx).dq
    simp only [PyData.depth]; omega
  eq := by rw [eqv_tup]; exact eqvs_self l fun x hx => (h x hx).eq
theorem Sh.lst (h : ∀ x ∈ l, Sh n dp x) (hl : l.length ≤ m) : Sh (1 + m * n) (dp + 1) (.list l) where
  sw := by simp only [PyData.showable]; exact showable_all l fun x hx => (h x hx).sw
  ok := by
    simp only [PyData.shown, shown_all]
    unfold listText
    refine sok_app (sok_text _ _ _ (by decide +kernel) fun t ht => ?_) (by decide +kernel)
    obtain ⟨x, hx, rfl⟩ := List.mem_map.mp ht
    exact (h x hx).ok
  ln := by
    simp only [PyData.shown, shown_all]
    have h1 := listText_len_le (l.map PyData.shown)
    have h2 := sum_len l fun x hx => (h x hx).ln
    have h3 : l.length * (26 * n) ≤ m * (26 * n) := Nat.mul_le_mul_right _ hl
    have h4 : m * (26 * n) = 26 * (m * n) := by rw [Nat.mul_left_comm]
    simp only [List.length_map] at h1
    omega
  dq := by
    have := depth_all l fun x hx => (h x hx).dq
    simp only [PyData.depth]; omega
  eq := by rw [eqv_lst]; exact eqvs_self l fun x hx => (h x hx).eq
theorem Sh.mono {d : D} {n' dp' : Nat} (h : Sh n dp d) (h1 : n ≤ n') (h2 : dp ≤ dp') : Sh n' dp' d := ⟨h.sw, h.ok, by have := h.ln; omega, by have := h.dq; omega, h.eq⟩
theorem Sh.leaf {d : D} (h : (d.showable && PyData.strOk d.shown && decide (d.shown.length + 2 ≤ 26) && decide (d.depth = 0) && PyData.eqv d d) = true) : Sh 1 0 d := by
  simp only [Bool.and_eq_true, decide_eq_true_eq] at h
  obtain ⟨⟨⟨⟨a, b⟩, c⟩, d⟩, e⟩ := h
  exact ⟨a, b, by omega, by omega, e⟩
theorem Sh.shown {d : D} (h : Sh n dp d) (h1 : n ≤ 600000) (h2 : dp ≤ 63) : Mp.shown d = some d.shown := by
  unfold Mp.shown
  rw [if_pos ⟨h.sw, by have := h.ln; simp only [lim]; omega, by have := h.dq; omega, h.ok⟩]
end
theorem c_same (n : Nat) (hn : 1 ≤ n) {x y : X} {d : D} {k dp : Nat} (hx : dat? x = some d) (hy : dat? y = some d) (h : Sh k dp d) (h1 : k ≤ 600000) (h2 : dp ≤ 63) : call F G n f__law_alike [x, y] = .ok (.d (.bool true)) [] := by
  obtain ⟨m, hm, rfl, e⟩ := ev_at n [x, y] 0 hn F__law_alike rfl
  rw [e]
  have hs := h.shown h1 h2
  have hd : deep d d = true := by have := h.dq; unfold deep; exact decide_eq_true (by omega)
  simp [b__law_alike, uRepr, hx, hy, hs, hd, h.eq]
/-- two texts of keys are told apart as the keys are -/
theorem c_keys (n : Nat) (hn : 1 ≤ n) (q r : Row) (h1 : ∃ k, Sh k 1 (rowD q) ∧ k ≤ 600000) (h2 : ∃ k, Sh k 1 (rowD r) ∧ k ≤ 600000) : call F G n f__law_alike [.d (rowD q), .d (rowD r)] = .ok (.d (.bool (decide (q = r)))) [] := by
  obtain ⟨m, hm, rfl, e⟩ := ev_at n [.d (rowD q), .d (rowD r)] 0 hn F__law_alike rfl
  rw [e]
  obtain ⟨k1, s1, l1⟩ := h1
  obtain ⟨k2, s2, l2⟩ := h2
  have e1 := s1.shown l1 (by omega)
  have e2 := s2.shown l2 (by omega)
  by_cases h : q = r
  · subst h
    simp [b__law_alike, uRepr, e1]
  · by_cases hh : (rowD q).shown = (rowD r).shown <;> simp [b__law_alike, uRepr, e1, e2, h, hh]
theorem sh_a (a : A5) : Sh 1 0 a.d := by cases a <;> exact Sh.leaf (by decide +kernel)
theorem sh_row {r : Row} (h : r.length ≤ 3) : Sh 4 1 (rowD r) := Sh.tup (m := 3) (n := 1) (fun x hx => by obtain ⟨a, _, rfl⟩ := List.mem_map.mp hx; exact sh_a a) (by simpa using h)
theorem sh_rows {l : List Row} (h : ∀ r ∈ l, r.length ≤ 3) (hl : l.length ≤ 12) : Sh 49 2 (rowsD l) := Sh.tup (m := 12) (n := 4) (fun x hx => by obtain ⟨r, hr, rfl⟩ := List.mem_map.mp hx; exact sh_row (h r hr)) (by simpa using hl)
end Mp
set_option maxHeartbeats 1000000
/-! PX: the law's own blocks. -/
namespace Mp
open PySem
@[simp] theorem deep_nl (d : D) : deep d (.list []) = true := by simp [deep, PyData.depth, PyData.depthAll]; omega
@[simp] theorem deep_nl' (d : D) : deep (.list []) d = true := by simp [deep, PyData.depth, PyData.depthAll]; omega
theorem filter_in {T : List Tab} {t : Tab} (hn : NmD T) (h : t ∈ T) : T.filter (fun u => u.n == t.n) = [t] := by
  induction T with
  | nil => cases h
  | cons u T ih =>
    obtain ⟨h1, h2⟩ := List.nodup_cons.mp hn
    rcases List.mem_cons.mp h with e | h
    · subst e
      have : T.filter (fun u => u.n == t.n) = [] := by
        rw [List.filter_eq_nil_iff]
        intro x hx e
        exact h1 (List.mem_map.mpr ⟨x, hx, eq_of_beq e⟩)
      simp [this]
    · have : (u.n == t.n) = false := beq_eq_false_iff_ne.mpr fun e => h1 (List.mem_map.mpr ⟨t, h, e.symm⟩)
      rw [List.filter_cons, this]
      exact ih h2 h
theorem ix20 : ixOf 2 0 = some 0 := rfl
theorem ix21 : ixOf 2 1 = some 1 := rfl
theorem slice_row (r : Row) (k : Nat) : sliceOf none (some (k : Int)) (.d (rowD r)) = some (.d (rowD (r.take k))) := by simp [rowD, cut_take]
theorem add_rows (l : List Row) (r : Row) (h : l.length ≤ 16777215) : bAdd (.d (rowsD l)) (.d (.tuple [rowD r])) = some (.d (rowsD (l ++ [r]))) := by simp [rowsD, lim, h]
/-- a group as the law has it -/
def grE (g : Gr) : D := .tuple [rowD g.1, rowsD g.2]
def grX (acc : List Gr) : X := .lst (acc.map fun g => X.d (grE g))
section
variable {T : List Tab} {t : Tab} (O : OkT T) (ht : t ∈ T)
include O ht
theorem c_lblocks (n : Nat) (hn : 1 ≤ n) : call F G n f__law_blocks [.d (schD T), .d (stoD T), .d (.str t.n)] = .ok (grX (grp t.k t.rs)) [] := by
  obtain ⟨m, hm, rfl, e⟩ := ev_at n [.d (schD T), .d (stoD T), .d (.str t.n)] 0 hn F__law_blocks rfl
  rw [e]
  have hT := O.len
  have hl4 := O.rl t ht
  simp [b__law_blocks]
  rw [show X.d (schD T) = .d (.tuple (T.map schE)) from rfl, show X.d (stoD T) = .d (.tuple (T.map stoE)) from rfl]
  simp [Function.comp_def]
  rw [lcL_filter (f := fun u : Tab => X.d (schE u)) (fun u => u.n == t.n) (fun u => X.d (.int u.k)) (fun u hu => ?_) (by simp only [lim]; omega), filter_in O.nd ht]
  rotate_left
  · simp [lcT, lcT0, schE, ixOf]
    split <;> simp [ixOf]
  simp [ixOf, kFor, forI, Function.comp_def]
  rw [lcL_filter (f := fun u : Tab => X.d (stoE u)) (fun u => u.n == t.n) (fun u => X.d (rowsD u.rs)) (fun u hu => ?_) (by simp only [lim]; omega), filter_in O.nd ht]
  rotate_left
  · simp [lcT, lcT0, stoE, ixOf]
    split <;> simp [ixOf]
  simp [ixOf, kFor, forI]
  rw [show X.d (rowsD t.rs) = .d (.tuple (t.rs.map rowD)) from rfl]
  simp [Function.comp_def, lim]
  have key := forL_fold (l := t.rs) (f := fun r : Row => X.d (rowD r)) (body := forT (call F G m) G [5] (.n 5) [.if_ (.and_ (.tr (.b .ne (.p 4) (.lst []))) (.tr (.b .eq (.b .ix (.b .ix (.p 4) (.u .neg (.k (.int 1)))) (.k (.int 0))) (.slice (.p 5) none (some (.v 3))))))
      [.setix 4 (.u .neg (.k (.int 1))) (.tup [.b .ix (.b .ix (.p 4) (.u .neg (.k (.int 1)))) (.k (.int 0)), .b .add (.b .ix (.b .ix (.p 4) (.u .neg (.k (.int 1)))) (.k (.int 1))) (.tup [.v 5])])] [.app 4 (.tup [.slice (.p 5) none (some (.v 3)), .tup [.v 5]])]])
    (fun acc : List Gr => [some (.d (.tuple (T.map schE))), some (.d (.tuple (T.map stoE))), some (.d (.str t.n)), some (.d (.int t.k)), some (grX acc), none, none]) (g1 t.k) (fun acc pre => GInv t.k acc pre) [] [] ⟨rfl, by simp, by simp⟩ (fun acc pre r post el I => ?_) t.rs rfl
  · rw [show X.lst [] = grX [] from rfl, key.1]
    simp [grp]
  · have hq : ∀ q ∈ pre, lx q r = true := fun q hq => by
      have := O.asc t ht
      rw [el] at this
      exact (List.pairwise_append.mp this).2.2 q hq r List.mem_cons_self
    refine ⟨?_, I.step hq⟩
    have hl : pre.length ≤ 4 := by rw [el] at hl4; simp at hl4; omega
    have hal : acc.length < 16777216 := by have := I.len; omega
    rcases List.eq_nil_or_concat acc with e | ⟨init, x, e⟩
    · subst e
      simp [forT, forT0, grX, g1, lim, grE, rowD, rowsD, cut_take, List.map_take]
    · have e : acc = init ++ [x] := by simpa using e
      have hlast : acc.getLast? = some x := by rw [e]; simp
      have hl2 : acc.length = init.length + 1 := by rw [e]; simp
      have hi : ixOf acc.length (-1) = some init.length := by
        unfold ixOf
        rw [if_neg (by omega), if_pos (by omega)]
        congr 1; omega
      have hg : acc[init.length]? = some x := by rw [e]; simp
      have hne : PyData.eqvAll (acc.map grE) [] = false := by rw [e]; cases init <;> simp
      have hx2 : x.2.length ≤ 4 := by
        have := (I.sublist (show x ∈ acc by rw [e]; simp)).length_le
        omega
      have hx3 : x.2.length ≤ 16777215 := by omega
      have hst : (acc.map fun g => X.d (grE g)).set init.length (X.d (grE (x.1, x.2 ++ [r]))) = (init ++ [(x.1, x.2 ++ [r])]).map fun g => X.d (grE g) := by rw [e]; simp
      have hdl : acc.dropLast = init := by rw [e]; simp
      have hgE : grE x = .tuple [rowD x.1, rowsD x.2] := rfl
      by_cases hx : x.1 = r.take t.k
      · have hst' := hst
        rw [hx] at hst'
        simp [forT, forT0, grX, g1, lim, hlast, hx, dats_map grE, hne, hi, hg, slice_row, hgE, ix20, ix21, add_rows _ _ hx3, -bAdd, -sliceOf]
        rw [e]; simp [grE]
      · simp [forT, forT0, grX, g1, lim, hlast, hx, dats_map grE, hne, hi, hg, slice_row, hgE, ix20, ix21, -bAdd, -sliceOf]
        simp [hal, grE, rowsD]
end
/-- a block as the law has it -/
def evE (p : Tab × Gr) : D := .tuple [.str p.1.n, rowD p.2.1, rowsD p.2.2]
theorem c_levery (n : Nat) (hn : 2 ≤ n) {T : List Tab} (O : OkT T) : call F G n f__law_every_block [.d (schD T), .d (stoD T)] = .ok (.lst ((prs T).map fun p => X.d (evE p))) [] := by
  obtain ⟨m, hm, rfl, e⟩ := ev_at n [.d (schD T), .d (stoD T)] 1 hn F__law_every_block rfl
  rw [e]
  have hT := O.len
  have key := forL_fold (l := T) (f := fun t : Tab => X.d (schE t)) (body := forT (call F G m) G [3, 4, 5] (.t [.n 3, .n 4, .n 5]) [.ext 2 (.lc [6, 7] (.tup [.v 3, .v 6, .v 7]) (.t [.n 6, .n 7]) (.call f__law_blocks [.v 0, .v 1, .v 3]) [])])
    (fun acc : List (Tab × Gr) => [some (.d (schD T)), some (.d (stoD T)), some (.lst (acc.map fun p => X.d (evE p))), none, none, none, none, none]) (fun acc t => acc ++ (grp t.k t.rs).map fun g => (t, g)) (fun acc pre => acc.length ≤ 4 * pre.length) [] [] (by simp) (fun acc pre t post el ha => ?_) T rfl
  · have hf : ∀ (l : List Tab) (acc : List (Tab × Gr)), l.foldl (fun acc t => acc ++ (grp t.k t.rs).map fun g => (t, g)) acc = acc ++ prs l := by
      intro l
      induction l with
      | nil => intro acc; simp [prs]
      | cons t l ih => intro acc; rw [List.foldl_cons, ih]; simp [prs]
    have k1 := key.1
    rw [hf T []] at k1
    simp [b__law_every_block, kFor, forI]
    rw [show X.d (schD T) = .d (.tuple (T.map schE)) from rfl]
    simp [Function.comp_def]
    rw [show X.d (.tuple (T.map schE)) = .d (schD T) from rfl]
    simp at k1
    rw [k1]
    simp
  · have ht : t ∈ T := by rw [el]; simp
    have hg := O.glen ht
    have hpl : pre.length ≤ 3 := by
      have : T.length = pre.length + (post.length + 1) := by rw [el]; simp
      omega
    have hal : acc.length + (grp t.k t.rs).length ≤ 16777216 := by omega
    refine ⟨?_, by simp; omega⟩
    simp [forT, forT0, schE, doCall, c_lblocks O ht m hm, grX, Function.comp_def]
    rw [lcL_map (f := fun g : Gr => X.d (grE g)) (fun g => X.d (evE (t, g))) (fun g hg => ?_) (by simp only [lim]; omega)]
    rotate_left
    · simp [lcT, lcT0, grE, evE, lim]
    have hd : dats? ((grp t.k t.rs).map fun g => X.d (evE (t, g))) = some ((grp t.k t.rs).map fun g => evE (t, g)) := dats_map _ _
    simp [hd, lim, hal, Function.comp_def]
end Mp
set_option maxHeartbeats 1000000
/-! PY: what the law comes to. -/
namespace Mp
open PySem
def told (d : D) : D := .tuple [.str (Str.ofString "told"), d]
def noth : D := .tuple [.str (Str.ofString "nothing")]
section
variable {T : List Tab} {t : Tab} (O : OkT T) (ht : t ∈ T)
include O ht
theorem c_come0 (n : Nat) (hn : 4 ≤ n) (r : Row) : call F G n f__law_come_to [.d (.int 0), .d (schD T), .d (stoD T), .d (.str t.n), .d (rowD r)] = .ok (.d (told (rowD (r.take t.k)))) [] := by
  obtain ⟨m, hm, rfl, e⟩ := ev_at n [.d (.int 0), .d (schD T), .d (stoD T), .d (.str t.n), .d (rowD r)] 3 hn F__law_come_to rfl
  rw [e]
  simp [b__law_come_to, doCall, c_key_in O.nd ht m hm, lim, told, Fl.catch]
theorem c_come1 (n : Nat) (hn : 5 ≤ n) (d : D) : call F G n f__law_come_to [.d (.int 1), .d (schD T), .d (stoD T), .d (.str t.n), .d d] = .ok (.d (told (.tuple ((grp t.k t.rs).map fun g => rowsD g.2)))) [] := by
  obtain ⟨m, hm, rfl, e⟩ := ev_at n [.d (.int 1), .d (schD T), .d (stoD T), .d (.str t.n), .d d] 4 hn F__law_come_to rfl
  rw [e]
  simp [b__law_come_to, doCall, c_blocks O ht m hm, lim, told, Fl.catch]
theorem c_come2 (n : Nat) (hn : 7 ≤ n) (q : Row) (hq : q.length ≤ lim) : call F G n f__law_come_to [.d (.int 2), .d (schD T), .d (stoD T), .d (.str t.n), .d (rowD q)] = .ok (.d (told (rowsD (bw (grp t.k t.rs) q)))) [] := by
  obtain ⟨m, hm, rfl, e⟩ := ev_at n [.d (.int 2), .d (schD T), .d (stoD T), .d (.str t.n), .d (rowD q)] 6 hn F__law_come_to rfl
  rw [e]
  simp [b__law_come_to, doCall, c_with O ht m hm q hq, lim, told, Fl.catch]
theorem c_come3 (n : Nat) (hn : 7 ≤ n) (rows : List Row) (hr : rows.length ≤ 12) (hc : ∀ r ∈ rows, r.length ≤ 3) (h : ¬ (rows = [] ∨ ¬ (∀ r ∈ rows, r ∈ t.rs) ∨ (kd (rows.map fun r => r.take t.k)).length ≠ 1)) : call F G n f__law_come_to [.d (.int 3), .d (schD T), .d (stoD T), .d (.str t.n), .d (rowsD rows)] =
      .ok (.d (told (stoD (cutT T t.n (t.rs.filter fun r => decide (r ∈ rows) || !decide (r.take t.k ∈ kd (rows.map fun r => r.take t.k))))))) [] := by
  obtain ⟨m, hm, rfl, e⟩ := ev_at n [.d (.int 3), .d (schD T), .d (stoD T), .d (.str t.n), .d (rowsD rows)] 6 hn F__law_come_to rfl
  rw [e]
  have e1 := c_cut O ht m hm rows hr hc
  rw [if_neg h] at e1
  simp [b__law_come_to, doCall, e1, lim, told, Fl.catch]
theorem c_come3n (n : Nat) (hn : 7 ≤ n) (rows : List Row) (hr : rows.length ≤ 12) (hc : ∀ r ∈ rows, r.length ≤ 3) (h : rows = [] ∨ ¬ (∀ r ∈ rows, r ∈ t.rs) ∨ (kd (rows.map fun r => r.take t.k)).length ≠ 1) : call F G n f__law_come_to [.d (.int 3), .d (schD T), .d (stoD T), .d (.str t.n), .d (rowsD rows)] = .ok (.d noth) [] := by
  obtain ⟨m, hm, rfl, e⟩ := ev_at n [.d (.int 3), .d (schD T), .d (stoD T), .d (.str t.n), .d (rowsD rows)] 6 hn F__law_come_to rfl
  rw [e]
  have e1 := c_cut O ht m hm rows hr hc
  rw [if_pos h] at e1
  simp [b__law_come_to, doCall, e1, lim, noth, Fl.catch, exh]
theorem c_come3o (n : Nat) (hn : 4 ≤ n) : call F G n f__law_come_to [.d (.int 3), .d (schD T), .d (stoD T), .d (.str t.n), .d .none] = .ok (.d noth) [] := by
  obtain ⟨m, hm, rfl, e⟩ := ev_at n [.d (.int 3), .d (schD T), .d (stoD T), .d (.str t.n), .d .none] 3 hn F__law_come_to rfl
  rw [e]
  have e1 : call F G m f_cut_to [.d (schD T), .d (stoD T), .d (.str t.n), .d .none] = .exc ⟨c_Nothing, []⟩ [] := by
    obtain ⟨m, hm, rfl, e⟩ := ev_at m [.d (schD T), .d (stoD T), .d (.str t.n), .d .none] 2 hm F_cut_to rfl
    rw [e]
    simp [b_cut_to, doCall, c_rows_in O.nd ht m (by omega)]
  simp [b__law_come_to, doCall, e1, lim, noth, Fl.catch, exh]
end
section
variable {T : List Tab} {x : Str} (hx : x ∉ T.map Tab.n)
include hx
theorem c_out1 (n : Nat) (hn : 5 ≤ n) (d : D) : call F G n f__law_come_to [.d (.int 1), .d (schD T), .d (stoD T), .d (.str x), .d d] = .ok (.d noth) [] := by
  obtain ⟨m, hm, rfl, e⟩ := ev_at n [.d (.int 1), .d (schD T), .d (stoD T), .d (.str x), .d d] 4 hn F__law_come_to rfl
  rw [e]
  have e1 : call F G m f_blocks [.d (schD T), .d (stoD T), .d (.str x)] = .exc ⟨c_Nothing, []⟩ [] := by
    obtain ⟨m, hm, rfl, e⟩ := ev_at m [.d (schD T), .d (stoD T), .d (.str x)] 3 (by omega) F_blocks rfl
    rw [e]
    have e1 : call F G m f_blocks_by_keys [.d (schD T), .d (stoD T), .d (.str x)] = .exc ⟨c_Nothing, []⟩ [] := by
      obtain ⟨m, hm, rfl, e⟩ := ev_at m [.d (schD T), .d (stoD T), .d (.str x)] 2 (by omega) F_blocks_by_keys rfl
      rw [e]
      simp [b_blocks_by_keys, doCall, c_keys_out hx m (by omega)]
    simp [b_blocks, doCall, e1]
  simp [b__law_come_to, doCall, e1, lim, noth, Fl.catch, exh]
theorem c_out2 (n : Nat) (hn : 8 ≤ n) : call F G n f__law_come_to [.d (.int 2), .d (schD T), .d (stoD T), .d (.str x), .d (.tuple [.tuple [.int 1]])] = .ok (.d noth) [] := by
  obtain ⟨m, hm, rfl, e⟩ := ev_at n [.d (.int 2), .d (schD T), .d (stoD T), .d (.str x), .d (.tuple [.tuple [.int 1]])] 7 hn F__law_come_to rfl
  rw [e]
  have e1 : call F G m f_block_with [.d (schD T), .d (stoD T), .d (.str x), .d (.tuple [.tuple [.int 1]])] = .exc ⟨c_Nothing, []⟩ [] := by
    obtain ⟨m, hm, rfl, e⟩ := ev_at m [.d (schD T), .d (stoD T), .d (.str x), .d (.tuple [.tuple [.int 1]])] 6 hm F_block_with rfl
    rw [e]
    have e1 : call F G m f_is_row [.d (.tuple [.tuple [.int 1]])] = .ok (.d (.bool false)) [] := by
      obtain ⟨m, rfl⟩ : ∃ k, m = k + 5 := ⟨m - 5, by omega⟩
      with_unfolding_all rfl
    simp [b_block_with, doCall, e1]
  simp [b__law_come_to, doCall, e1, lim, noth, Fl.catch, exh]
theorem c_out3 (n : Nat) (hn : 4 ≤ n) (d : D) : call F G n f__law_come_to [.d (.int 3), .d (schD T), .d (stoD T), .d (.str x), .d d] = .ok (.d noth) [] := by
  obtain ⟨m, hm, rfl, e⟩ := ev_at n [.d (.int 3), .d (schD T), .d (stoD T), .d (.str x), .d d] 3 hn F__law_come_to rfl
  rw [e]
  have e1 : call F G m f_cut_to [.d (schD T), .d (stoD T), .d (.str x), .d d] = .exc ⟨c_Nothing, []⟩ [] := by
    obtain ⟨m, hm, rfl, e⟩ := ev_at m [.d (schD T), .d (stoD T), .d (.str x), .d d] 2 hm F_cut_to rfl
    rw [e]
    simp [b_cut_to, doCall, c_rows_out hx m (by omega)]
  simp [b__law_come_to, doCall, e1, lim, noth, Fl.catch, exh]
end
end Mp
set_option maxHeartbeats 1000000
/-! PZ: a table's turn of the law. -/
namespace Mp
open PySem
/-- the slots of the law's frame -/
@[simp] def stq (x0 b x2 x3 x4 x5 x6 x7 x8 x12 x15 x16 : Option X) : S := [x0, b, x2, x3, x4, x5, x6, x7, x8, none, none, none, x12, none, none, x15, x16, none, none, none, none, none, none, none]
theorem rowlcI (i m : Nat) (hm : 3 ≤ m) (c : Nat) (hc : c ≤ 3) (j : Nat) (pre : X → S) (hset : ∀ (b : X) (x : Option X), ((pre b).set j x).set j none = pre b) (hjn : ∀ (b b' : X) (x : Option X), ((pre b).set j x).set i (some b') = (pre b').set j x) (h0j : ∀ (b : X) (x : Option X), ((pre b).set j x)[i]? = some (some b)) {b : X} (hb : Bag b) :
    ∃ (r : Row) (b' : X), lcL (lcT (call F G m) G [j] (.call f__law_small_value [.mu i]) (.n j) []) ((List.range c).map fun (i : Nat) => X.d (.int (i : Int))) [] (pre b) = .ok (r.map fun a => X.d a.d) (pre b') ∧ Bag b' ∧ r.length = c := by
  obtain ⟨ys, t', e1, ⟨b', h1, rfl⟩, h2⟩ := lcL_rel (l := List.range c) (f := fun (i : Nat) => X.d (.int (i : Int))) (turn := lcT (call F G m) G [j] (.call f__law_small_value [.mu i]) (.n j) []) (fun t => ∃ b, Bag b ∧ t = pre b) (fun _ y => ∃ a : A5, y = X.d a.d) [] (fun z t hi ⟨b, hb, e⟩ => by
    subst e
    obtain ⟨a, b2, e2, k2⟩ := c_small m hm hb
    refine ⟨.d a.d, pre b2, ?_, ⟨b2, k2, rfl⟩, ⟨a, rfl⟩⟩
    simp [lcT, lcT0, doCall, h0j, e2, hjn, hset]) (by simp [lim]; omega) (pre b) ⟨b, hb, rfl⟩
  obtain ⟨r, e3, e4⟩ := all2_vals h2
  exact ⟨r, b', by rw [e1, e3]; rfl, h1, by rw [e4, List.length_range]⟩
theorem filter_prs {T : List Tab} {t : Tab} (hn : NmD T) (h : t ∈ T) : (prs T).filter (fun p => p.1.n == t.n) = (grp t.k t.rs).map fun g => (t, g) := by
  have key : ∀ l : List Tab, (prs l).filter (fun p => p.1.n == t.n) = prs (l.filter fun u => u.n == t.n) := by
    intro l
    induction l with
    | nil => rfl
    | cons u l ih =>
      have e : prs (u :: l) = ((grp u.k u.rs).map fun g => (u, g)) ++ prs l := by simp [prs]
      rw [e, List.filter_append, ih, List.filter_cons]
      by_cases hu : (u.n == t.n) = true
      · have : ((grp u.k u.rs).map fun g => (u, g)).filter (fun p => p.1.n == t.n) = (grp u.k u.rs).map fun g => (u, g) := by
          rw [List.filter_eq_self]
          intro p hp
          obtain ⟨g, _, rfl⟩ := List.mem_map.mp hp
          exact hu
        rw [this, if_pos hu]
        simp [prs]
      · have : ((grp u.k u.rs).map fun g => (u, g)).filter (fun p => p.1.n == t.n) = [] := by
          rw [List.filter_eq_nil_iff]
          intro p hp
          obtain ⟨g, _, rfl⟩ := List.mem_map.mp hp
          exact hu
        rw [this, if_neg hu]
        simp
  rw [key, filter_in hn h]
  simp [prs]
theorem sh_told {d : D} {n dp : Nat} (h : Sh n dp d) (h1 : 1 ≤ n) : Sh (1 + 2 * n) (dp + 1) (told d) := Sh.tup (m := 2) (n := n) (fun x hx => by
  simp at hx
  rcases hx with rfl | rfl
  · exact (Sh.leaf (by decide +kernel)).mono h1 (by omega)
  · exact h) (by simp)
theorem eqv_rownil (l : List Row) : PyData.eqv (rowsD l) (.tuple []) = decide (l = []) := by cases l <;> simp [rowsD]
theorem in_rows (r : Row) (l : List Row) : bIn (.d (rowD r)) (.d (rowsD l)) = some (decide (r ∈ l)) := by simp [rowsD, has_row]
theorem bw_cases (acc : List Gr) (q : Row) : (acc.filter (fun g => decide (g.1 = q)) = [] ∧ bw acc q = []) ∨ ∃ g l, acc.filter (fun g => decide (g.1 = q)) = g :: l ∧ bw acc q = g.2 ∧ g ∈ acc ∧ g.1 = q := by
  unfold bw
  cases e : acc.filter fun g => decide (g.1 = q) with
  | nil =>
    left
    have : acc.find? (fun g => decide (g.1 = q)) = none := by
      rw [List.find?_eq_none]
      intro g hg
      exact (List.filter_eq_nil_iff.mp e) g hg
    rw [this]
    exact ⟨rfl, rfl⟩
  | cons g l =>
    right
    have h : acc.find? (fun g => decide (g.1 = q)) = some g := by rw [← List.head?_filter, e]; rfl
    rw [h]
    have hm : g ∈ acc.filter fun g => decide (g.1 = q) := by rw [e]; simp
    exact ⟨g, l, rfl, rfl, (List.mem_filter.mp hm).1, of_decide_eq_true (List.mem_filter.mp hm).2⟩
def evL (T : List Tab) : X := .d (.list ((prs T).map evE))
section
variable {T : List Tab} {t : Tab} (O : OkT T) (ht : t ∈ T)
include O ht
theorem OkT.sh_tab : Sh 197 3 (.tuple ((grp t.k t.rs).map fun g => rowsD g.2)) := Sh.tup (m := 4) (n := 49) (fun x hx => by
  obtain ⟨g, hg, rfl⟩ := List.mem_map.mp hx
  have h1 := ((O.g ht).sublist hg).length_le
  have h2 := O.rl t ht
  exact sh_rows (fun r hr => O.row3 ht ((O.g ht).sub hg hr)) (by omega)) (by rw [List.length_map]; exact O.glen ht)
theorem wrong_step (m : Nat) {W : List D} (hW : ∀ d ∈ W, call F G m f__law_come_to [.d (.int 3), .d (schD T), .d (stoD T), .d (.str t.n), .d d] = .ok (.d noth) []) (hl : W.length ≤ lim) (x0 x1 x2 x5 x6 x7 x9 x10 x11 x12 x13 x14 x15 x16 x17 x18 x19 x20 x22 x23 : Option X) :
    lcL (lcT (call F G m) G [21] (.v 21) (.n 21) [.tr (.b .ne (.call f__law_come_to [.k (.int 3), .v 3, .v 4, .v 8, .v 21]) (.tup [.k (.str (Str.ofString "nothing"))]))]) (W.map X.d) [] [x0, x1, x2, some (.d (schD T)), some (.d (stoD T)), x5, x6, x7, some (.d (.str t.n)), x9, x10, x11, x12, x13, x14, x15, x16, x17, x18, x19, x20, none, x22, x23] =
      .ok [] [x0, x1, x2, some (.d (schD T)), some (.d (stoD T)), x5, x6, x7, some (.d (.str t.n)), x9, x10, x11, x12, x13, x14, x15, x16, x17, x18, x19, x20, none, x22, x23] := by
  rw [lcL_filter (f := X.d) (fun _ => false) (fun d => X.d d) (fun d hd => ?_) hl]
  · simp
  · have hdp : deep noth noth = true := by decide +kernel
    have heq : PyData.eqv noth noth = true := by decide +kernel
    simp only [noth] at hdp heq
    simp [lcT, lcT0, doCall, hW d hd, noth, lim, hdp, heq]
theorem law_b7 (m : Nat) (hm : 7 ≤ m) {b : X} (hb : Bag b) (x0 x2 x6 x7 y12 y15 y16 : Option X) : ∃ (b' : X) (y12' : Option X), (exs (call F G m) G [(.set (.n 11) (.lc [19, 15, 16] (.tup [(.v 15), (.v 16)]) (.t [(.n 19), (.n 15), (.n 16)]) (.v 5) [(.tr (.b .eq (.p 19) (.p 8)))])), (.if_ (.u .not_ (.tr (.call f__law_alike [(.call f__law_come_to [(.k (.int 1)), (.v 3), (.v 4), (.v 8), (.k .none)]), (.tup [(.k (.str (Str.ofString "told"))), (.u .tuple (.lc [15, 16] (.v 16) (.t [(.n 15), (.n 16)]) (.v 11) []))])]))) [(.ret (.k (.bool false)))] []), (.set (.n 12) (.u .tuple (.lc [20] (.call f__law_small_value [(.mu 1)]) (.n 20) (.range (.v 9)) []))), (.set (.n 13) (.b .ix (.b .add (.lc [15, 16] (.v 16) (.t [(.n 15), (.n 16)]) (.v 11) [(.tr (.call f__law_alike [(.v 15), (.slice (.p 12) none (some (.v 10)))]))]) (.lst [(.tup [])])) (.k (.int 0)))), (.if_ (.u .not_ (.tr (.call f__law_alike [(.lst [(.call f__law_come_to [(.k (.int 0)), (.v 3), (.v 4), (.v 8), (.v 12)]), (.call f__law_come_to [(.k (.int 2)), (.v 3), (.v 4), (.v 8), (.slice (.p 12) none (some (.v 10)))])]), (.lst [(.tup [(.k (.str (Str.ofString "told"))), (.slice (.p 12) none (some (.v 10)))]), (.tup [(.k (.str (Str.ofString "told"))), (.v 13)])])]))) [(.ret (.k (.bool false)))] []), (.set (.n 14) (.lst [(.tup []), (.k .none), (.ite (.or_ (.tr (.b .eq (.p 13) (.tup []))) (.tr (.b .notin (.p 12) (.p 13)))) (.tup [(.v 12)]) (.tup [])), (.ite (.tr (.b .gt (.u .len (.p 11)) (.k (.int 1)))) (.u .tuple (.lc [15, 16] (.b .ix (.p 16) (.k (.int 0))) (.t [(.n 15), (.n 16)]) (.v 11) [])) (.tup []))])), (.if_ (.tr (.b .ne (.lc [21] (.v 21) (.n 21) (.v 14) [(.tr (.b .ne (.call f__law_come_to [(.k (.int 3)), (.v 3), (.v 4), (.v 8), (.v 21)]) (.tup [(.k (.str (Str.ofString "nothing")))])))]) (.lst []))) [(.ret (.k (.bool false)))] [])] ((stq x0 (some b) x2 (some (.d (schD T))) (some (.d (stoD T))) (some (evL T)) x6 x7 (some (.d (.str t.n))) y12 y15 y16).set 9 (some (.d (.int t.c))) |>.set 10 (some (.d (.int t.k))))).kill [9, 10, 11, 13, 14] =
    .nx (stq x0 (some b') x2 (some (.d (schD T))) (some (.d (stoD T))) (some (evL T)) x6 x7 (some (.d (.str t.n))) y12' y15 y16) ∧ Bag b' := by
  have hp := O.plen
  have hg4 := O.glen ht
  have hc3 := O.c3 t ht
  obtain ⟨r, b', e1, hb', hr⟩ := rowlcI 1 m (by omega) t.c hc3 20 (fun b => [x0, some b, x2, some (.d (schD T)), some (.d (stoD T)), some (evL T), x6, x7, some (.d (.str t.n)), some (.d (.int t.c)), some (.d (.int t.k)), some (.d (.list ((grp t.k t.rs).map grE))), y12, none, none, y15, y16, none, none, none, none, none, none, none]) (fun _ _ => rfl) (fun _ _ _ => rfl) (fun _ _ => rfl) hb
  refine ⟨b', some (.d (rowD r)), ?_, hb'⟩
  have hc3' : (t.c : Int) ≤ 16777216 := by omega
  have hdd : datas (r.map fun a => X.d a.d) = some (r.map A5.d) := datas_map A5.d r
  simp only [evL] at e1
  simp [evL, Function.comp_def]
  rw [lcL_filter (f := fun p : Tab × Gr => X.d (evE p)) (fun p => p.1.n == t.n) (fun p => X.d (grE p.2)) (fun p hp => ?_) (by simp only [lim]; omega), filter_prs O.nd ht]
  rotate_left
  · simp [lcT, lcT0, evE, grE]
    split <;> simp [lim]
  simp [Function.comp_def, doCall, c_come1 O ht m (by omega), dats_map grE]
  rw [lcL_map (f := fun g : Gr => X.d (grE g)) (fun g => X.d (rowsD g.2)) (fun g hg => ?_) (by simp only [lim]; omega)]
  rotate_left
  · simp [lcT, lcT0, grE]
  have hdr : datas ((grp t.k t.rs).map fun g => X.d (rowsD g.2)) = some ((grp t.k t.rs).map fun g => rowsD g.2) := datas_map _ _
  have al1 : call F G m f__law_alike [.d (told (.tuple ((grp t.k t.rs).map fun g => rowsD g.2))), .d (.tuple [.str (Str.ofString "told"), .tuple ((grp t.k t.rs).map fun g => rowsD g.2)])] = .ok (.d (.bool true)) [] :=
    c_same m (by omega) rfl rfl (sh_told (O.sh_tab ht) (by omega)) (by omega) (by omega)
  simp [hdr, lim, doCall, al1, hc3', Function.comp_def]
  rw [e1]
  simp [hdd, Function.comp_def]
  rw [show X.d (PyData.tuple (r.map A5.d)) = .d (rowD r) from rfl]
  have hq3 : (r.take t.k).length ≤ 3 := by rw [List.length_take]; omega
  rw [lcL_filter (f := fun g : Gr => X.d (grE g)) (fun g => decide (g.1 = r.take t.k)) (fun g => X.d (rowsD g.2)) (fun g hg => ?_) (by simp only [lim]; omega)]
  rotate_left
  · have ek := c_keys m (by omega) g.1 (r.take t.k) ⟨4, sh_row (O.key3 ht hg), by omega⟩ ⟨4, sh_row hq3, by omega⟩
    simp [lcT, lcT0, grE, doCall, slice_row, -sliceOf, ek]
    by_cases h : g.1 = r.take t.k <;> simp [h]
  have hfl : ((grp t.k t.rs).filter fun g => decide (g.1 = r.take t.k)).length ≤ 4 := Nat.le_trans (List.length_filter_le _ _) hg4
  have step : ∀ (st : S), (kB1 (call F G m) G .add (.lst [.tup []]) (X.lst (((grp t.k t.rs).filter fun g => decide (g.1 = r.take t.k)).map fun g => X.d (rowsD g.2))) st).bind (kB1 (call F G m) G .ix (.k (.int 0))) = .ok (.d (rowsD (bw (grp t.k t.rs) (r.take t.k)))) st := fun st => by
    have hd2 : ∀ l : List Gr, datas (l.map fun g => X.d (rowsD g.2)) = some (l.map fun g => rowsD g.2) := fun l => datas_map _ l
    rcases bw_cases (grp t.k t.rs) (r.take t.k) with ⟨h1, h2⟩ | ⟨g, l, h1, h2, _⟩
    · rw [h1, h2]; simp [lim, ixOf, rowsD]
    · rw [h1, h2]
      rw [h1] at hfl
      have hl : l.length ≤ 16777214 := by simp at hfl; omega
      have hpos : (0 : Int) < l.length + 1 + 1 := by omega
      simp [lim, hd2, hl, ixOf, hpos]
  simp only [bind_ok, kLc3, back, List.foldl_cons, List.foldl_nil]
  simp only [List.set_cons_succ, List.set_cons_zero, List.getElem?_cons_succ, List.getElem?_cons_zero, Option.getD_some, Option.getD_none]
  rw [step]
  have hbl : (bw (grp t.k t.rs) (r.take t.k)).length ≤ 4 ∧ (∀ q ∈ bw (grp t.k t.rs) (r.take t.k), q ∈ t.rs) ∧ (r ∈ t.rs → r ∈ bw (grp t.k t.rs) (r.take t.k)) := by
    rcases bw_cases (grp t.k t.rs) (r.take t.k) with ⟨h1, h2⟩ | ⟨g, l, h1, h2, h3, h4⟩
    · rw [h2]
      refine ⟨by simp, by simp, fun h => ?_⟩
      obtain ⟨g, hg, hrg⟩ := (O.g ht).ex h
      exact absurd (decide_eq_true (((O.g ht).mem hg h).mp hrg).symm) (List.filter_eq_nil_iff.mp h1 g hg)
    · rw [h2]
      exact ⟨Nat.le_trans ((O.g ht).sublist h3).length_le (O.rl t ht), fun q hq => (O.g ht).sub h3 hq, fun h => ((O.g ht).mem h3 h).mpr h4.symm⟩
  have c0 := c_come0 O ht m (by omega) r
  have c2 := c_come2 O ht m (by omega) (r.take t.k) (by simp only [lim]; omega)
  generalize bw (grp t.k t.rs) (r.take t.k) = du at hbl c2
  obtain ⟨hb1, hb2, hb3⟩ := hbl
  have al2 : call F G m f__law_alike [.lst [.d (told (rowD (r.take t.k))), .d (told (rowsD du))], .lst [.d (.tuple [.str (Str.ofString "told"), rowD (r.take t.k)]), .d (.tuple [.str (Str.ofString "told"), rowsD du])]] = .ok (.d (.bool true)) [] :=
    c_same (d := .list [told (rowD (r.take t.k)), told (rowsD du)]) m (by omega) rfl rfl (Sh.lst (m := 2) (n := 99) (dp := 3) (fun x hx => by
      simp at hx
      rcases hx with rfl | rfl
      · exact (sh_told ((sh_row hq3).mono (by omega : 4 ≤ 49) (by omega : 1 ≤ 2)) (by omega))
      · exact (sh_told (sh_rows (fun q hq => O.row3 ht (hb2 q hq)) (by omega)) (by omega))) (by simp)) (by omega) (by omega)
  have fin : ∀ A Bv : List Row, A.length ≤ 12 → Bv.length ≤ 12 → (∀ q ∈ A, q.length ≤ 3) → (∀ q ∈ Bv, q.length ≤ 3) → (A = [] ∨ ¬ (∀ q ∈ A, q ∈ t.rs) ∨ (kd (A.map fun q => q.take t.k)).length ≠ 1) → (Bv = [] ∨ ¬ (∀ q ∈ Bv, q ∈ t.rs) ∨ (kd (Bv.map fun q => q.take t.k)).length ≠ 1) →
      Fl.kill [9, 10, 11, 13, 14] ((ex1 (call F G m) G (.if_ (.tr (.b .ne (.lc [21] (.v 21) (.n 21) (.v 14) [(.tr (.b .ne (.call f__law_come_to [(.k (.int 3)), (.v 3), (.v 4), (.v 8), (.v 21)]) (.tup [(.k (.str (Str.ofString "nothing")))])))]) (.lst []))) [(.ret (.k (.bool false)))] []) [x0, some b', x2, some (.d (schD T)), some (.d (stoD T)), some (.d (.list ((prs T).map evE))), x6, x7, some (.d (.str t.n)), some (.d (.int t.c)), some (.d (.int t.k)), some (.d (.list ((grp t.k t.rs).map grE))), some (.d (rowD r)), some (.d (rowsD du)),
        some (.lst [.d (.tuple []), .d .none, .d (rowsD A), .d (rowsD Bv)]), y15, y16, none, none, none, none, none, none, none]).andThen (exs (call F G m) G [])) =
      .nx [x0, some b', x2, some (.d (schD T)), some (.d (stoD T)), some (.d (.list ((prs T).map evE))), x6, x7, some (.d (.str t.n)), none, none, none, some (.d (rowD r)), none, none, y15, y16, none, none, none, none, none, none, none] := fun A Bv l1 l2 l3 l4 hA hB => by
    have w := wrong_step O ht m (W := [.tuple [], .none, rowsD A, rowsD Bv]) (fun d hd => by
      simp at hd
      rcases hd with rfl | rfl | rfl | rfl
      · exact c_come3n O ht m hm [] (by simp) (by simp) (.inl rfl)
      · exact c_come3o O ht m (by omega)
      · exact c_come3n O ht m hm A l1 l3 hA
      · exact c_come3n O ht m hm Bv l2 l4 hB) (by simp [lim]) x0 (some b') x2 (some (.d (.list ((prs T).map evE)))) x6 x7 (some (.d (.int t.c))) (some (.d (.int t.k))) (some (.d (.list ((grp t.k t.rs).map grE)))) (some (.d (rowD r))) (some (.d (rowsD du))) (some (.d (.list [.tuple [], .none, rowsD A, rowsD Bv]))) y15 y16 none none none none none none
    simp only [List.map_cons, List.map_nil] at w
    simp
    rw [w]
    simp [lim]
  have hA1 : (du = [] ∨ r ∉ du) → r ∉ t.rs := fun h z => by
    rcases h with h | h
    · have := hb3 z; rw [h] at this; cases this
    · exact h (hb3 z)
  have hAr : (du = [] ∨ r ∉ du) → (([r] : List Row) = [] ∨ ¬ (∀ q ∈ [r], q ∈ t.rs) ∨ (kd (([r] : List Row).map fun q => q.take t.k)).length ≠ 1) := fun h => .inr (.inl fun z => hA1 h (z r (by simp)))
  have hB1 : 1 < (grp t.k t.rs).length → (((grp t.k t.rs).map fun g => g.2.headD []) = [] ∨ ¬ (∀ q ∈ (grp t.k t.rs).map fun g => g.2.headD [], q ∈ t.rs) ∨ (kd (((grp t.k t.rs).map fun g => g.2.headD []).map fun q => q.take t.k)).length ≠ 1) := fun h => by
    have e : (((grp t.k t.rs).map fun g => g.2.headD []).map fun q => q.take t.k) = (grp t.k t.rs).map (·.1) := by
      rw [List.map_map]
      refine List.map_congr_left fun g hg => ?_
      obtain ⟨n1, n2⟩ := (O.g ht).ne g hg
      cases hz : g.2 with
      | nil => exact absurd hz n1
      | cons q l => simp [hz]; exact n2 q (by rw [hz]; simp)
    right; right
    rw [e, kd, kd_nd _ [] (by simpa using (O.g ht).nd)]
    simp; omega
  have hBc : ∀ q ∈ (grp t.k t.rs).map fun g => g.2.headD [], q.length ≤ 3 := fun q hq => by
    obtain ⟨g, hg, rfl⟩ := List.mem_map.mp hq
    obtain ⟨n1, n2⟩ := (O.g ht).ne g hg
    cases hz : g.2 with
    | nil => exact absurd hz n1
    | cons q l => simp; exact O.row3 ht ((O.g ht).sub hg (by rw [hz]; simp))
  have hr3 : r.length ≤ 3 := by omega
  simp only [fl_ok, kSet, asg, asgFl, and_nx, exs_cons, List.set_cons_succ, List.set_cons_zero]
  rw [ex_if]
  simp [doCall, c0, c2, slice_row, -sliceOf, lim, al2, eqv_rownil, in_rows, -bIn, -ex_if]
  have eB : rowsD ((grp t.k t.rs).map fun g => g.2.headD []) = .tuple ((grp t.k t.rs).map fun g => rowD (g.2.headD [])) := by simp [rowsD, Function.comp_def]
  have hdh : datas ((grp t.k t.rs).map fun g => X.d (rowD (g.2.headD []))) = some ((grp t.k t.rs).map fun g => rowD (g.2.headD [])) := datas_map _ _
  have lcB : ∀ st : S, (∀ g ∈ grp t.k t.rs, lcT (call F G m) G [15, 16] (.b .ix (.p 16) (.k (.int 0))) (.t [.n 15, .n 16]) [] (X.d (grE g)) st = .ok (some (X.d (rowD (g.2.headD [])))) st) → lcL (lcT (call F G m) G [15, 16] (.b .ix (.p 16) (.k (.int 0))) (.t [.n 15, .n 16]) []) ((grp t.k t.rs).map fun g => X.d (grE g)) [] st = .ok ((grp t.k t.rs).map fun g => X.d (rowD (g.2.headD []))) st := fun st h =>
    lcL_map (f := fun g : Gr => X.d (grE g)) (fun g => X.d (rowD (g.2.headD []))) h (by simp only [lim]; omega)
  have ixg : ∀ g ∈ grp t.k t.rs, bIx (.d (rowsD g.2)) (.d (.int 0)) = some (.d (rowD (g.2.headD []))) := fun g hg => by
    obtain ⟨n1, n2⟩ := (O.g ht).ne g hg
    cases hz : g.2 with
    | nil => exact absurd hz n1
    | cons q l =>
      have hpos : (0 : Int) < l.length + 1 := by omega
      simp [rowsD, ixOf, hpos]
  have hgl : ((grp t.k t.rs).map fun g => g.2.headD []).length ≤ 12 := by rw [List.length_map]; omega
  by_cases hB : 1 < (grp t.k t.rs).length
  · have hB' : (1 : Int) < (grp t.k t.rs).length := by omega
    by_cases h1 : du = []
    · have f := fin [r] _ (by simp) hgl (by simpa using hr3) hBc (hAr (.inl h1)) (hB1 hB)
      rw [eB] at f
      simp [h1, hB', lim, dats_map grE, Function.comp_def, -ex_if]
      rw [lcB _ fun g hg => by simp [lcT, lcT0, grE, ixg g hg, -bIx]]
      simp [hdh, lim, -ex_if, -List.headD_eq_head?_getD]
      subst h1
      exact f
    · by_cases h2 : r ∈ du
      · have f := fin [] _ (by simp) hgl (by simp) hBc (.inl rfl) (hB1 hB)
        rw [eB] at f
        simp [h1, h2, hB', lim, dats_map grE, Function.comp_def, -ex_if]
        rw [lcB _ fun g hg => by simp [lcT, lcT0, grE, ixg g hg, -bIx]]
        simp [hdh, lim, -ex_if, -List.headD_eq_head?_getD]
        exact f
      · have f := fin [r] _ (by simp) hgl (by simpa using hr3) hBc (hAr (.inr h2)) (hB1 hB)
        rw [eB] at f
        simp [h1, h2, hB', lim, dats_map grE, Function.comp_def, -ex_if]
        rw [lcB _ fun g hg => by simp [lcT, lcT0, grE, ixg g hg, -bIx]]
        simp [hdh, lim, -ex_if, -List.headD_eq_head?_getD]
        exact f
  · have hB' : ¬ (1 : Int) < (grp t.k t.rs).length := by omega
    by_cases h1 : du = []
    · have f := fin [r] [] (by simp) (by simp) (by simpa using hr3) (by simp) (hAr (.inl h1)) (.inl rfl)
      simp [h1, hB', lim, -ex_if]
      subst h1
      exact f
    · by_cases h2 : r ∈ du
      · have f := fin [] [] (by simp) (by simp) (by simp) (by simp) (.inl rfl) (.inl rfl)
        simp [h1, h2, hB', lim, -ex_if]
        exact f
      · have f := fin [r] [] (by simp) (by simp) (by simpa using hr3) (by simp) (hAr (.inr h2)) (.inl rfl)
        simp [h1, h2, hB', lim, -ex_if]
        exact f
end
end Mp
set_option maxHeartbeats 1000000
/-! PQ: a block's turn of the law. -/
namespace Mp
open PySem
/-- rows that are kept by draws -/
theorem keptlc (i m : Nat) (hm : 1 ≤ m) (j : Nat) (pre : X → S) (hset : ∀ (b : X) (x : Option X), ((pre b).set j x).set j none = pre b) (hjn : ∀ (b b' : X) (x : Option X), ((pre b).set j x).set i (some b') = (pre b').set j x) (hij : ∀ (b : X) (x : Option X), ((pre b).set j x)[i]? = some (some b)) (hjj : ∀ (b : X) (x : Option X), ((pre b).set j x)[j]? = some x) :
    ∀ (l acc : List Row) {b : X}, Bag b → acc.length + l.length ≤ lim → ∃ (ks : List Row) (b' : X), lcL (lcT (call F G m) G [j] (.v j) (.n j) [.tr (.b .eq (.call f__law_take [.mu i, .k (.int 2)]) (.k (.int 0)))]) (l.map fun r => X.d (rowD r)) (acc.map fun r => X.d (rowD r)) (pre b) = .ok ((acc ++ ks).map fun r => X.d (rowD r)) (pre b') ∧ Bag b' ∧ ks.Sublist l
  | [], acc, b, hb, _ => ⟨[], b, by simp [lcL], hb, .slnil⟩
  | r :: l, acc, b, hb, hl => by
    obtain ⟨v, b1, e1, h1, h2, h3⟩ := c_take (k := 2) (by omega) (by omega) m hm hb
    simp only [List.length_cons] at hl
    have hal : acc.length < lim := by omega
    by_cases hv : v = 0
    · subst hv
      obtain ⟨ks, b', e2, k1, k2⟩ := keptlc i m hm j pre hset hjn hij hjj l (acc ++ [r]) h1 (by simp; omega)
      refine ⟨r :: ks, b', ?_, k1, k2.cons_cons r⟩
      have et : lcT (call F G m) G [j] (.v j) (.n j) [.tr (.b .eq (.call f__law_take [.mu i, .k (.int 2)]) (.k (.int 0)))] (X.d (rowD r)) (pre b) = .ok (some (X.d (rowD r))) (pre b1) := by
        simp [lcT, lcT0, doCall, hij, e1, hjn, hjj, hset]
      show lcL _ (X.d (rowD r) :: l.map fun r => X.d (rowD r)) _ _ = _
      unfold lcL
      rw [et]
      simp only [calm_ok, bind_ok, List.length_map, hal, if_true]
      simpa using e2
    · obtain ⟨ks, b', e2, k1, k2⟩ := keptlc i m hm j pre hset hjn hij hjj l acc h1 (by omega)
      refine ⟨ks, b', ?_, k1, k2.cons r⟩
      have et : lcT (call F G m) G [j] (.v j) (.n j) [.tr (.b .eq (.call f__law_take [.mu i, .k (.int 2)]) (.k (.int 0)))] (X.d (rowD r)) (pre b) = .ok none (pre b1) := by
        simp [lcT, lcT0, doCall, hij, e1, hjn, hv, hset]
      show lcL _ (X.d (rowD r) :: l.map fun r => X.d (rowD r)) _ _ = _
      unfold lcL
      rw [et]
      exact e2
theorem items_rows (l : List Row) : itemsD (.d (rowsD l)) = some (l.map rowD) := rfl
theorem slice_last (l : List Row) (h : l ≠ []) : sliceOf (some (-1)) none (.d (rowsD l)) = some (.d (rowsD (l.drop (l.length - 1)))) := by
  have hp : 0 < l.length := List.length_pos_iff.mpr h
  have e : cut (l.map rowD) (some (-1)) none = (l.drop (l.length - 1)).map rowD := by
    rw [cut_map]
    congr 1
    unfold cut sIx
    have h1 : ((-1 : Int) + (l.length : Int)).toNat = l.length - 1 := by omega
    simp only [h1, show ((-1 : Int) < 0) from by decide, if_true]
    rw [List.take_of_length_le (by simp)]
  simp [rowsD, e]
theorem OkT.sh_sto {T : List Tab} (O : OkT T) : Sh 301 4 (stoD T) := Sh.tup (m := 3) (n := 100) (fun x hx => by
  obtain ⟨u, hu, rfl⟩ := List.mem_map.mp hx
  exact (Sh.tup (m := 2) (n := 49) (dp := 2) (fun y hy => by
    simp at hy
    rcases hy with rfl | rfl
    · have : Sh 1 0 (.str u.n) := by rcases O.nm u hu with h | h | h <;> rw [h] <;> exact Sh.leaf (by decide +kernel)
      exact this.mono (by omega) (by omega)
    · exact sh_rows (fun r hr => O.row3 hu hr) (by have := O.rl u hu; omega)) (by simp)).mono (by omega) (by omega)) (by simpa using O.len)
section
variable {T : List Tab} {t : Tab} (O : OkT T) (ht : t ∈ T)
include O ht
/-- a store with a table's rows cut -/
theorem OkT.cut {rs : List Row} (hs : rs.Sublist t.rs) : OkT (cutT T t.n rs) ∧ schD (cutT T t.n rs) = schD T := by
  have hm : ∀ u ∈ cutT T t.n rs, ∃ w ∈ T, u.n = w.n ∧ u.c = w.c ∧ u.k = w.k ∧ u.rs.Sublist w.rs := fun u hu => by
    obtain ⟨w, hw, rfl⟩ := List.mem_map.mp hu
    by_cases h : (w.n == t.n) = true
    · have : w = t := by
        have h1 := find_in O.nd ht
        have h2 := find_in O.nd hw
        rw [eq_of_beq h] at h2
        rw [h1] at h2
        exact (Option.some.inj h2).symm
      subst this
      exact ⟨w, hw, by simp, by simp, by simp, by simpa using hs⟩
    · exact ⟨w, hw, by simp [h], by simp [h], by simp [h], by simp [h]⟩
  have hn : (cutT T t.n rs).map Tab.n = T.map Tab.n := by
    unfold cutT
    rw [List.map_map]
    refine List.map_congr_left fun u _ => ?_
    show (if u.n == t.n then { u with rs := rs } else u).n = u.n
    split <;> rfl
  refine ⟨⟨by unfold NmD; rw [hn]; exact O.nd, by unfold cutT; rw [List.length_map]; exact O.len, fun u hu => ?_, fun u hu => ?_, fun u hu => ?_, fun u hu => ?_, fun u hu => ?_, fun u hu => ?_, fun u hu => ?_⟩, ?_⟩
  · obtain ⟨w, hw, e1, e2, e3, e4⟩ := hm u hu; rw [e1]; exact O.nm w hw
  · obtain ⟨w, hw, e1, e2, e3, e4⟩ := hm u hu; rw [e3]; exact O.k1 w hw
  · obtain ⟨w, hw, e1, e2, e3, e4⟩ := hm u hu; rw [e3, e2]; exact O.kc w hw
  · obtain ⟨w, hw, e1, e2, e3, e4⟩ := hm u hu; rw [e2]; exact O.c3 w hw
  · obtain ⟨w, hw, e1, e2, e3, e4⟩ := hm u hu; exact (O.asc w hw).sublist e4
  · obtain ⟨w, hw, e1, e2, e3, e4⟩ := hm u hu; exact Nat.le_trans e4.length_le (O.rl w hw)
  · obtain ⟨w, hw, e1, e2, e3, e4⟩ := hm u hu
    intro r hr
    rw [e2]; exact O.cl w hw r (e4.subset hr)
  · unfold schD cutT
    rw [List.map_map]
    refine congrArg PyData.tuple (List.map_congr_left fun u _ => ?_)
    show schE (if u.n == t.n then { u with rs := rs } else u) = schE u
    split <;> rfl
theorem law_b8 (m : Nat) (hm : 10 ≤ m) {g : Gr} (hg : g ∈ grp t.k t.rs) {b : X} (hb : Bag b) (x0 x2 x6 x7 y12 : Option X) : ∃ b' : X, (exs (call F G m) G [(.set (.n 17) (.u .tuple (.lc [12] (.v 12) (.n 12) (.v 16) [(.tr (.b .eq (.call f__law_take [(.mu 1), (.k (.int 2))]) (.k (.int 0))))]))), (.set (.n 17) (.ite (.tr (.b .ne (.p 17) (.tup []))) (.v 17) (.slice (.p 16) (some (.u .neg (.k (.int 1)))) none))), (.set (.n 18) (.u .tuple (.lc [19, 22] (.tup [(.v 19), (.u .tuple (.lc [12] (.v 12) (.n 12) (.v 22) [(.or_ (.tr (.b .ne (.p 19) (.p 8))) (.or_ (.tr (.b .notin (.p 12) (.p 16))) (.tr (.b .in_ (.p 12) (.p 17)))))]))]) (.t [(.n 19), (.n 22)]) (.v 4) []))), (.if_ (.u .not_ (.tr (.call f__law_alike [(.lst [(.call f__law_come_to [(.k (.int 3)), (.v 3), (.v 4), (.v 8), (.v 17)]), (.call f_checked_store [(.v 3), (.v 18)])]), (.lst [(.tup [(.k (.str (Str.ofString "told"))), (.v 18)]), (.v 18)])]))) [(.ret (.k (.bool false)))] [])] (stq x0 (some b) x2 (some (.d (schD T))) (some (.d (stoD T))) (some (evL T)) x6 x7 (some (.d (.str t.n))) y12 (some (.d (rowD g.1))) (some (.d (rowsD g.2))))).kill [17, 18] =
    .nx (stq x0 (some b') x2 (some (.d (schD T))) (some (.d (stoD T))) (some (evL T)) x6 x7 (some (.d (.str t.n))) y12 (some (.d (rowD g.1))) (some (.d (rowsD g.2)))) ∧ Bag b' := by
  have hgl := Nat.le_trans ((O.g ht).sublist hg).length_le (O.rl t ht)
  obtain ⟨n1, n2⟩ := (O.g ht).ne g hg
  obtain ⟨ks, b', e1, hb', hks⟩ := keptlc 1 m (by omega) 12 (fun b => [x0, some b, x2, some (.d (schD T)), some (.d (stoD T)), some (evL T), x6, x7, some (.d (.str t.n)), none, none, none, none, none, none, some (.d (rowD g.1)), some (.d (rowsD g.2)), none, none, none, none, none, none, none]) (fun _ _ => rfl) (fun _ _ _ => rfl) (fun _ _ => rfl) (fun _ _ => rfl) g.2 [] hb (by simp [lim]; omega)
  refine ⟨b', ?_, hb'⟩
  simp [evL] at e1
  have hT := O.len
  have hri : X.d (rowsD g.2) = .d (.tuple (g.2.map rowD)) := rfl
  simp [evL, Function.comp_def]
  rw [hri]
  simp [Function.comp_def]
  rw [← hri]
  rw [e1]
  have hdk : datas (ks.map fun r => X.d (rowD r)) = some (ks.map rowD) := datas_map _ _
  have fin : ∀ kp : List Row, kp ≠ [] → kp.Sublist g.2 → Fl.kill [17, 18] ((ex1 (call F G m) G (.set (.n 18) (.u .tuple (.lc [19, 22] (.tup [(.v 19), (.u .tuple (.lc [12] (.v 12) (.n 12) (.v 22) [(.or_ (.tr (.b .ne (.p 19) (.p 8))) (.or_ (.tr (.b .notin (.p 12) (.p 16))) (.tr (.b .in_ (.p 12) (.p 17)))))]))]) (.t [(.n 19), (.n 22)]) (.v 4) []))) [x0, some b', x2, some (.d (schD T)), some (.d (stoD T)), some (.d (.list ((prs T).map evE))), x6, x7, some (.d (.str t.n)), none, none, none, y12, none, none, some (.d (rowD g.1)), some (.d (rowsD g.2)), some (.d (rowsD kp)), none, none, none, none, none, none]).andThen (exs (call F G m) G [(.if_ (.u .not_ (.tr (.call f__law_alike [(.lst [(.call f__law_come_to [(.k (.int 3)), (.v 3), (.v 4), (.v 8), (.v 17)]), (.call f_checked_store [(.v 3), (.v 18)])]), (.lst [(.tup [(.k (.str (Str.ofString "told"))), (.v 18)]), (.v 18)])]))) [(.ret (.k (.bool false)))] [])])) =
      .nx [x0, some b', x2, some (.d (schD T)), some (.d (stoD T)), some (.d (.list ((prs T).map evE))), x6, x7, some (.d (.str t.n)), none, none, none, y12, none, none, some (.d (rowD g.1)), some (.d (rowsD g.2)), none, none, none, none, none, none, none] := fun kp hk1 hk2 => by
    have hkl : kp.length ≤ 4 := Nat.le_trans hk2.length_le hgl
    have hkr : ∀ r ∈ kp, r ∈ t.rs := fun r hr => (O.g ht).sub hg (hk2.subset hr)
    have hk3 : ∀ r ∈ kp, r.length ≤ 3 := fun r hr => O.row3 ht (hkr r hr)
    have hkt : ∀ r ∈ kp, r.take t.k = g.1 := fun r hr => n2 r (hk2.subset hr)
    have hkd : kd (kp.map fun r => r.take t.k) = [g.1] := by
      cases kp with
      | nil => exact absurd rfl hk1
      | cons q l =>
        rw [List.map_cons, hkt q (by simp)]
        show (l.map fun r => r.take t.k).foldl addk (addk [] g.1) = [g.1]
        exact kd_one _ g.1 fun x hx => by
          obtain ⟨r, hr, rfl⟩ := List.mem_map.mp hx
          exact hkt r (List.mem_cons_of_mem _ hr)
    have c3 := c_come3 O ht m (by omega) kp (by omega) hk3 (by
      rw [hkd]
      simp [hk1]
      exact hkr)
    rw [hkd] at c3
    have hrs : (t.rs.filter fun r => decide (r ∈ kp) || !decide (r.take t.k ∈ [g.1])) = t.rs.filter fun r => !decide (r ∈ g.2) || decide (r ∈ kp) := by
      refine List.filter_congr fun r hr => ?_
      have := (O.g ht).mem hg hr
      by_cases h : r ∈ g.2
      · simp [h, this.mp h]
      · have h' : ¬ r.take t.k = g.1 := fun z => h (this.mpr z)
        simp [h, h']
    rw [hrs] at c3
    generalize hR : (t.rs.filter fun r => !decide (r ∈ g.2) || decide (r ∈ kp)) = R at c3
    obtain ⟨O', hsch⟩ := O.cut ht (rs := R) (by rw [← hR]; exact List.filter_sublist)
    have ck := c_checked O' m hm
    rw [hsch] at ck
    have al : call F G m f__law_alike [.lst [.d (told (stoD (cutT T t.n R))), .d (stoD (cutT T t.n R))], .lst [.d (.tuple [.str (Str.ofString "told"), stoD (cutT T t.n R)]), .d (stoD (cutT T t.n R))]] = .ok (.d (.bool true)) [] :=
      c_same (d := .list [told (stoD (cutT T t.n R)), stoD (cutT T t.n R)]) m (by omega) rfl rfl (Sh.lst (m := 2) (n := 603) (dp := 5) (fun x hx => by
        simp at hx
        rcases hx with rfl | rfl
        · exact sh_told O'.sh_sto (by omega)
        · exact O'.sh_sto.mono (by omega) (by omega)) (by simp)) (by omega) (by omega)
    rw [ex_set]
    simp [Function.comp_def, -ex_if]
    have hst : X.d (stoD T) = .d (.tuple (T.map stoE)) := rfl
    rw [hst]
    simp [Function.comp_def, -ex_if]
    rw [lcL_map (f := fun u : Tab => X.d (stoE u)) (fun u => X.d (stoE (if u.n == t.n then { u with rs := R } else u))) (fun u hu => ?_) (by simp only [lim]; omega)]
    rotate_left
    · have hul := O.rl u hu
      simp [lcT, lcT0, stoE, Function.comp_def, items_rows, -itemsD]
      rw [lcL_filter (f := fun r : Row => X.d (rowD r)) (fun r => !(u.n == t.n) || (!decide (r ∈ g.2) || decide (r ∈ kp))) (fun r => X.d (rowD r)) (fun r hr => ?_) (by simp only [lim]; omega)]
      rotate_left
      · by_cases h1 : u.n = t.n
        · by_cases h2 : r ∈ g.2
          · by_cases h3 : r ∈ kp <;> simp [lcT, lcT0, in_rows, -bIn, h1, h2, h3]
          · simp [lcT, lcT0, in_rows, -bIn, h1, h2]
        · simp [lcT, lcT0, in_rows, -bIn, h1]
      have hdf : ∀ l : List Row, datas (l.map fun r => X.d (rowD r)) = some (l.map rowD) := fun l => datas_map _ _
      by_cases h1 : u.n = t.n
      · have hut : u = t := by
          have e2 := find_in O.nd ht
          have e3 := find_in O.nd hu
          rw [h1, e2] at e3
          exact (Option.some.inj e3).symm
        subst hut
        simp [hdf, lim, hR, rowsD]
      · have hft : u.rs.filter (fun r => !(u.n == t.n) || (!decide (r ∈ g.2) || decide (r ∈ kp))) = u.rs := by
          rw [List.filter_eq_self]
          intro r hr
          simp [h1]
        simp [hdf, lim, h1, rowsD, hft]
    rw [← hst]
    have hdc : datas (T.map fun u => X.d (stoE (if u.n == t.n then { u with rs := R } else u))) = some (T.map fun u => stoE (if u.n == t.n then { u with rs := R } else u)) := datas_map _ _
    have hcT : PyData.tuple (T.map fun u => stoE (if u.n == t.n then { u with rs := R } else u)) = stoD (cutT T t.n R) := by simp [stoD, cutT, Function.comp_def]
    simp only [bind_ok, kLc3, back, kU, uop, uTuple, hdc, Option.map_some, hcT, ofO_some, fl_ok, kSet, asg, asgFl, and_nx, List.foldl_cons, List.foldl_nil, List.set_cons_succ, List.set_cons_zero, List.getElem?_cons_succ, List.getElem?_cons_zero, Option.getD_some, Option.getD_none]
    simp [doCall, c3, ck, lim, al]
  by_cases hk : ks = []
  · have f := fin (g.2.drop (g.2.length - 1)) (fun z => by
      have := congrArg List.length z
      have hp : 0 < g.2.length := List.length_pos_iff.mpr n1
      simp at this; omega) (List.drop_sublist _ _)
    subst hk
    simp [-ex_set, -ex_if, eqv_rownil, slice_last _ n1, -sliceOf]
    rw [ex_set]
    simp [-ex_set, -ex_if, eqv_rownil, slice_last _ n1, -sliceOf]
    exact f
  · have f := fin ks hk hks
    simp [-ex_set, -ex_if, hdk]
    rw [show X.d (.tuple (ks.map rowD)) = .d (rowsD ks) from rfl, ex_set]
    simp [-ex_set, -ex_if, eqv_rownil, hk, -sliceOf]
    exact f
end
end Mp
set_option maxHeartbeats 1000000
/-! PL: the law. -/
namespace Mp
open PySem
theorem len_rows (l : List Row) : uLen (.d (rowsD l)) = some (.d (.int l.length)) := by simp [rowsD]
theorem sh_pk {T : List Tab} (O : OkT T) {p : Tab × Gr} (hp : p ∈ prs T) : Sh 9 2 (pk p) := by
  obtain ⟨h1, h2⟩ := mem_prs.mp hp
  exact Sh.tup (m := 2) (n := 4) (dp := 1) (fun x hx => by
    simp at hx
    rcases hx with rfl | rfl
    · have : Sh 1 0 (.str p.1.n) := by rcases O.nm p.1 h1 with h | h | h <;> rw [h] <;> exact Sh.leaf (by decide +kernel)
      exact this.mono (by omega) (by omega)
    · exact sh_row (O.key3 h1 h2)) (by simp)
theorem gone_out {T : List Tab} (O : OkT T) : Str.ofString "gone" ∉ T.map Tab.n := fun h => by
  obtain ⟨t, ht, e⟩ := List.mem_map.mp h
  rcases O.nm t ht with h | h | h <;> rw [h] at e <;> exact absurd e (by decide +kernel)
theorem c_bag (n : Nat) (hn : 1 ≤ n) (ns : List Int) : ∃ l : List Int, l.length ≤ 63 ∧ call F G n f__law_bag [.d (.list (ns.map .int))] = .ok (bagX 0 1234567891 0 l) [] := by
  obtain ⟨m, hm, rfl, e⟩ := ev_at n [.d (.list (ns.map .int))] 0 hn F__law_bag rfl
  have hl : (cut ns none (some 63)).length ≤ 63 := by
    rw [show (63 : Int) = ((63 : Nat) : Int) from rfl, cut_take, List.length_take]; omega
  refine ⟨(cut ns none (some 63)).map fun i => if i < 0 then -i else i, by simpa using hl, ?_⟩
  rw [e]
  simp [b__law_bag, cut_map, Function.comp_def]
  rw [lcL_map (f := fun i : Int => X.d (.int i)) (fun i => X.d (.int (if i < 0 then -i else i))) (fun i hi => ?_) (by simp only [lim]; omega)]
  rotate_left
  · simp [lcT, lcT0]
  simp [dats_map (fun i : Int => PyData.int (if i < 0 then -i else i)), bagX, Function.comp_def, lim]
def uns (T : List Tab) : List (Tab × Gr) := (prs T).filter fun p : Tab × Gr => decide (1 < p.2.2.length)
def toldX (T : List Tab) : X := .lst ((prs T).map fun p => X.d (pk p))
def unsX (T : List Tab) : X := .lst ((uns T).map fun p => X.d (pk p))
theorem lc_none {turn : X → S → R S (Option X)} : ∀ (W : List D) (s : S), (∀ d ∈ W, turn (X.d d) s = .ok none s) → lcL turn (W.map X.d) [] s = .ok [] s
  | [], s, _ => rfl
  | d :: W, s, h => by
    show lcL turn (X.d d :: W.map X.d) [] s = _
    unfold lcL
    rw [h d List.mem_cons_self]
    exact lc_none W s fun x hx => h x (List.mem_cons_of_mem _ hx)
theorem law_turn (m : Nat) (hm : 10 ≤ m) {b : X} (hb : Bag b) (x0 x2 y8 y12 y15 y16 : Option X) : ∃ (b' : X) (z8 z12 z15 z16 : Option X), (exs (call F G m) G [(.set (.n 3) (.call f__law_scheme [(.mu 1)])), (.set (.n 4) (.call f__law_store [(.mu 1), (.v 3)])), (.set (.n 5) (.call f__law_every_block [(.v 3), (.v 4)])), (.set (.n 6) (.lc [8, 15, 16] (.tup [(.v 8), (.v 15)]) (.t [(.n 8), (.n 15), (.n 16)]) (.v 5) [])), (.set (.n 7) (.lc [8, 15, 16] (.tup [(.v 8), (.v 15)]) (.t [(.n 8), (.n 15), (.n 16)]) (.v 5) [(.tr (.b .gt (.u .len (.p 16)) (.k (.int 1))))])), (.if_ (.u .not_ (.tr (.call f__law_alike [(.lst [(.call f_all_blocks [(.v 3), (.v 4)]), (.call f_doubtful [(.v 3), (.v 4)]), (.call f_is_settled [(.v 3), (.v 4)])]), (.lst [(.u .tuple (.p 6)), (.u .tuple (.p 7)), (.b .eq (.p 7) (.lst []))])]))) [(.ret (.k (.bool false)))] []), (.for_ [9, 10, 11, 13, 14] (.t [(.n 8), (.n 9), (.n 10)]) (.v 3) [(.set (.n 11) (.lc [19, 15, 16] (.tup [(.v 15), (.v 16)]) (.t [(.n 19), (.n 15), (.n 16)]) (.v 5) [(.tr (.b .eq (.p 19) (.p 8)))])), (.if_ (.u .not_ (.tr (.call f__law_alike [(.call f__law_come_to [(.k (.int 1)), (.v 3), (.v 4), (.v 8), (.k .none)]), (.tup [(.k (.str (Str.ofString "told"))), (.u .tuple (.lc [15, 16] (.v 16) (.t [(.n 15), (.n 16)]) (.v 11) []))])]))) [(.ret (.k (.bool false)))] []), (.set (.n 12) (.u .tuple (.lc [20] (.call f__law_small_value [(.mu 1)]) (.n 20) (.range (.v 9)) []))), (.set (.n 13) (.b .ix (.b .add (.lc [15, 16] (.v 16) (.t [(.n 15), (.n 16)]) (.v 11) [(.tr (.call f__law_alike [(.v 15), (.slice (.p 12) none (some (.v 10)))]))]) (.lst [(.tup [])])) (.k (.int 0)))), (.if_ (.u .not_ (.tr (.call f__law_alike [(.lst [(.call f__law_come_to [(.k (.int 0)), (.v 3), (.v 4), (.v 8), (.v 12)]), (.call f__law_come_to [(.k (.int 2)), (.v 3), (.v 4), (.v 8), (.slice (.p 12) none (some (.v 10)))])]), (.lst [(.tup [(.k (.str (Str.ofString "told"))), (.slice (.p 12) none (some (.v 10)))]), (.tup [(.k (.str (Str.ofString "told"))), (.v 13)])])]))) [(.ret (.k (.bool false)))] []), (.set (.n 14) (.lst [(.tup []), (.k .none), (.ite (.or_ (.tr (.b .eq (.p 13) (.tup []))) (.tr (.b .notin (.p 12) (.p 13)))) (.tup [(.v 12)]) (.tup [])), (.ite (.tr (.b .gt (.u .len (.p 11)) (.k (.int 1)))) (.u .tuple (.lc [15, 16] (.b .ix (.p 16) (.k (.int 0))) (.t [(.n 15), (.n 16)]) (.v 11) [])) (.tup []))])), (.if_ (.tr (.b .ne (.lc [21] (.v 21) (.n 21) (.v 14) [(.tr (.b .ne (.call f__law_come_to [(.k (.int 3)), (.v 3), (.v 4), (.v 8), (.v 21)]) (.tup [(.k (.str (Str.ofString "nothing")))])))]) (.lst []))) [(.ret (.k (.bool false)))] [])]), (.for_ [17, 18] (.t [(.n 8), (.n 15), (.n 16)]) (.v 5) [(.set (.n 17) (.u .tuple (.lc [12] (.v 12) (.n 12) (.v 16) [(.tr (.b .eq (.call f__law_take [(.mu 1), (.k (.int 2))]) (.k (.int 0))))]))), (.set (.n 17) (.ite (.tr (.b .ne (.p 17) (.tup []))) (.v 17) (.slice (.p 16) (some (.u .neg (.k (.int 1)))) none))), (.set (.n 18) (.u .tuple (.lc [19, 22] (.tup [(.v 19), (.u .tuple (.lc [12] (.v 12) (.n 12) (.v 22) [(.or_ (.tr (.b .ne (.p 19) (.p 8))) (.or_ (.tr (.b .notin (.p 12) (.p 16))) (.tr (.b .in_ (.p 12) (.p 17)))))]))]) (.t [(.n 19), (.n 22)]) (.v 4) []))), (.if_ (.u .not_ (.tr (.call f__law_alike [(.lst [(.call f__law_come_to [(.k (.int 3)), (.v 3), (.v 4), (.v 8), (.v 17)]), (.call f_checked_store [(.v 3), (.v 18)])]), (.lst [(.tup [(.k (.str (Str.ofString "told"))), (.v 18)]), (.v 18)])]))) [(.ret (.k (.bool false)))] [])]), (.if_ (.tr (.b .ne (.lc [23] (.v 23) (.n 23) (.tup [(.k (.int 1)), (.k (.int 2)), (.k (.int 3))]) [(.tr (.b .ne (.call f__law_come_to [(.v 23), (.v 3), (.v 4), (.k (.str (Str.ofString "gone"))), (.tup [(.tup [(.k (.int 1))])])]) (.tup [(.k (.str (Str.ofString "nothing")))])))]) (.lst []))) [(.ret (.k (.bool false)))] [])] (stq x0 (some b) x2 none none none none none y8 y12 y15 y16)).kill [2, 3, 4, 5, 6, 7, 9, 10, 11, 13, 14, 17, 18] = .nx (stq x0 (some b') none none none none none none z8 z12 z15 z16) ∧ Bag b' := by
  obtain ⟨T0, b1, e1, h1, SO⟩ := c_scheme m (by omega) hb
  obtain ⟨T, b2, e2, h2, O, hsch⟩ := c_store m (by omega) h1 SO
  rw [← hsch] at e1 e2
  have e3 := c_levery m (by omega) O
  have hp := O.plen
  have de : dats? ((prs T).map fun p => X.d (evE p)) = some ((prs T).map evE) := dats_map _ _
  have ea := c_every O m (by omega)
  have ed := c_doubtful O m (by omega)
  have es := c_settled O m (by omega)
  -- the loops
  have K7 := forL_rel (l := T) (f := fun t => X.d (schE t)) (body := forT (call F G m) G [9, 10, 11, 13, 14] (.t [.n 8, .n 9, .n 10]) [(.set (.n 11) (.lc [19, 15, 16] (.tup [(.v 15), (.v 16)]) (.t [(.n 19), (.n 15), (.n 16)]) (.v 5) [(.tr (.b .eq (.p 19) (.p 8)))])), (.if_ (.u .not_ (.tr (.call f__law_alike [(.call f__law_come_to [(.k (.int 1)), (.v 3), (.v 4), (.v 8), (.k .none)]), (.tup [(.k (.str (Str.ofString "told"))), (.u .tuple (.lc [15, 16] (.v 16) (.t [(.n 15), (.n 16)]) (.v 11) []))])]))) [(.ret (.k (.bool false)))] []), (.set (.n 12) (.u .tuple (.lc [20] (.call f__law_small_value [(.mu 1)]) (.n 20) (.range (.v 9)) []))), (.set (.n 13) (.b .ix (.b .add (.lc [15, 16] (.v 16) (.t [(.n 15), (.n 16)]) (.v 11) [(.tr (.call f__law_alike [(.v 15), (.slice (.p 12) none (some (.v 10)))]))]) (.lst [(.tup [])])) (.k (.int 0)))), (.if_ (.u .not_ (.tr (.call f__law_alike [(.lst [(.call f__law_come_to [(.k (.int 0)), (.v 3), (.v 4), (.v 8), (.v 12)]), (.call f__law_come_to [(.k (.int 2)), (.v 3), (.v 4), (.v 8), (.slice (.p 12) none (some (.v 10)))])]), (.lst [(.tup [(.k (.str (Str.ofString "told"))), (.slice (.p 12) none (some (.v 10)))]), (.tup [(.k (.str (Str.ofString "told"))), (.v 13)])])]))) [(.ret (.k (.bool false)))] []), (.set (.n 14) (.lst [(.tup []), (.k .none), (.ite (.or_ (.tr (.b .eq (.p 13) (.tup []))) (.tr (.b .notin (.p 12) (.p 13)))) (.tup [(.v 12)]) (.tup [])), (.ite (.tr (.b .gt (.u .len (.p 11)) (.k (.int 1)))) (.u .tuple (.lc [15, 16] (.b .ix (.p 16) (.k (.int 0))) (.t [(.n 15), (.n 16)]) (.v 11) [])) (.tup []))])), (.if_ (.tr (.b .ne (.lc [21] (.v 21) (.n 21) (.v 14) [(.tr (.b .ne (.call f__law_come_to [(.k (.int 3)), (.v 3), (.v 4), (.v 8), (.v 21)]) (.tup [(.k (.str (Str.ofString "nothing")))])))]) (.lst []))) [(.ret (.k (.bool false)))] [])])
    (fun _ t => ∃ (b' : X) (u8 u12 : Option X), Bag b' ∧ t = stq x0 (some b') x2 (some (.d (schD T))) (some (.d (stoD T))) (some (evL T)) (some (toldX T)) (some (unsX T)) u8 u12 y15 y16) [] (fun pre t post s el ⟨b', u8, u12, hb', e⟩ => by
      subst e
      have ht : t ∈ T := by rw [el]; simp
      obtain ⟨b'', v12, e, hb''⟩ := law_b7 O ht m (by omega) hb' x0 x2 (some (toldX T)) (some (unsX T)) u12 y15 y16
      exact ⟨_, e, b'', _, v12, hb'', rfl⟩) T (stq x0 (some b2) x2 (some (.d (schD T))) (some (.d (stoD T))) (some (evL T)) (some (toldX T)) (some (unsX T)) y8 y12 y15 y16) rfl ⟨b2, y8, y12, h2, rfl⟩
  obtain ⟨t7, k7, b7, u8, u12, hb7, e7⟩ := K7
  subst e7
  have K8 := forL_rel (l := prs T) (f := fun p => X.d (evE p)) (body := forT (call F G m) G [17, 18] (.t [.n 8, .n 15, .n 16]) [(.set (.n 17) (.u .tuple (.lc [12] (.v 12) (.n 12) (.v 16) [(.tr (.b .eq (.call f__law_take [(.mu 1), (.k (.int 2))]) (.k (.int 0))))]))), (.set (.n 17) (.ite (.tr (.b .ne (.p 17) (.tup []))) (.v 17) (.slice (.p 16) (some (.u .neg (.k (.int 1)))) none))), (.set (.n 18) (.u .tuple (.lc [19, 22] (.tup [(.v 19), (.u .tuple (.lc [12] (.v 12) (.n 12) (.v 22) [(.or_ (.tr (.b .ne (.p 19) (.p 8))) (.or_ (.tr (.b .notin (.p 12) (.p 16))) (.tr (.b .in_ (.p 12) (.p 17)))))]))]) (.t [(.n 19), (.n 22)]) (.v 4) []))), (.if_ (.u .not_ (.tr (.call f__law_alike [(.lst [(.call f__law_come_to [(.k (.int 3)), (.v 3), (.v 4), (.v 8), (.v 17)]), (.call f_checked_store [(.v 3), (.v 18)])]), (.lst [(.tup [(.k (.str (Str.ofString "told"))), (.v 18)]), (.v 18)])]))) [(.ret (.k (.bool false)))] [])])
    (fun _ t => ∃ (b' : X) (v8 v15 v16 : Option X), Bag b' ∧ t = stq x0 (some b') x2 (some (.d (schD T))) (some (.d (stoD T))) (some (evL T)) (some (toldX T)) (some (unsX T)) v8 u12 v15 v16) [] (fun pre p post s el ⟨b', v8, v15, v16, hb', e⟩ => by
      subst e
      have hpp : p ∈ prs T := by rw [el]; simp
      obtain ⟨q1, q2⟩ := mem_prs.mp hpp
      obtain ⟨b'', e, hb''⟩ := law_b8 O q1 m (by omega) q2 hb' x0 x2 (some (toldX T)) (some (unsX T)) u12
      exact ⟨_, e, b'', _, _, _, hb'', rfl⟩) (prs T) _ rfl ⟨b7, u8, y15, y16, hb7, rfl⟩
  obtain ⟨t8, k8, b8, v8, v15, v16, hb8, e8⟩ := K8
  subst e8
  refine ⟨b8, v8, u12, v15, v16, ?_, hb8⟩
  simp [doCall, e1, e2, e3, de, Function.comp_def]
  rw [lcL_map (f := fun p : Tab × Gr => X.d (evE p)) (fun p => X.d (pk p)) (fun p hp => ?_) (by simp only [lim]; omega)]
  rotate_left
  · simp [lcT, lcT0, evE, pk, lim]
  simp [Function.comp_def]
  rw [lcL_filter (f := fun p : Tab × Gr => X.d (evE p)) (fun p => decide (1 < p.2.2.length)) (fun p => X.d (pk p)) (fun p hp => ?_) (by simp only [lim]; omega)]
  rotate_left
  · by_cases h : 1 < p.2.2.length
    · have h' : (1 : Int) < p.2.2.length := by omega
      simp [lcT, lcT0, evE, pk, lim, len_rows, -uLen, h, h']
    · have h' : ¬ (1 : Int) < p.2.2.length := by omega
      simp [lcT, lcT0, evE, pk, lim, len_rows, -uLen, h, h']
  have hun : (uns T).length ≤ 12 := Nat.le_trans (List.length_filter_le _ _) hp
  rw [show ((prs T).filter fun p : Tab × Gr => decide (1 < p.2.2.length)) = uns T from rfl] at ed es ⊢
  have hd1 : datas ((prs T).map fun p => X.d (pk p)) = some ((prs T).map pk) := datas_map _ _
  have hd2 : datas ((uns T).map fun p => X.d (pk p)) = some ((uns T).map pk) := datas_map _ _
  have hd3 : dats? ((uns T).map fun p => X.d (pk p)) = some ((uns T).map pk) := dats_map _ _
  have hz : PyData.eqvAll ((uns T).map pk) [] = decide (uns T = []) := by cases uns T <;> simp
  have al : call F G m f__law_alike [.lst [.d (.tuple ((prs T).map pk)), .d (.tuple ((uns T).map pk)), .d (.bool (decide (uns T = [])))], .lst [.d (.tuple ((prs T).map pk)), .d (.tuple ((uns T).map pk)), .d (.bool (decide (uns T = [])))]] = .ok (.d (.bool true)) [] :=
    c_same (d := .list [.tuple ((prs T).map pk), .tuple ((uns T).map pk), .bool (decide (uns T = []))]) m (by omega) rfl rfl (Sh.lst (m := 3) (n := 109) (dp := 3) (fun x hx => by
      simp at hx
      rcases hx with rfl | rfl | rfl
      · exact Sh.tup (m := 12) (n := 9) (fun y hy => by obtain ⟨p, hp, rfl⟩ := List.mem_map.mp hy; exact sh_pk O hp) (by simpa using hp)
      · exact Sh.tup (m := 12) (n := 9) (fun y hy => by obtain ⟨p, hp, rfl⟩ := List.mem_map.mp hy; exact sh_pk O (List.mem_filter.mp hp).1) (by simpa using hun)
      · have : Sh 1 0 (.bool (decide (uns T = []))) := by cases decide (uns T = []) <;> exact Sh.leaf (by decide +kernel)
        exact this.mono (by omega) (by omega)) (by simp)) (by omega) (by omega)
  have kf : ∀ kill tg body s, kFor (call F G m) G kill tg body (.d (schD T)) s = forL (forT (call F G m) G kill tg body) (T.map fun t => X.d (schE t)) (kills kill s) := fun kill tg body s => by simp [kFor, forI, schD, Function.comp_def]
  have kf2 : ∀ kill tg body s, kFor (call F G m) G kill tg body (.d (.list ((prs T).map evE))) s = forL (forT (call F G m) G kill tg body) ((prs T).map fun p => X.d (evE p)) (kills kill s) := fun kill tg body s => by simp [kFor, forI, Function.comp_def]
  simp only [stq, evL, toldX, unsX] at k7 k8
  simp [doCall, ea, ed, es, hd1, hd2, hd3, hz, lim, al, kf, -ex_if]
  rw [ex_if]
  simp [doCall, ea, ed, es, hd1, hd2, hd3, hz, lim, al, kf, -ex_if]
  rw [k7]
  simp [kf2, -ex_if]
  rw [k8]
  simp [-ex_if]
  rw [ex_if]
  have gw : ∀ w ∈ [PyData.int 1, PyData.int 2, PyData.int 3], call F G m f__law_come_to [.d w, .d (schD T), .d (stoD T), .d (.str (Str.ofString "gone")), .d (.tuple [.tuple [.int 1]])] = .ok (.d noth) [] := fun w hw => by
    simp at hw
    rcases hw with rfl | rfl | rfl
    · exact c_out1 (gone_out O) m (by omega) _
    · exact c_out2 (gone_out O) m (by omega)
    · exact c_out3 (gone_out O) m (by omega) _
  have lw : ∀ s : S, (∀ w ∈ [PyData.int 1, PyData.int 2, PyData.int 3], lcT (call F G m) G [23] (.v 23) (.n 23) [(.tr (.b .ne (.call f__law_come_to [(.v 23), (.v 3), (.v 4), (.k (.str (Str.ofString "gone"))), (.tup [(.tup [(.k (.int 1))])])]) (.tup [(.k (.str (Str.ofString "nothing")))])))] (X.d w) s = .ok none s) → lcL (lcT (call F G m) G [23] (.v 23) (.n 23) [(.tr (.b .ne (.call f__law_come_to [(.v 23), (.v 3), (.v 4), (.k (.str (Str.ofString "gone"))), (.tup [(.tup [(.k (.int 1))])])]) (.tup [(.k (.str (Str.ofString "nothing")))])))]) [X.d (.int 1), X.d (.int 2), X.d (.int 3)] [] s = .ok [] s := fun s h =>
    lc_none [PyData.int 1, PyData.int 2, PyData.int 3] s h
  simp [lim]
  rw [lw _ fun w hw => ?_]
  · simp [lim]
  · have hdp : deep noth noth = true := by decide +kernel
    have heq : PyData.eqv noth noth = true := by decide +kernel
    simp only [noth] at hdp heq
    simp [lcT, lcT0, doCall, gw w hw, noth, lim, hdp, heq]
theorem law_runs : LawRuns := fun ns hn hz => by
  obtain ⟨m, hm, e0, e⟩ := ev_at 12 [.d (.list (ns.map .int))] 11 (by omega) F_law rfl
  have e0 : m = 11 := by omega
  subst e0
  rw [e]
  obtain ⟨l, hl, eb⟩ := c_bag 11 (by omega) ns
  obtain ⟨t', k1, b', z8, z12, z15, z16, hb', et⟩ := forL_rel (l := List.range 8) (f := fun i : Nat => X.d (.int (i : Int))) (body := forT (call F G 11) G [2, 3, 4, 5, 6, 7, 9, 10, 11, 13, 14, 17, 18] (.n 2) [(.set (.n 3) (.call f__law_scheme [(.mu 1)])), (.set (.n 4) (.call f__law_store [(.mu 1), (.v 3)])), (.set (.n 5) (.call f__law_every_block [(.v 3), (.v 4)])), (.set (.n 6) (.lc [8, 15, 16] (.tup [(.v 8), (.v 15)]) (.t [(.n 8), (.n 15), (.n 16)]) (.v 5) [])), (.set (.n 7) (.lc [8, 15, 16] (.tup [(.v 8), (.v 15)]) (.t [(.n 8), (.n 15), (.n 16)]) (.v 5) [(.tr (.b .gt (.u .len (.p 16)) (.k (.int 1))))])), (.if_ (.u .not_ (.tr (.call f__law_alike [(.lst [(.call f_all_blocks [(.v 3), (.v 4)]), (.call f_doubtful [(.v 3), (.v 4)]), (.call f_is_settled [(.v 3), (.v 4)])]), (.lst [(.u .tuple (.p 6)), (.u .tuple (.p 7)), (.b .eq (.p 7) (.lst []))])]))) [(.ret (.k (.bool false)))] []), (.for_ [9, 10, 11, 13, 14] (.t [(.n 8), (.n 9), (.n 10)]) (.v 3) [(.set (.n 11) (.lc [19, 15, 16] (.tup [(.v 15), (.v 16)]) (.t [(.n 19), (.n 15), (.n 16)]) (.v 5) [(.tr (.b .eq (.p 19) (.p 8)))])), (.if_ (.u .not_ (.tr (.call f__law_alike [(.call f__law_come_to [(.k (.int 1)), (.v 3), (.v 4), (.v 8), (.k .none)]), (.tup [(.k (.str (Str.ofString "told"))), (.u .tuple (.lc [15, 16] (.v 16) (.t [(.n 15), (.n 16)]) (.v 11) []))])]))) [(.ret (.k (.bool false)))] []), (.set (.n 12) (.u .tuple (.lc [20] (.call f__law_small_value [(.mu 1)]) (.n 20) (.range (.v 9)) []))), (.set (.n 13) (.b .ix (.b .add (.lc [15, 16] (.v 16) (.t [(.n 15), (.n 16)]) (.v 11) [(.tr (.call f__law_alike [(.v 15), (.slice (.p 12) none (some (.v 10)))]))]) (.lst [(.tup [])])) (.k (.int 0)))), (.if_ (.u .not_ (.tr (.call f__law_alike [(.lst [(.call f__law_come_to [(.k (.int 0)), (.v 3), (.v 4), (.v 8), (.v 12)]), (.call f__law_come_to [(.k (.int 2)), (.v 3), (.v 4), (.v 8), (.slice (.p 12) none (some (.v 10)))])]), (.lst [(.tup [(.k (.str (Str.ofString "told"))), (.slice (.p 12) none (some (.v 10)))]), (.tup [(.k (.str (Str.ofString "told"))), (.v 13)])])]))) [(.ret (.k (.bool false)))] []), (.set (.n 14) (.lst [(.tup []), (.k .none), (.ite (.or_ (.tr (.b .eq (.p 13) (.tup []))) (.tr (.b .notin (.p 12) (.p 13)))) (.tup [(.v 12)]) (.tup [])), (.ite (.tr (.b .gt (.u .len (.p 11)) (.k (.int 1)))) (.u .tuple (.lc [15, 16] (.b .ix (.p 16) (.k (.int 0))) (.t [(.n 15), (.n 16)]) (.v 11) [])) (.tup []))])), (.if_ (.tr (.b .ne (.lc [21] (.v 21) (.n 21) (.v 14) [(.tr (.b .ne (.call f__law_come_to [(.k (.int 3)), (.v 3), (.v 4), (.v 8), (.v 21)]) (.tup [(.k (.str (Str.ofString "nothing")))])))]) (.lst []))) [(.ret (.k (.bool false)))] [])]), (.for_ [17, 18] (.t [(.n 8), (.n 15), (.n 16)]) (.v 5) [(.set (.n 17) (.u .tuple (.lc [12] (.v 12) (.n 12) (.v 16) [(.tr (.b .eq (.call f__law_take [(.mu 1), (.k (.int 2))]) (.k (.int 0))))]))), (.set (.n 17) (.ite (.tr (.b .ne (.p 17) (.tup []))) (.v 17) (.slice (.p 16) (some (.u .neg (.k (.int 1)))) none))), (.set (.n 18) (.u .tuple (.lc [19, 22] (.tup [(.v 19), (.u .tuple (.lc [12] (.v 12) (.n 12) (.v 22) [(.or_ (.tr (.b .ne (.p 19) (.p 8))) (.or_ (.tr (.b .notin (.p 12) (.p 16))) (.tr (.b .in_ (.p 12) (.p 17)))))]))]) (.t [(.n 19), (.n 22)]) (.v 4) []))), (.if_ (.u .not_ (.tr (.call f__law_alike [(.lst [(.call f__law_come_to [(.k (.int 3)), (.v 3), (.v 4), (.v 8), (.v 17)]), (.call f_checked_store [(.v 3), (.v 18)])]), (.lst [(.tup [(.k (.str (Str.ofString "told"))), (.v 18)]), (.v 18)])]))) [(.ret (.k (.bool false)))] [])]), (.if_ (.tr (.b .ne (.lc [23] (.v 23) (.n 23) (.tup [(.k (.int 1)), (.k (.int 2)), (.k (.int 3))]) [(.tr (.b .ne (.call f__law_come_to [(.v 23), (.v 3), (.v 4), (.k (.str (Str.ofString "gone"))), (.tup [(.tup [(.k (.int 1))])])]) (.tup [(.k (.str (Str.ofString "nothing")))])))]) (.lst []))) [(.ret (.k (.bool false)))] [])])
    (fun _ t => ∃ (b' : X) (z8 z12 z15 z16 : Option X), Bag b' ∧ t = stq (some (.d (.list (ns.map .int)))) (some b') none none none none none none z8 z12 z15 z16) [] (fun pre i post s el ⟨b', z8, z12, z15, z16, hb', e⟩ => by
      subst e
      obtain ⟨b'', w8, w12, w15, w16, e, hb''⟩ := law_turn 11 (by omega) hb' (some (.d (.list (ns.map .int)))) (some (.d (.int i))) z8 z12 z15 z16
      exact ⟨_, e, b'', w8, w12, w15, w16, hb'', rfl⟩) (List.range 8) (stq (some (.d (.list (ns.map .int)))) (some (bagX 0 1234567891 0 l)) none none none none none none none none none none) rfl ⟨_, none, none, none, none, ⟨_, _, _, l, hl, rfl⟩, rfl⟩
  subst et
  simp only [stq] at k1
  simp [b_law, doCall, eb, kFor, forI, lim, Function.comp_def]
  rw [k1]
  simp
end Mp
set_option maxHeartbeats 0
open PySem PySem.W PySem.Calls PyProof.Rows
theorem PySem.Challenge.cw_certainrows_k02_blocks_and_doubts_holds : PySem.Challenge.rw_certainrows_k02_blocks_and_doubts.Holds := by
  w_on; o_law
  refine HandSHeadRun.head_any (r := Hd.R) (q := view Hd.R.prog [61]) (H := Hd.hk) (ob := Hd.ob) (M := 4000) (loose := Hd.names) (d := HandSHeadRun.topDef Hd.R.prog 61) (kwd := []) Hd.ob_eq
    (by kernel_rfl) (fun s => by kernel_rfl) Hd.run (by kernel_rfl) (by kernel_rfl) (by kernel_rfl) (by rfl) (by first | assumption | decide +kernel) (by decide +kernel) ⟨rfl, rfl, rfl, rfl, rfl, by decide +kernel⟩ ?hw ?hc
  case hw => w_witness2
  case hc =>
    refine Mp.walk_ofG (l := PySem.Challenge.rw_certainrows_k02_blocks_and_doubts) (n := 63) (k := 12) (x := "script") rfl (by decide) (by kernel_rfl) ⟨rfl, by decide, by decide⟩ ?F
    intro w mg fa h Y Gm hmg0
    obtain ⟨K, KX, c⟩ := Y
    have hmg : mg ("law" : PySem.Str) = some (.ref fa) := by
      have e : (HandSHeadRun.topDef Hd.R.prog 61).name = ("law" : PySem.Str) := by kernel_rfl
      rw [← e]
      exact hmg0
    exact Mp.fin KX Gm hmg c Mp.law_runs
